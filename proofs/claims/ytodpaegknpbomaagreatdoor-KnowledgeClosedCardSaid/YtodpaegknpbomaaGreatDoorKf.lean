/- Contracts of functions of the program. No conditions. -/
import Derived.Test.YtodpaegknpbomaaGreatDoorKe
import Derived.Test.YtodpaegknpbomaaGreatDoorProg
set_option linter.unusedSimpArgs false
set_option linter.unusedVariables false
set_option linter.unusedSectionVars false
set_option maxRecDepth 20000
set_option maxHeartbeats 8000000
namespace Px
open Go Go.RowKit Go.Proofs Go.Proofs.Tryz
variable {c:Cm} {Z:Fx} {kv:List (Int×Int)} {cs:List Cm} {gs:List Gv} {ns:List Nd} {pls:List Pl} {kn:List Se} {m:Nat} {f:Nat->Int} {a:Option Addr} {p:Pl} {r:eF} {s:Se} {v:Value->Value} {w:World}
theorem nTl(hZ:FxOk Z)(cs:List Cm)(bX:cs.length<=1000)(dG:∀c∈cs,bO c)(N:Nat)(la:Option Addr)(lc:Nat)(w:World)(hN:N<=w.heap.size)(aI:ai cP 73 N w la cs)(hC:∀c∈cs,dC N w c)(fo:Fo)(hg:Glb w):Calls prog 33 #[.agg (qQ fo),.slice la cs.length lc] w (dc w (λq:(((Option Addr×Nat)×(Option Addr×Nat))×List Cd)×ad=>.tuple #[.slice q.1.1.1.1 q.1.2.length q.1.1.1.2,.slice q.1.1.2.1 q.1.2.length q.1.1.2.2]) (λq w1=>AlV Z cs fo q.2 q.1.2/\iN (λx=>(aA x).toArray) 1 q.2 q.1.1.1.1 (q.1.2.map λd=>d.at_)/\iN (λx=>(lP x).toArray) 36 q.2 q.1.1.2.1 (q.1.2.map λd=>d.x)/\∀p∈q.2,w.heap.size<=p.1/\w1.heap[p.1]? =some p.2)):=
 (n8h hZ cs bX dG N la lc w hN aI hC fo hg).mono (by
  rintro e w' ⟨q,F',he,hb,hF,h1,h2,h3⟩;exact⟨(q,F'),he,hb,h1,h2,h3,hF⟩)
theorem aD.fz{α:Type}{enc:α->List Value}{t:Nat}{xs:List α}{w':World}{e:Ending}(hm:∀x,(enc x).length=m)(h:aD w enc m t xs v e w'):∃(x:Option Addr×Nat) (F':ad),e= .returned (v (.slice x.1 xs.length x.2))/\Below w.heap.size w w'/\(∀p∈F',w.heap.size<=p.1/\w'.heap[p.1]? =some p.2)/\iN (λx=>(enc x).toArray) m F' x.1 xs:=by
 obtain⟨r,rfl,hb,J,bQ,fF⟩:=h;obtain⟨a,cp,he,aI⟩:=r.sl hm bQ fF (aj _);obtain⟨F,h1,h2⟩:=aI.fs (K:=w.heap.size) (λb qP=>by
  cases r with
  |nil=>simp only[Rw.val,Value.slice.injEq]at he;rw[<-he.1]at qP;cases qP
  |row b' cap sp=>simp only[Rw.val,Value.slice.injEq]at he;rw[<-he.1]at qP;cases qP;exact J)
 exact⟨(a,cp),F,by rw[he],hb,h1,h2⟩
def vU (gs:List Gv) (k:Nat) (c:Cm) (m:Nat):Gv:=if 0<k then((gs.drop m).find? λx=>iD x.g.last c.par).getD gj else gj
theorem Np{k:Nat}(h:gs.length<=m):vU gs k c m=gj:=by
 unfold vU;rw[List.drop_eq_nil_of_le h];split<;>rfl
theorem n2m{x:Gv}(hx:gs[m]? =some x):gs.drop m=x::gs.drop (m+1):=by
 obtain⟨h,e⟩:=hJ.1 hx;rw[aNq h,e]
theorem Nq{k:Nat}{x:Gv}(hx:gs[m]? =some x)(hk:0<k)(h:iD x.g.last c.par=true):vU gs k c m=x:=by
 unfold vU;rw[if_pos hk,n2m hx];simp[List.find?_cons,h]
theorem Uw{k:Nat}{x:Gv}(hx:gs[m]? =some x)(h:iD x.g.last c.par=false):vU gs k c m=vU gs k c (m+1):=by
 unfold vU;rw[n2m hx];simp[List.find?_cons,h]
theorem Nr{k:Nat}(h:¬(0<m/\0<k)):qR (gs.map (·.g)) k c=(vU gs k c m).g.ns:=by
 unfold qR vU;by_cases hk:0<k
 ·obtain rfl:m=0:=by omega
  rw[if_pos hk,if_pos hk,nCg,Pt];cases gs.find? λx=>iD x.g.last c.par<;>rfl
 rw[if_neg hk,if_neg hk];rfl
theorem ach(F:ad):qp F gj:=⟨.inl rfl,.inl rfl,by simp[gj,uF],by simp[gj,uF]⟩
theorem aci{F:ad}{k:Nat}(h:∀x∈gs,qp F x):qp F (vU gs k c m):=by
 unfold vU;split
 ·cases e:(gs.drop m).find? λx=>iD x.g.last c.par with
  |none=>exact ach F
  |some x=>exact h x (List.mem_of_mem_drop (WZ e))
 exact ach F
def BF (ns:List Nd) (l:List Ch):Prop:=∀(j:Nat) (x:Ch),l[j]? =some x->(if x.kind=2 then pK (aQ ns (l.take j)) x.dev else pL (aQ ns (l.take j)) x.dev x.pub)=0
theorem nAo{zs:Array Int}:∀{m:Nat},m<=zs.size->∀(j:Nat),j<m->zs[j]! ∈Go.Lib.compactUpTo zs m
 |0,_,j,h=>by omega
 |m+1,hm,j,h=>by
  rw[Go.Lib.compactUpTo_succ,aY];have ih:=nAo (zs:=zs) (m:=m) aa;rcases Nat.lt_or_ge j m with h1|h1
  ·exact .inl (ih j h1)
  obtain rfl:j=m:=by omega
  cases hk:Go.Lib.keeps zs j with
  |true=>exact .inr zI
  |false=>
   refine .inl ?_;have h2:j≠0/\zs[j]! =zs[j-1]!:=by
    simp only[Go.Lib.keeps,Bool.or_eq_false_iff,decide_eq_false_iff_not]at hk
    grind
   rw[h2.2];exact ih (j-1) aa
theorem nRo{zs:List Int}{x:Int}(h:x∈zs):x∈Go.Lib.compact zs:=by
 obtain⟨j,hj⟩:=ju.1 h;have hl:=nq hj;have:=nAo (zs:=zs.toArray) (m:=zs.length) (aj _) j hl;have e:zs.toArray[j]! =x:=by
  rw[getElem!_pos zs.toArray j K9];simpa using(hJ.1 hj).2
 rw[e]at this;exact this
theorem nCi{d:Int}:d∈eu ns↔di d/\∃n∈ns,n.at_=512+d:=by
 have e:d∈eu ns↔d∈mV ns:=⟨λh=>(List.mergeSort_perm (mV ns) _).mem_iff.1 (nai h),λh=>nRo ((List.mergeSort_perm (mV ns) _).mem_iff.2 h)⟩;rw[e];unfold mV di;simp only[bU,xh,decide_eq_true_eq]
 grind
theorem npi{k:Int}:(aH (dq ns) k).isSome=true↔∃n∈ns,n.at_=k:=by
 have key:∀j,(aH (dq (ns.take j)) k).isSome=true↔∃n∈ns.take j,n.at_=k:=by
  intro j;induction j with
  |zero=>simp[dq,aH,eU]
  |succ j ih=>
   cases hx:ns[j]? with
   |none=>rw[show ns.take (j+1)=ns.take j by rw[iC (by grind),iC (by grind)]];exact ih
   |some x=>
    rw[nFg hx,np hx];unfold Dl;split
    ·rename_i h;rw[ih];constructor
     ·rintro⟨n,h1,h2⟩;exact⟨n,td _ h1,h2⟩
     rintro⟨n,h1,h2⟩;rcases aY.1 h1 with h1|h1
     ·exact⟨n,h1,h2⟩
     rw[fC.1 h1]at h2;rw[h2]at h;exact ih.1 h
    rw[PD];split
    ·rename_i h;exact⟨λ_=>⟨x,by simp,h.symm⟩,λ_=>rfl⟩
    rename_i h;rw[ih];constructor
    ·rintro⟨n,h1,h2⟩;exact⟨n,td _ h1,h2⟩
    rintro⟨n,h1,h2⟩;rcases aY.1 h1 with h1|h1
    ·exact⟨n,h1,h2⟩
    rw[fC.1 h1]at h2;exact absurd h2.symm h
 have:=key ns.length;rwa[ur]at this
theorem nwm{k p:Int}(h:aH (dq ns) k=some p):∃n∈ns,n.at_=k/\n.pub=p:=by
 have key:∀j p,aH (dq (ns.take j)) k=some p->∃n∈ns.take j,n.at_=k/\n.pub=p:=by
  intro j;induction j with
  |zero=>intro p h;simp[dq,aH,eU]at h
  |succ j ih=>
   intro p h;cases hx:ns[j]? with
   |none=>rw[show ns.take (j+1)=ns.take j by rw[iC (by grind),iC (by grind)]]at h ⊢;exact ih p h
   |some x=>
    rw[nFg hx]at h;rw[np hx];unfold Dl at h;split at h
    ·obtain⟨n,h1,h2⟩:=ih p h;exact⟨n,td _ h1,h2⟩
    rw[PD]at h;split at h
    ·rename_i e;exact⟨x,by simp,e.symm,Option.some.inj h⟩
    obtain⟨n,h1,h2⟩:=ih p h;exact⟨n,td _ h1,h2⟩
 exact(λ⟨n,h1,h2⟩=>⟨n,List.mem_of_mem_take h1,h2⟩) (key ns.length p (by rwa[ur]))
def acj (kv:List (Int×Int)):Prop:=∀k p,aH kv k=some p->1<=k/\k<=1023/\eo p/\∃d,di d/\(aH kv (512+d)).isSome=true/\(k=512+d\/k∈dx d)
theorem Ns(n:Int):∀(l:List Int) (kv:List (Int×Bool)),aH (l.foldl Dp kv) n=some true↔n∈l\/aH kv n=some true:=by
 intro l;induction l with
 |nil=>intro kv;simp
 |cons a l ih=>intro kv;rw[List.foldl_cons,ih];unfold Dp;rw[PD];grind
theorem Ih(n:Int):∀(ds:List Int) (kv:List (Int×Bool)),aH (ds.foldl Rj kv) n=some true↔(∃d∈ds,n=512+d\/n∈dx d)\/aH kv n=some true:=by
 intro ds;induction ds with
 |nil=>intro kv;simp
 |cons a l ih=>
  intro kv;rw[List.foldl_cons,ih];unfold Rj;rw[Ns,PD]
  grind
theorem Ux(h:u9 ns):acj (dq ns):=by
 intro k p hk;obtain⟨n,hn,rfl,rfl⟩:=nwm hk;obtain⟨i,hi⟩:=ju.1 hn;obtain⟨h1,h2,_,h4,h5⟩:=h i n hi;refine⟨h1,h2,h4,?_⟩;unfold wT at h5;rw[Ih]at h5;rcases h5 with⟨d,hd,h5⟩|h5
 ·obtain⟨J,h7⟩:=nCi.1 hd;exact⟨d,J,npi.2 h7,h5⟩
 simp[aH,eU]at h5
theorem nHk{k:Int}:(aH kv k).isSome=true↔k∈kv.map (·.1):=by
 rw[<-Option.ne_none_iff_isSome,Ne,nje,Classical.not_not]
theorem nji{n:Nd}(h:n∈nU kv):aH kv n.at_=some n.pub:=by
 obtain⟨k,hk,rfl⟩:=bU.1 h;have:=nHk.2 ((List.mergeSort_perm _ _).mem_iff.1 hk);cases e:aH kv k with
 |none=>rw[e]at this;cases this
 |some p=>simp only[e];rfl
theorem nWl{k p:Int}(h:aH kv k=some p):(⟨k,p⟩:Nd)∈nU kv:=by
 refine bU.2 ⟨k,(List.mergeSort_perm _ _).mem_iff.2 (nHk.1 (by rw[h];rfl)),by rw[h];rfl⟩
theorem njp(k:Int):aH (dq (nU kv)) k=aH kv k:=by
 cases e:aH kv k with
 |none=>
  cases e2:aH (dq (nU kv)) k with
  |none=>rfl
  |some p=>obtain⟨n,hn,h1,h2⟩:=nwm e2;have:=nji hn;rw[h1,e]at this;cases this
 |some p=>
  have h1:=npi.2 ⟨_,nWl e,rfl⟩;cases e2:aH (dq (nU kv)) k with
  |none=>rw[e2]at h1;cases h1
  |some q=>obtain⟨n,hn,h2,h3⟩:=nwm e2;have:=nji hn;rw[h2,h3,e]at this;exact this.symm
theorem Ii(hn:(kv.map (·.1)).Nodup)(h:acj kv):u9 (nU kv):=by
 intro i x hx;have hm:=cu hx;obtain⟨h1,h2,h3,d,h4,h5,h6⟩:=h _ _ (nji hm);refine⟨h1,h2,λy hi hy=>?_,h3,?_⟩
 ·have hs:(eZ (kv.map (·.1))).Pairwise (λa b=>decide (a<=b)=true):=List.pairwise_mergeSort mZ mZ _;have hd:(eZ (kv.map (·.1))).Nodup:=(List.mergeSort_perm _ _).nodup_iff.2 hn;unfold nU at hx hy;rw[oh,wu]at hx hy;obtain⟨a,ha,rfl⟩:=hx;obtain⟨b,hb,rfl⟩:=hy;obtain⟨la,ea⟩:=hJ.1 ha;obtain⟨J,eb⟩:=hJ.1 hb;have h7:=List.pairwise_iff_getElem.1 hs (i-1) i J la aa;have h8:=List.pairwise_iff_getElem.1 hd (i-1) i J la aa;rw[ea,eb]at h7 h8;simp only[decide_eq_true_eq]at h7;show b<a;omega
 unfold wT;rw[Ih];refine .inl ⟨d,nCi.2 ⟨h4,?_⟩,h6⟩;cases e:aH kv (512+d)with
 |none=>rw[e]at h5;cases h5
 |some p=>exact⟨_,nWl e,rfl⟩
theorem nro(h:(kv.map (·.1)).Nodup)(k:Int):((iu kv k).map (·.1)).Nodup:=by
 unfold iu;split
 ·exact h.sublist ((List.eraseIdx_sublist _ _).map _)
 exact h
theorem Ij(k:Int):∀(l:List Int) (kv:List (Int×Int)),(kv.map (·.1)).Nodup->((l.foldl iw kv).map (·.1)).Nodup/\aH (l.foldl iw kv) k=if k∈l then none else aH kv k:=by
 intro l;induction l with
 |nil=>intro kv h;exact⟨h,by simp⟩
 |cons a l ih=>
  intro kv h;have h1:=ih (iw kv a) (nro h a);refine⟨h1.1,?_⟩;rw[List.foldl_cons,h1.2];unfold iw;rw[nTm h]
  grind
theorem nYf(h:(kv.map (·.1)).Nodup)(d k:Int):((mW kv d).map (·.1)).Nodup/\aH (mW kv d) k=if k=512+d\/k∈dx d then none else aH kv k:=by
 have h1:=Ij k (dx d) (iw kv (512+d)) (nro h _);refine⟨h1.1,?_⟩;unfold mW;rw[h1.2];unfold iw;rw[nTm h]
 grind
theorem Nt{d x:Int}(hd:di d)(h:x∈dx d):x<512:=by
 unfold dx at h;obtain⟨n,hn,rfl⟩:=bU.1 h;have:=neo n hn;unfold di at hd;unfold tB;omega
theorem PS(h:u9 ns){d:Int}(hd:di d)(hn:(kv.map (·.1)).Nodup)(hk:∀k,aH kv k=if k=512+d then aH kv k else if k∈dx d then none else aH (dq ns) k)(hg:∀p,aH kv (512+d)=some p->eo p):u9 (nU kv)/\∀J,di J->J≠d->aH (dq (nU kv)) (512+J)=aH (dq ns) (512+J):=by
 have al:∀J,di J->J≠d->aH kv (512+J)=aH (dq ns) (512+J):=λJ h1 h2=>by
  rw[hk,if_neg aa,if_neg (λh3=>by have:=Nt hd h3;unfold di at h1;omega)]
 refine⟨Ii hn λk p e=>?_,λJ h1 h2=>by rw[njp];exact al J h1 h2⟩;by_cases h1:k=512+d
 ·subst h1;unfold di at hd;exact⟨by omega,by omega,hg p e,d,hd,by rw[e];rfl,.inl rfl⟩
 have e2:=e;rw[hk,if_neg h1]at e2;split at e2
 ·cases e2
 rename_i h3;obtain⟨f1,f2,f3,J,f4,f5,f6⟩:=Ux h k p e2;have h4:J≠d:=λh=>by subst h;exact f6.elim h1 h3
 exact⟨f1,f2,f3,J,f4,by rw[al J f4 h4];exact f5,f6⟩
theorem nGl(h:jF ns=0){x:Ch}(hd:di x.dev)(hg:¬x.kind=2->eo x.pub)(hr:x.kind=2->(aH (dq ns) (512+x.dev)).isSome=true):(if x.kind=2 then pK ns x.dev else pL ns x.dev x.pub)=0/\jF (tH ns x)=0/\∀J,di J->J≠x.dev->aH (dq (tH ns x)) (512+J)=aH (dq ns) (512+J):=by
 have ht:=nJh.1 h;unfold tH;by_cases hk:x.kind=2
 ·rw[if_pos hk,if_pos hk];refine⟨by unfold pK;rw[if_pos h,if_pos (hr hk)],?_⟩;unfold lY;rw[if_pos ⟨h,hr hk⟩,nJh];refine PS ht hd (nYf (YG ns) _ 0).1 (λk=>?_) (λp e=>?_)
  ·have:=(nYf (YG ns) x.dev k).2;grind
  rw[(nYf (YG ns) x.dev _).2,if_pos (.inl rfl)]at e;cases e
 rw[if_neg hk,if_neg hk];refine⟨by unfold pL;rw[if_pos h,if_pos (hg hk)],?_⟩;unfold lx;rw[if_pos ⟨h,hg hk⟩,nJh];refine PS ht hd (nue (nYf (YG ns) _ 0).1) (λk=>?_) (λp e=>?_)
 ·have:=(nYf (YG ns) x.dev k).2;rw[PD];grind
 rw[PD,if_pos rfl]at e;cases e;exact hg hk
theorem Ik{x:Ch}(h:Zg x)(hk:¬x.kind=2):eo x.pub:=by
 rcases h.1 with h|h|h
 ·exact h.2.1.1
 ·exact absurd h.1 hk
 exact h.2.1.1
theorem Nu{l:List Ch}:∀(j:Nat) (x:Ch),x∈l.take j->aH (OR (l.take j)) x.dev=some true:=by
 intro j;induction j with
 |zero=>intro x h;simp at h
 |succ j ih=>
  intro x h;cases hx:l[j]? with
  |none=>rw[show l.take (j+1)=l.take j by rw[iC (by grind),iC (by grind)]]at h ⊢;exact ih x h
  |some y=>
   rw[nBg hx,PD];rw[np hx]at h;rcases aY.1 h with h|h
   ·rw[ih x h];split<;>rfl
   rw[fC.1 h,if_pos rfl]
theorem Nv{l:List Ch}(hf:La l){i j:Nat}{x y:Ch}(hx:l[j]? =some x)(hy:l[i]? =some y)(hi:j<i):y.dev≠x.dev:=by
 intro e;have h1:=(hf.1 i y (nq hy) hy).2;have h2:=Nu i x (ju.2 ⟨j,by rw[List.getElem?_take,if_pos hi];exact hx⟩);rw[e,h2]at h1;cases h1
theorem Nw{l:List Ch}(h:jF ns=0)(hf:La l)(hr:∀x∈l,x.kind=2->(aH (dq ns) (512+x.dev)).isSome=true):BF ns l:=by
 have key:∀j,jF (aQ ns (l.take j))=0/\∀(i:Nat) (x:Ch),j<=i->l[i]? =some x->aH (dq (aQ ns (l.take j))) (512+x.dev)=aH (dq ns) (512+x.dev):=by
  intro j;induction j with
  |zero=>exact⟨h,λ_ _ _ _=>rfl⟩
  |succ j ih=>
   cases hx:l[j]? with
   |none=>rw[show l.take (j+1)=l.take j by rw[iC (by grind),iC (by grind)]];exact⟨ih.1,λi x hi hx=>ih.2 i x aa hx⟩
   |some x=>
    have hc:=hf.1 j x (nq hx) hx;have J:=nGl ih.1 (x:=x) hc.1.2 (λhk=>Ik hc.1 hk) (λhk=>by rw[ih.2 j x (aj _) hx];exact hr x (cu hx) hk);rw[nhh hx];refine⟨J.2.1,λi y hi hy=>?_⟩;rw[J.2.2 y.dev (hf.1 i y (nq hy) hy).1.2 (Nv hf hx hy aa)];exact ih.2 i y aa hy
 intro j x hx;have hc:=hf.1 j x (nq hx) hx;exact(nGl (key j).1 (x:=x) hc.1.2 (λhk=>Ik hc.1 hk) (λhk=>by rw[(key j).2 j x (aj _) hx];exact hr x (cu hx) hk)).1
theorem Il{g:Gp}(h:iB Z g c=0):BF g.ns c.chs:=by
 have hv:ef g=true:=by grind [iB]
 have hn:xY g c.author c.chs=true:=by grind [iB,fj]
 have h1:=zm.1 hv;have h2:jO c.chs=true/\lX g c.author c.chs=true:=by simpa[xY]using hn
 refine Nw h1.1.2.2.2 (OS.1 h2.1) λx hx hk=>?_;have h3:zp g (gF g.ms c.author) c.author x=false:=by
  have h4:=h2.2;unfold lX at h4;simp only[mT,Bool.not_eq_true',List.any_eq_false]at h4;simpa using h4.2 x hx
 have h5:gF g.ms x.dev=true:=by
  unfold zp at h3;cases e:gF g.ms x.dev with
  |true=>rfl
  |false=>rw[e,decide_eq_false aa]at h3;simp at h3
 have J:x.dev∈g.ms.map (·.dev):=by
  unfold gF at h5;rw[decide_eq_true_eq,wu]at h5;obtain⟨m,h7,h8⟩:=h5;exact bU.2 ⟨m,cu h7,h8⟩
 rw[h1.2.2.1]at J;exact npi.2 (nCi.1 J).2
theorem Im{Z:Fx}{cs:List Cm}:∀(n:Nat) (vs J:List (Nat×Gp)),QI Z cs vs J->∃al,QI Z cs (vs++sY Z cs n J) al
 |0,vs,J,h=>⟨J,by simpa[sY]using h⟩
 |n+1,vs,[],h=>⟨[],by simpa[sY]using h⟩
 |n+1,vs,q::J,h=>by
  obtain⟨q',h'⟩:=Im n _ _ h.step;exact⟨q',by simpa[sY]using h'⟩
theorem nFo{Z:Fx}{cs:List Cm}:∀(n:Nat) (J:List (Nat×Gp)) (p:Nat×Gp),p∈sY Z cs n J->p∈J\/∃r∈sY Z cs n J,p∈yn Z cs r
 |0,J,p,h=>by simp[sY]at h
 |n+1,[],p,h=>by simp[sY]at h
 |n+1,q::J,p,h=>by
  unfold sY at h ⊢;rcases cd.1 h with rfl|h
  ·exact .inl A0
  rcases nFo n _ p h with h1|⟨r,h1,h2⟩
  ·rcases aY.1 h1 with h1|h1
   ·exact .inl (.tail _ h1)
   exact .inr ⟨q,.head _,h1⟩
  exact .inr ⟨r,.tail _ h1,h2⟩
theorem Nx{fo:Fo}{k:Nat}{q:Nat×Gp}(h:(gJ Z cs fo)[k]? =some q)(hc:cs[q.1]? =some c):BF (qR ((gJ Z cs fo).map (·.2)) k c) c.chs:=by
 cases hi:sV Z cs fo with
 |none=>rw[CD.none hi]at h;simp at h
 |some i=>
  have hx:cs[i]? =some (iT cs i)/\iB Z (g0 fo) (iT cs i)=0:=by
   have h9:=hi;unfold sV LV at h9;split at h9
   ·cases h9
   rw[Option.bind_eq_some_iff]at h9;obtain⟨i',h1,h2⟩:=h9;rw[wu]at h1;obtain⟨p,hp,e1⟩:=h1;obtain⟨j,c,f1,_,f3,f4⟩:=Sn Z cs _ p (cu hp);obtain rfl:i'=j:=by rw[<-e1,f1,xU]
   split at h2
   ·cases h2
    rename_i h3;exact⟨by rw[f3];unfold iT;rw[f3];rfl,h3⟩
   cases h2
  have LU:=(CD.first (Z:=Z) (cs:=cs) (fo:=fo) (d:=⟨(i:Int),iT cs i,λ_=>0,0,⟨jY Z (g0 fo) (iT cs i),none,0,none,0⟩⟩) hi ⟨Int.natCast_nonneg _,hx.1,rfl,hx.2⟩).qi;have ha:gJ Z cs fo=sY Z cs (cs.length+1) [(i,jY Z (g0 fo) (iT cs i))]:=by unfold gJ;rw[hi]
  obtain⟨J,hq⟩:=Im (cs.length+1) _ _ LU;have hq:QI Z cs (gJ Z cs fo) J:=by rw[ha];exact hq
  have h0:(gJ Z cs fo)[0]? =some (i,jY Z (g0 fo) (iT cs i)):=by rw[ha];rfl
  have nd:((gJ Z cs fo).map (·.1)).Nodup:=by have:=hq.nd;rw[gN]at this;exact(List.nodup_append.1 this).1
  have inj:∀{a b:Nat} {p r:Nat×Gp},(gJ Z cs fo)[a]? =some p->(gJ Z cs fo)[b]? =some r->p.1=r.1->a=b:=λh1 h2 e=>
   (List.getElem?_inj (by rw[eK];exact nq h1) nd).1 (by rw[oh,oh,h1,h2];exact congrArg some e)
  cases k with
  |zero=>
   rw[h0]at h;cases h;rw[hx.1]at hc;cases hc;have:=Il hx.2;exact this
  |succ k=>
   have hm:=cu h;rw[ha]at hm;rcases nFo _ _ _ hm with h1|⟨r,h1,h2⟩
   ·rw[fC]at h1;have:=inj h h0 (by rw[h1]);omega
   rw[<-ha]at h1;obtain⟨j,hj,rfl⟩:=bU.1 h2;obtain⟨c',f1,f2,f3,f4⟩:=nZh hj;have aS:cs[j]? =some c:=hc;rw[aS]at f1;cases f1;have e:qR ((gJ Z cs fo).map (·.2)) (k+1) c=r.2.ns:=by
    unfold qR;rw[if_pos aa];cases hf:((gJ Z cs fo).map (·.2)).find? (λg=>iD g.last c.par)with
    |none=>
     have h3:=List.find?_eq_none.1 hf r.2 (bU.2 ⟨r,h1,rfl⟩);exact absurd (show iD r.2.last c.par=true by rw[O5];simp[f3]) h3
    |some g=>
     obtain⟨p,hp,rfl⟩:=bU.1 (WZ hf);have h4:iD p.2.last c.par=true:=by simpa using List.find?_some hf
     rw[O5]at h4;have h4:dk p.2.last=dk c.par:=by simpa using h4
     obtain⟨c1,_,g2,g3,_⟩:=(hq.ok p (td _ hp)).c;obtain⟨c2,_,g6,g7,_⟩:=(hq.ok r (td _ h1)).c;rw[g3]at h4;rw[g7]at f3;rw[h4,f3]at g2;have h5:=GJ g2 g6;obtain⟨a,gb⟩:=ju.1 hp;obtain⟨b,hb1⟩:=ju.1 h1;obtain rfl:=inj gb hb1 aa;rw[gb]at hb1;cases hb1;rfl
   rw[e];exact Il f4
theorem nLo(hZ:FxOk Z)(cs:List Cm)(bX:cs.length<=1000)(dG:∀c∈cs,bO c)(N:Nat)(la:Option Addr)(lc:Nat)(w:World)(hN:N<=w.heap.size)(aI:ai cP 73 N w la cs)(hC:∀c∈cs,dC N w c)(fa:Option Addr)(fos:List Fo)(fc:Nat)(kC:fos.length<=10)(mB:cs.length<=10)(qS:ai qQ 33 N w fa fos)(o1 o3 o4 o5 o6 o7:Value)(hg:Glb w):Calls prog 12 #[.agg #[.slice fa fos.length fc,o1,.slice la cs.length lc,o3,o4,o5,o6,o7]] w (λe w'=>∃(q:(Option Addr×Nat)×List Pl) (F':ad),e= .returned (.slice q.1.1 q.2.length q.1.2)/\Below w.heap.size w w'/\(∀p∈F',w.heap.size<=p.1/\w'.heap[p.1]? =some p.2)/\q.2.map aW=eR Z cs fos/\(∀p∈q.2,DD F' p/\p.c∈cs)/\q.2.length<=100/\iN (λx=>(BD x).toArray) 111 F' q.1.1 q.2):=by
 have gz:=hg.lt;refine nB (dJ []) [] (vs:=[_]) func12 rfl ntmps12 rfl (Lo w) ?_;refine cK 2 ?_;intro b1 w1 hb1 cN gV gb jJ;refine B 15 ?_;refine CJ.loop (α:=((Rw×List Pl)×ad)×Nat) (λp9=>[(1,ptr b1 0),(3,p9.1.1.1.val p9.1.1.2.length),(4,ab (p9.2:Int))]) (λp9=>p9.1.1.1.hp BD 63 p9.1.1.2++[]) (λp9=>[w1,w]) (λp9=>dJ p9.1.2) (λp9=>p9.2<=fos.length/\p9.1.1.1.Fr (dJ p9.1.2) [w1,w]/\p9.1.1.1.Fit 111 p9.1.1.2/\p9.1.1.2.map aW=eR Z cs (fos.take p9.2)/\(∀p∈p9.1.1.2,DD p9.1.2 p/\p.c∈cs)/\p9.1.1.2.length<=p9.2*10/\∀q∈p9.1.2,w.heap.size<=q.1) (λp9=>fos.length-p9.2) (((.nil,[]),[]),0) ⟨cO _,True.intro,rfl,rfl,by simp,aj _,by simp⟩ zR rfl rfl zI ?_;rintro⟨⟨⟨r,pls⟩,F⟩,i⟩ ⟨hi,aK,ae,aX,gW,gq,dD⟩;dsimp only at hi aK ae aX gW gq dD ⊢;have bK:r.ge w1.heap.size:=Rw.ge_fz aK A0;refine aF 5 (.slice fa fos.length fc) ?_;refine aG 4 ?_ ?_
 ·intro av;refine B 5 ?_;obtain⟨bf,of,ff,tf,gB,rfl,GN,c6,SY⟩:=qS.get aa;obtain⟨fo,sU⟩:=ng fos i aa;refine CJ.less (E':=[(1,_),(3,_),(4,_),(14,_),(15,_),(16,_),(17,_),(18,_)]) zR ?_;refine dN 12 [7,8,9,10,11] [[],[0],[0,1],[0,1],[0,1,2]] (λcv L' H'=>∃(J:(((Option Addr×Nat)×(Option Addr×Nat))×List Cd)) (F1:ad) (w8:World) (k7 k8 k9 eT dK:Bool),cv=[ob k7 (.tuple #[.slice J.1.1.1 J.2.length J.1.1.2,.slice J.1.2.1 J.2.length J.1.2.2]),ob k8 (.tuple #[.slice J.1.1.1 J.2.length J.1.1.2,.slice J.1.2.1 J.2.length J.1.2.2]),ob k9 (.slice J.1.1.1 J.2.length J.1.1.2),ob eT (.slice J.1.2.1 J.2.length J.1.2.2),ob dK (.slice J.1.1.1 J.2.length J.1.1.2)]/\L'=(if k7=true then[w8]else[])++[w1,w]/\H'=(r.hp BD 63 pls++[])/\(k7=true->AlV Z cs fo F1 J.2/\iN (λx=>(aA x).toArray) 1 F1 J.1.1.1 (J.2.map λd=>d.at_)/\iN (λx=>(lP x).toArray) 36 F1 J.1.2.1 (J.2.map λd=>d.x)/\∀p∈F1,ah [w1,w] p.1/\w8.heap[p.1]? =some p.2/\p.1∉List.map (·.1) (r.hp BD 63 pls++[]))/\(k8=true->k7=true)/\(k9=true->k7=true)/\(eT=true->k7=true)/\(dK=true->k7=true)) ⟨(((none,0),(none,0)),[]),[],w,false,false,false,false,false,rfl,rfl,rfl,(λh=>absurd h zz),(λh=>absurd h zz),(λh=>absurd h zz),(λh=>absurd h zz),(λh=>absurd h zz)⟩ (qn 1 (k:=by exact lH (λcv L' H' hl hd hP=>by obtain⟨J,F1,w8,k7,k8,k9,eT,dK,rfl,rfl,rfl,f7,g8,g9,g10,g11⟩:=hP;exact X.v (RV.re (v':=.slice (some ⟨bf,of,none⟩) fos.length fc) (ar isAgg22 rfl (cG _ A0) hb1 cN zhb rfl) rfl)) (qn 2 (k:=by exact lH (λcv L' H' hl hd hP=>by obtain⟨J,F1,w8,k7,k8,k9,eT,dK,rfl,rfl,rfl,f7,g8,g9,g10,g11⟩:=hP;exact X.v (RV.re (v':=.agg (qQ fo)) (dt isAgg97 sizeOf97 rfl (cG _ A1) c6 zH zhb (de SY sU rfl)) (va (dY SY sU rfl)))) (qn 1 (k:=by exact lH (λcv L' H' hl hd hP=>by obtain⟨J,F1,w8,k7,k8,k9,eT,dK,rfl,rfl,rfl,f7,g8,g9,g10,g11⟩:=hP;exact X.v (RV.re (v':=.slice la cs.length lc) (ar isAgg24 rfl (cG _ A0) hb1 cN zhb rfl) rfl)) LJ)))))) (sp:=[_,some (.slice (some ⟨bf,of,none⟩) fos.length fc),_,_,some (.agg (qQ fo)),_,some (.slice la cs.length lc),_,_,_,_,_]) ?_ ?_
  ·refine nc rfl rfl ?_ ?_
   ·intro cv L' H' hl hr hP F Q' hk;obtain⟨J,F1,w8,k7,k8,k9,eT,dK,rfl,rfl,rfl,f7,g8,g9,g10,g11⟩:=hP;obtain rfl:k7=false:=nW hr rfl;obtain rfl:k8=false:=by cases k8;(rfl);exact absurd (g8 rfl) zI
    obtain rfl:k9=false:=by cases k9;(rfl);exact absurd (g9 rfl) zI
    obtain rfl:eT=false:=by cases eT;(rfl);exact absurd (g10 rfl) zI
    obtain rfl:dK=false:=by cases dK;(rfl);exact absurd (g11 rfl) zI
    refine ny (α:=(((Option Addr×Nat)×(Option Addr×Nat))×List Cd)×ad) (v:=λq=>.tuple #[.slice q.1.1.1.1 q.1.2.length q.1.1.1.2,.slice q.1.1.2.1 q.1.2.length q.1.1.2.2]) (Φ:=λW q w1=>AlV Z cs fo q.2 q.1.2/\iN (λx=>(aA x).toArray) 1 q.2 q.1.1.1.1 (q.1.2.map λd:Cd=>d.at_)/\iN (λx=>(lP x).toArray) 36 q.2 q.1.1.2.1 (q.1.2.map λd:Cd=>d.x)/\∀p∈q.2,W.heap.size<=p.1/\w1.heap[p.1]? =some p.2) call33 rfl rfl rfl (λW hS=>nTl hZ cs bX dG N la lc W (eB hN (hS.links w (cG _ A1)).size) (aI.up (aj _) (hS.same (cG _ A1) hN zF zC)) (λc hc=>(hC c hc).up (aj _) (hS.same (cG _ A1) hN zF zC)) fo (hg.old hS (cG _ A1) zF zC)) ?_;rintro W7 ⟨x5,G1⟩ x8 CN Po ⟨gv,bz,bL,a8⟩;dsimp only at gv bz bL a8;exact OJ.done (hk _ _ _ ⟨x5,G1,x8,true,false,false,false,false,rfl,rfl,rfl,(λ_=>⟨gv,bz,bL,λp hp=>⟨CK CN (a8 p hp).1,(a8 p hp).2,λhm=>by obtain⟨p9,hp9,e9⟩:=bU.1 hm;have h8:=CN.lt p9 hp9;have h9:=(a8 p hp).1;omega⟩⟩),(λ_=>rfl),(λ_=>rfl),(λ_=>rfl),(λ_=>rfl)⟩)
   refine nc rfl rfl ?_ ?_
   ·intro cv L' H' hl hr hP F Q' hk;obtain⟨J,F1,w8,k7,k8,k9,eT,dK,rfl,rfl,rfl,f7,g8,g9,g10,g11⟩:=hP;obtain rfl:k7=true:=nu hr 0 zz rfl;obtain rfl:k8=false:=nW hr rfl;refine B 1 ?_;exact OJ.done (hk _ _ _ ⟨J,F1,w8,true,true,k9,eT,dK,rfl,rfl,rfl,f7,(λ_=>rfl),g9,g10,g11⟩)
   refine nc rfl rfl ?_ ?_
   ·intro cv L' H' hl hr hP F Q' hk;obtain⟨J,F1,w8,k7,k8,k9,eT,dK,rfl,rfl,rfl,f7,g8,g9,g10,g11⟩:=hP;obtain rfl:k7=true:=nu hr 0 zz rfl;obtain rfl:k8=true:=nu hr 1 zz rfl;obtain rfl:k9=false:=nW hr rfl;refine B 1 ?_;exact OJ.done (hk _ _ _ ⟨J,F1,w8,true,true,true,eT,dK,rfl,rfl,rfl,f7,g8,(λ_=>rfl),g10,g11⟩)
   refine nc rfl rfl ?_ ?_
   ·intro cv L' H' hl hr hP F Q' hk;obtain⟨J,F1,w8,k7,k8,k9,eT,dK,rfl,rfl,rfl,f7,g8,g9,g10,g11⟩:=hP;obtain rfl:k7=true:=nu hr 0 zz rfl;obtain rfl:k8=true:=nu hr 1 zz rfl;obtain rfl:eT=false:=nW hr rfl;refine B 1 ?_;exact OJ.done (hk _ _ _ ⟨J,F1,w8,true,true,k9,true,dK,rfl,rfl,rfl,f7,g8,g9,(λ_=>rfl),g11⟩)
   refine nc rfl rfl ?_ ?_
   ·intro cv L' H' hl hr hP F Q' hk;obtain⟨J,F1,w8,k7,k8,k9,eT,dK,rfl,rfl,rfl,f7,g8,g9,g10,g11⟩:=hP;obtain rfl:k7=true:=nu hr 0 zz rfl;obtain rfl:k8=true:=nu hr 1 zz rfl;obtain rfl:k9=true:=nu hr 2 zz rfl;obtain rfl:dK=false:=nW hr rfl;refine B 1 ?_;exact OJ.done (hk _ _ _ ⟨J,F1,w8,true,true,true,eT,true,rfl,rfl,rfl,f7,g8,g9,g10,(λ_=>rfl)⟩)
   exact nn
  intro cv L' H' hl hr hP;obtain⟨J,F1,w8,k7,k8,k9,eT,dK,rfl,rfl,rfl,f7,g8,g9,g10,g11⟩:=hP;obtain rfl:k7=true:=nY hr 0 rfl;obtain rfl:k8=true:=nY hr 1 rfl;obtain rfl:k9=true:=nY hr 2 rfl;obtain rfl:eT=true:=nY hr 3 rfl;obtain rfl:dK=true:=nY hr 4 rfl;obtain⟨hv,uJ,Bg,wB⟩:=f7 rfl;have uP:=hv.len;obtain⟨⟨⟨a1,c1⟩,⟨a3,c3⟩⟩,ds⟩:=J;dsimp only at hv uJ Bg uP ⊢;have Bg:iN bJ 36 F1 a3 (ds.map λd=>d.x):=Bg;refine OJ.fzB (L':=[w1,w]) F1 (λW hS p hp=>?_) (λ_ h=>cG _ h) ?_
  ·have hn:=(wB p hp).2.2;exact⟨((hS.links w8 (td _ A0)).block p.1 (bB.1 (wB p hp).2.1).1 (λhx=>hx.elim zH (λh=>hn h))).trans (wB p hp).2.1,hn⟩
  refine B 9 ?_;refine CJ.loop (α:=((Rw×List Pl)×ad)×Nat) (λp8=>[(1,ptr b1 0),(3,p8.1.1.1.val p8.1.1.2.length),(4,ab (i:Int)),(5,.slice a1 ds.length c1),(6,.slice a3 ds.length c3),(7,ab (p8.2:Int))]) (λp8=>p8.1.1.1.hp BD 63 p8.1.1.2++[]) (λp8=>[w1,w]) (λp8=>dJ p8.1.2) (λp8=>(p8.2<=ds.length/\∀q∈F1,q∈p8.1.2)/\p8.1.1.1.Fr (dJ p8.1.2) [w1,w]/\p8.1.1.1.Fit 111 p8.1.1.2/\p8.1.1.2.map aW=eR Z cs (fos.take i)++mj cs (ds.map pR) p8.2/\(∀p∈p8.1.1.2,DD p8.1.2 p/\p.c∈cs)/\p8.1.1.2.length<=i*10+p8.2/\∀q∈p8.1.2,w.heap.size<=q.1) (λp8=>ds.length-p8.2) (((r,pls),F1++F),0) ⟨⟨cO _,λq hq=>aY.2 (.inl hq)⟩,aK,ae,by dsimp only;rw[aX];exact(ec _).symm,λp hp=>⟨(gW p hp).1.mono (λq hq=>aY.2 (.inr hq)),(gW p hp).2⟩,by dsimp only;omega,λq hq=>(aY.1 hq).elim (λh=>(wB q h).1.not A1) (dD q)⟩ zR rfl rfl zI ?_;rintro⟨⟨⟨r,pls⟩,F⟩,j⟩ ⟨⟨hj,je⟩,aK,ae,aX,gW,gq,dD⟩;dsimp only at hj je aK ae aX gW gq dD ⊢;have bK:r.ge w1.heap.size:=Rw.ge_fz aK A0;refine B 8 ?_;refine ni (t:=36) rfl (λaS=>?_) (λaS=>?_)
  ·replace aS:=ya aS;refine aF 3 cD ?_;refine B 10 ?_;obtain⟨d,hd⟩:=ng ds j aa;have lA:=hv.d d (cu hd);have Pk:d.c∈cs:=cu lA.1;have hdi:d.at_=((jH d:Nat):Int):=by have:=lA.2.1;unfold jH;omega
   obtain⟨g9,c9,pw,cy,_⟩:=nrg (pR d) (hv.eq▸bU.2 ⟨d,cu hd,rfl⟩);obtain rfl:c9=d.c:=by have h9:cs[jH d]? =some c9:=pw;rw[lA.1]at h9;exact(Option.some.inj h9).symm
   have uG:=Zt (nco cy);have hax:(ds.map λd=>d.at_)[j]? =some d.at_:=by rw[oh,hd];rfl
   have Aq:(ds.map λd=>d.x)[j]? =some d.x:=by rw[oh,hd];rfl
   have GO:(ds.map pR).map (·.2)=(ds.map λd=>d.x).map (·.g):=by rw[List.map_map,List.map_map];rfl
   have rM:BF (qR ((ds.map λd=>d.x).map (·.g)) j d.c) d.c.chs:=by have h8:=Nx (Z:=Z) (cs:=cs) (fo:=fo) (k:=j) (q:=pR d) (c:=d.c) (by rw[<-hv.eq,oh,hd];rfl) lA.1;rw[<-hv.eq,GO]at h8;exact h8
   obtain⟨ba,oa,fv,e6,gp,rfl,SA,Gs⟩:=(uJ.mono je).get (by rw[eK];omega);obtain⟨bg,og,eO,fx,e7,rfl,CF,kN⟩:=(Bg.mono je).get (by rw[eK];omega);have fw:=nq lA.1;obtain⟨bl,ol,gO,tl,ft,rfl,jq,tR,mK⟩:=aI.get aa;refine eA 13 (pb:=by exact zU 3 (k:=by exact aM (X.v (RV.re (v':=ab d.at_) (Bh (v:=ab d.at_) isAgg3 rfl SA zNc) rfl)) (aM (X.v (RV.re (v':=bH) (BG rfl rfl) (vb (decide_eq_false (by have:=lA.2.1;omega))))) (zU 4 (k:=by exact aM (X.v (RV.re (v':=ab d.at_) (Bh (v:=ab d.at_) isAgg3 rfl SA zNc) rfl)) zT))))) (sp:=[_,_,_,_,_,_,_,_,_,_,_,some (.slice (some ⟨bl,ol,none⟩) cs.length lc),_]) (k:=?_);refine wX ?_;refine CJ.less (E':=[(1,_),(3,_),(4,_),(5,_),(6,_),(7,_),(32,_),(33,_),(34,_),(35,_),(36,_),(37,_),(38,_),(39,_),(40,_),(41,_),(44,_),(45,_),(46,_),(47,_),(48,_),(49,_),(50,_),(51,_),(52,_),(53,_),(54,_),(55,_),(56,_),(57,_),(58,_)]) zR ?_;refine CJ.chn 16 [15] [_,some (.slice (some ⟨bl,ol,none⟩) cs.length lc),_,_,_,some (ab ((jH d:Nat):Int)),_,some (.agg (cP d.c)),_,_,_,_,_,some (.agg (bJ d.x)),some (.agg (pY (⟨d.c,decide (j=0),[],none,0,d.x⟩:Pl))),none] (λcv L' H'=>match cv with| []=>L'=[w1,w]/\H'=r.hp BD 63 pls++[]| [v1]=>∃(b8:Nat),v1=ptr b8 0/\L'=[w1,w]/\H'=[(b8,oC (pY Bp) 63)]++(r.hp BD 63 pls++[])/\(w1.heap.size<=b8/\w.heap.size<=b8)|_=>False) (pc (by exact λcv L' H' hd hP=>X.v (cX underlying31 rfl sizeOf24 rfl)) (pc zcx (pc zL (pc zL (pc zCb (pc zcx (pc zyc (pc zcx (pc zL (pc (by exact λcv L' H' hd hP=>X.v (RV.re (v':=.bool (decide (j=0))) (kZ rfl rfl) ((vb (decide_eq_decide.2 aa))))) (pc zL (pc zL (pc (by exact λcv L' H' hd hP=>X.v (bC underlying75 sizeOf53 rfl rfl aa aa)) (pc zcx (pc (by exact λcv L' H' hd hP=>X.v (vF underlying63 zeroValue63 (qq.c sizeOf61 (qq.c sizeOf4 (qq.c sizeOf53 (qq.c sizeOf51 (qq.n))))) rfl rfl)) (pk (pn))))))))))))))))) ?_ ?_
   ·refine ss rfl ?_ ?_
    ·intro cv L' H' hl hP F Q' hk;obtain rfl:=mF hl;obtain⟨rfl,rfl⟩:=hP;refine B 1 ?_;intro b_ pN iA;exact OJ.done (hk _ _ _ ⟨b_,rfl,rfl,rfl,by simpa only[ah,and_true]using pN⟩)
    exact nn
   intro cv L' H' hl hP;obtain⟨v1,rfl⟩:=jK hl;obtain⟨b8,rfl,rfl,rfl,C4⟩:=hP;refine B 13 ?_;refine CJ.reH (H':=[(b8,oC (pY (⟨d.c,decide (j=0),(vU (ds.map λd=>d.x) j d.c ds.length).g.ns,(vU (ds.map λd=>d.x) j d.c ds.length).na,(vU (ds.map λd=>d.x) j d.c ds.length).nc,d.x⟩:Pl)) 63)]++(r.hp BD 63 pls++[])) (by rw[Np (by rw[eK];exact aj _)];rfl) ?_;refine CJ.loop (α:=Nat) (λm=>[(1,ptr b1 0),(3,r.val pls.length),(4,ab (i:Int)),(5,.slice (some ⟨ba,oa,none⟩) ds.length c1),(6,.slice (some ⟨bg,og,none⟩) ds.length c3),(7,ab (j:Int)),(8,ptr b8 0),(9,ab ((m:Int)-1))]) (λm=>[(b8,oC (pY (⟨d.c,decide (j=0),(vU (ds.map λd=>d.x) j d.c m).g.ns,(vU (ds.map λd=>d.x) j d.c m).na,(vU (ds.map λd=>d.x) j d.c m).nc,d.x⟩:Pl)) 63)]++(r.hp BD 63 pls++[])) (λm=>[w1,w]) (λm=>dJ F) (λm=>m<=ds.length) (λm=>m) ds.length (aj _) zR rfl rfl zI ?_;rintro m hm;refine B 2 ?_;refine CJ.mid (t:=82) (v:=.bool (decide (0<m/\0<j))) (E0:=[(1,_),(3,_),(4,_),(5,_),(6,_),(7,_),(8,_),(9,_)]) zR ?_ ?_
   ·refine B 4 ?_;refine ni (t:=79) rfl (λdh=>?_) (λdh=>?_)
    ·exact z8g
    exact z8g
   refine aG 1 ?_ ?_
   ·intro iR;refine B 5 ?_;obtain⟨n,rfl⟩:∃n,m=n+1:=⟨m-1,by omega⟩;obtain⟨db,cT⟩:=ng ds n aa;have C5:(ds.map λd=>d.x)[n]? =some db.x:=by rw[oh,cT];rfl
    refine eA 8 (pb:=by exact zU 1 (k:=by exact aM (X.v (RV.re (v':=ab ((n:Nat):Int)) (pQ rfl) ((congrArg ab aa)))) (zU 2 (k:=by exact aM (X.v (RV.re (v':=.agg (dg db.x.g.last)) (lI isAgg33 sizeOf33 rfl CF (nPf kN C5 rfl 2 32 zz)) (va (n1g kN C5 rfl 2 32 zz)))) zT)))) (sp:=[_,_,_,_,_,_,_,some (.agg (dg d.c.par))]) (k:=?_);refine rr (.bool (iD db.x.g.last d.c.par)) (hQ nO zz nF rfl rfl rfl) ?_;refine aG 2 ?_ ?_
    ·intro gU;refine B 2 ?_;refine zee ?_;refine B 2 ?_;refine rq (.agg #[.slice db.x.na db.x.g.ns.length db.x.nc]) (lI isAgg51 sizeOf51 rfl CF (nPf kN C5 rfl 35 1 zz)) (va (n1g kN C5 rfl 35 1 zz)) ?_;refine B 1 ?_;refine kT (i:=0) rfl sizeOf51 rfl rfl rfl rfl (er rfl) rfl ?_;refine B 4 ?_;refine zee ?_;refine B 3 ?_;refine PJ.again n aa aa zR (by rw[Nq C5 aa cY];rfl) rfl zI
    intro gU;refine B 4 ?_;refine zee ?_;refine B 3 ?_;refine PJ.again n aa aa zR (by rw[Uw C5 (by simpa using cY)]) rfl zI
   intro iR;refine B 12 ?_;have GN:=Nr (gs:=ds.map λd=>d.x) (k:=j) (c:=d.c) (m:=m) cY;have CG:qp F (vU (ds.map λd=>d.x) j d.c m):=aci (λx hx=>by obtain⟨y,hy,rfl⟩:=bU.1 hx;exact(hv.d y hy).2.2.mono (λp hp=>je p hp));obtain⟨xb,WS⟩:∃xb,(vU (ds.map λd=>d.x) j d.c m)=xb:=⟨_,rfl⟩;rw[WS]at GN CG ⊢;rw[GN]at rM;refine CJ.loop (α:=((Option Addr×Nat)×ad)×Nat) (λp4=>[(1,ptr b1 0),(3,r.val pls.length),(4,ab (i:Int)),(5,.slice (some ⟨ba,oa,none⟩) ds.length c1),(6,.slice (some ⟨bg,og,none⟩) ds.length c3),(7,ab (j:Int)),(8,ptr b8 0),(10,ab (p4.2:Int))]) (λp4=>[(b8,oC (pY (⟨d.c,decide (j=0),aQ xb.g.ns (d.c.chs.take p4.2),p4.1.1.1,p4.1.1.2,d.x⟩:Pl)) 63)]++(r.hp BD 63 pls++[])) (λp4=>[w1,w]) (λp4=>dJ p4.1.2) (λp4=>p4.2<=d.c.chs.length/\iN fZ 2 p4.1.2 p4.1.1.1 (aQ xb.g.ns (d.c.chs.take p4.2))/\(∀q∈F,q∈p4.1.2)/\∀q∈p4.1.2,w.heap.size<=q.1) (λp4=>d.c.chs.length-p4.2) (((xb.na,xb.nc),F),0) ⟨cO _,CG.ns,λ_ h=>h,dD⟩ zR rfl rfl zI ?_;rintro⟨⟨⟨ta,tc⟩,F4⟩,q⟩ ⟨hq,eX,Xp,BH⟩;dsimp only at hq eX Xp BH ⊢;refine aF 6 (.slice d.c.ca d.c.chs.length d.c.cc) ?_;refine aG 4 ?_ ?_
   ·intro kY;refine B 5 ?_;obtain⟨bo,oo,gi,eD,gA,ez,fh,bX,fQ⟩:=(hC d.c Pk).chs.get aa;obtain⟨x,hx⟩:=ng d.c.chs q aa;have bx:=uG.1 x (cu hx);have Lc:=n2g xb.g.ns d.c.chs q aa;have hxl:=uG.2;have hs:=CG.nn;refine aF 3 (.slice d.c.ca d.c.chs.length d.c.cc) ?_;refine B 1 ?_;refine rv rfl rfl rfl (bC underlying54 sizeOf99 (congrArg (λq=>some (Value.slice q d.c.chs.length d.c.cc)) ez) rfl aa aa) ?_;refine VY ?_;refine yW ?_;intro gD uY yQ;refine B 6 ?_;refine z2f ?_;refine aF 1 (ab x.pub) ?_;refine Pe (γ:=Option Addr×Nat) (v:=λz=>.tuple #[.agg #[.slice z.1 (lx (aQ xb.g.ns (d.c.chs.take q)) x.dev x.pub).length z.2],ab (pL (aQ xb.g.ns (d.c.chs.take q)) x.dev x.pub)]) (Φ:=λF9 z=>iN fZ 2 F9 z.1 (lx (aQ xb.g.ns (d.c.chs.take q)) x.dev x.pub)) call34 rfl rfl rfl (λW hS=>(nzf (aQ xb.g.ns (d.c.chs.take q)) aa W.heap.size ta tc W (aj _) (iN.at (eX.mono (λq hq=>hq)) hS.fzLies) x.dev x.pub bx aa).mono λe w9 h9=>by obtain⟨x9,F9,h1,h2,h3,h4⟩:=h9.fz KL;exact⟨x9,F9,h1,h2,h3,h4⟩) ?_;rintro⟨a91,en⟩ bQ c4 bA;refine bM 4 ?_;intro iI E3 E4;refine aF 8 (ab x.kind) ?_;refine aG 3 ?_ ?_
    ·intro jU;refine B 2 ?_;refine z2f ?_;refine Pe (γ:=Option Addr×Nat) (v:=λz=>.tuple #[.agg #[.slice z.1 (lY (aQ xb.g.ns (d.c.chs.take q)) x.dev).length z.2],ab (pK (aQ xb.g.ns (d.c.chs.take q)) x.dev)]) (Φ:=λF9 z=>iN fZ 2 F9 z.1 (lY (aQ xb.g.ns (d.c.chs.take q)) x.dev)) call35 rfl rfl rfl (λW hS=>(n1d (aQ xb.g.ns (d.c.chs.take q)) aa W.heap.size ta tc W (aj _) (iN.at (eX.mono (λq hq=>aY.2 (.inr hq))) hS.fzLies) x.dev bx).mono λe w9 h9=>by obtain⟨x9,F9,h1,h2,h3,h4⟩:=h9.fz KL;exact⟨x9,F9,h1,h2,h3,h4⟩) ?_;rintro⟨ej,eg⟩ dU dn dO;refine B 10 ?_;refine zwf ?_;refine zd ?_;refine PJ.again (((ej,eg),dU++(bQ++F4)),q+1) ⟨by dsimp only;omega,by dsimp only;rw[VZ hx cY];exact dn.mono (λq hq=>aY.2 (.inl hq)),λq hq=>aY.2 (.inr (aY.2 (.inr (Xp q hq)))),λq hq=>(aY.1 hq).elim (λh=>by have:=dO q h;simp only[ah,and_true]at this;omega) (λh=>(aY.1 h).elim (λh=>by have:=bA q h;simp only[ah,and_true]at this;omega) (BH q))⟩ zS zR (by rw[VZ hx cY];rfl) rfl zI
    intro jU;refine B 5 ?_;refine zwf ?_;refine zd ?_;refine PJ.again (((a91,en),bQ++F4),q+1) ⟨by dsimp only;omega,by dsimp only;rw[V4 hx cY];exact c4.mono (λq hq=>aY.2 (.inl hq)),λq hq=>aY.2 (.inr (Xp q hq)),λq hq=>(aY.1 hq).elim (λh=>by have:=bA q h;simp only[ah,and_true]at this;omega) (BH q)⟩ zS zR (by rw[V4 hx cY];rfl) rfl zI
   intro kY;refine B 5 ?_;rw[nii _ _ _ aa]at eX ⊢;refine aF 2 (.agg (pY (⟨d.c,decide (j=0),aQ xb.g.ns d.c.chs,ta,tc,d.x⟩:Pl))) ?_;refine kp underlying43 sizeOf63 zeroValue63 rfl rfl rfl rfl rfl rfl rfl ?_;refine yW ?_;intro cz fm fg;refine jV (r:=r) (xs:=pls) (zs:=[(⟨d.c,decide (j=0),aQ xb.g.ns d.c.chs,ta,tc,d.x⟩:Pl)]) (enc:=BD) (m:=111) (H0:=[(cz,oC (pY (⟨d.c,decide (j=0),aQ xb.g.ns d.c.chs,ta,tc,d.x⟩:Pl)) 63),(b8,oC (pY (⟨d.c,decide (j=0),aQ xb.g.ns d.c.chs,ta,tc,d.x⟩:Pl)) 63)]) (H1:=[]) zW Uv nRj rfl rfl rfl rfl (ck.one (z:=(⟨d.c,decide (j=0),aQ xb.g.ns d.c.chs,ta,tc,d.x⟩:Pl)) nRj Nk underlying43 (bF.own (i:=0) rfl)) ae aK zI za ?_;intro ed dL ea Io Ny;replace Io:=yb Io;refine B 9 ?_;refine uI ?_;refine PJ.again (((Rw.row ed dL ea,pls++[(⟨d.c,decide (j=0),aQ xb.g.ns d.c.chs,ta,tc,d.x⟩:Pl)]),F4),j+1) ⟨⟨by dsimp only;omega,λq hq=>Xp q (je q hq)⟩,Io.elim (λh=>Rw.Fr_at aK h) (λh=>.inr zB),Ny,by dsimp only;rw[nkf (q:=pR d) (by rw[oh,hd];rfl),gN,aX,iY];congr 2;unfold CE;rw[show iT cs (pR d).1=d.c by show iT cs (jH d)=d.c;unfold iT;rw[lA.1];rfl,GO,GN];rfl,
    λp hp=>(aY.1 hp).elim (λh=>⟨(gW p h).1.mono (λq hq=>Xp q hq),(gW p h).2⟩) (λh=>by rw[fC.1 h];exact⟨⟨eX,by have:=OT d.c.chs xb.g.ns;have:=CG.nn;have:=uG.2;dsimp only;omega,lA.2.2.mono (λq hq=>Xp q (je q hq))⟩,Pk⟩),by dsimp only;rw[cB];simp only[dI,fJ];omega,BH⟩ zS zR rfl rfl zI
  replace aS:=ya aS;refine B 19 ?_;exact z9g
 intro av;refine B 12 ?_;have dp:i=fos.length:=by omega
 rw[dp,ur]at aX;refine bS (.inl rfl) results12 bD λW hS=>?_;have Aj:r.At BD 63 pls W:=by
  cases r with
  |nil=>trivial
  |row b cap sp=>exact hS.own (b,_) o8
 obtain⟨a1,c1,uq,uJ⟩:=Rw.sl nRj ae Aj (aj W.heap.size);exact zsg
section
variable {N:Nat} {r:Option Nat} {E:Env} {G:Gh} {L:List World} {H:ad} {x y:Operand} {U:Nat} {a b:Se}
section
variable (hx:ev E x=some (cV a))(hy:ev E y=some (cV b))
include hx hy
theorem seT(h:a=b):RV ⟨prog,r,N⟩ G L H E (.binOp .eql 35 x y U) (cD):=RV.re (v':=cD) (hQ Jy zz LY hx hy (JA _ _)) (vb ((JB _ _).trans (decide_eq_true h)))
theorem seF(h:¬a=b):RV ⟨prog,r,N⟩ G L H E (.binOp .eql 35 x y U) (bH):=RV.re (v':=bH) (hQ Jy zz LY hx hy (JA _ _)) (vb ((JB _ _).trans (decide_eq_false h)))
theorem snF(h:a=b):RV ⟨prog,r,N⟩ G L H E (.binOp .neq 35 x y U) (bH):=RV.re (v':=bH) (dV Jy zz LY hx hy (JA _ _)) (vb ((congrArg not (JB _ _)).trans (by simp[h])))
theorem snT(h:¬a=b):RV ⟨prog,r,N⟩ G L H E (.binOp .neq 35 x y U) (cD):=RV.re (v':=cD) (dV Jy zz LY hx hy (JA _ _)) (vb ((congrArg not (JB _ _)).trans (by simp[h])))
end
end
theorem PT(f:Nat->Int)(l:Int)(w:World):Calls prog 17 #[.agg (dg f),ab l] w (aU w (cV (nj (dk f) l))):=by
 refine eN func17 ntmps17 ?_;refine cK 2 ?_;intro b2 w2 dz bY ft J dH;refine bM 1 ?_;intro b4 iW iX;refine B 11 ?_;refine cA (.inl rfl) results17 bD A1 zA ?_;rfl
structure AB (N:Nat) (w:World) (p:Pl):Prop where
 ns:ai fZ 2 N w p.ta p.ns
 nn:p.ns.length<=90000
 x:cj N w p.x
 c:dC N w p.c
structure Ip (p:Pl):Prop where
 few:qg p.c
 len:p.c.path.length=10
 wd:∀x∈p.c.wes,di x.dev
def sJ (p:Pl) (kn:List Se) (s:Se):Prop:=∃d∈gK (aW p),d.2=s/\∀f∈d.1,f∈kn
def BxF (p:Pl) (kn:List Se) (s:Se) (b:Bx):Prop:=(cJ p.ns b.node).isSome=true/\s=nj (dk p.x.g.last) b.level/\aN ((cJ p.ns b.node).getD 0)∈kn
def WeF (p:Pl) (kn:List Se) (x:We):Prop:=(cJ p.ns (oO x.dev)).isSome=true/\aN ((cJ p.ns (oO x.dev)).getD 0)∈kn
theorem Nz(hl:p.c.path.length=10):sJ p kn s↔(∃(k:Nat) (y:Int),p.c.path[k]? =some y/\s=aN y/\nj (dk p.x.g.last) (k:Int)∈kn)\/(0<s.lev/\s.lev<=9/\s=nj (dk p.x.g.last) s.lev/\nj (dk p.x.g.last) (s.lev-1)∈kn)\/(∃b∈p.c.bxs,BxF p kn s b)\/(s=aP (dk p.x.g.last)/\nj (dk p.x.g.last) 9∈kn/\(p.fst=true\/aP (dk p.c.par)∈kn))\/(s=aP (dk p.x.g.last)/\∃x∈p.c.wes,WeF p kn x):=by
 have hb:∀b d,d∈yo (aW p) b↔(cJ p.ns b.node).isSome=true/\d=([aN ((cJ p.ns b.node).getD 0)],nj (dk p.x.g.last) b.level):=λb d=>by
  unfold yo;show d∈(match cJ p.ns b.node with|some y=>_|none=>_)↔_;cases cJ p.ns b.node<;>simp[aW]
 have hw:∀x d,d∈Bj (aW p) x↔(cJ p.ns (oO x.dev)).isSome=true/\d=([aN ((cJ p.ns (oO x.dev)).getD 0)],aP (dk p.x.g.last)):=λx d=>by
  unfold Bj;show d∈(match cJ p.ns (oO x.dev)with|some y=>_|none=>_)↔_;cases cJ p.ns (oO x.dev)<;>simp[aW]
 constructor
 ·rintro⟨d,hd,rfl,hk⟩;unfold gK at hd;simp only[aY,uL,fC]at hd;rcases hd with((⟨b,h1,h2⟩|h)|h)|⟨x,h1,h2⟩
  ·obtain⟨h3,rfl⟩:=(hb b d).1 h2;exact .inr (.inr (.inl ⟨b,h1,h3,rfl,hk _ A0⟩))
  ·obtain⟨k,y,h1,h2,h3⟩:=Uc.1 h;have h4:k<10:=by have:=nq h2;have h5:(aW p).1.path.length=10:=hl;omega
   unfold Bi at h3;rcases cd.1 h3 with rfl|h3
   ·exact .inl ⟨k,y,h2,rfl,hk _ A0⟩
   split at h3
   ·rw[fC]at h3;subst h3;refine .inr (.inl ⟨?_,?_,rfl,?_⟩)
    ·show(0:Int)<((k+1:Nat):Int);omega
    ·show((k+1:Nat):Int)<=9;omega
    have h5:=hk _ A0;rw[show(nj (dk (aW p).2.2.2.last) ((k+1:Nat):Int)).lev-1=(k:Int)from by show((k+1:Nat):Int)-1=_;omega];exact h5
   cases h3
  ·subst h;refine .inr (.inr (.inr (.inl ⟨rfl,hk _ A0,?_⟩)));by_cases hf:p.fst=true
   ·exact .inl hf
   refine .inr (hk _ (.tail _ ?_));show _∈(if p.fst=true then[]else[aP (dk p.c.par)]);rw[if_neg hf];exact .head _
  obtain⟨h3,rfl⟩:=(hw x d).1 h2;exact .inr (.inr (.inr (.inr ⟨rfl,x,h1,h3,hk _ A0⟩)))
 have one:∀{f:Se},f∈kn->∀g∈[f],g∈kn:=λh g hg=>by rw[fC.1 hg];exact h
 rintro(⟨k,y,h1,rfl,h3⟩|⟨h1,h2,h3,h4⟩|⟨b,h1,h2,rfl,h3⟩|⟨rfl,h1,h2⟩|⟨rfl,x,h1,h2,h3⟩)
 ·refine⟨([nj (dk p.x.g.last) (k:Int)],aN y),?_,rfl,one h3⟩;unfold gK;simp only[aY,uL,fC];exact .inl (.inl (.inr (Uc.2 ⟨k,y,nq h1,h1,.head _⟩)))
 ·obtain⟨k,hk⟩:∃k:Nat,s.lev=((k+1:Nat):Int):=⟨(s.lev-1).toNat,by omega⟩;refine⟨([nj (dk p.x.g.last) (k:Int)],nj (dk p.x.g.last) ((k+1:Nat):Int)),?_,?_,one (by rw[show s.lev-1=(k:Int) by omega]at h4;exact h4)⟩
  ·unfold gK;simp only[aY,uL,fC];obtain⟨y,hy⟩:=ng p.c.path k aa;refine .inl (.inl (.inr (Uc.2 ⟨k,y,nq hy,hy,?_⟩)));unfold Bi;rw[if_pos (show k<9 by omega)];exact .tail _ A0
  show nj _ _=s;rw[<-hk];exact h3.symm
 ·refine⟨([aN ((cJ p.ns b.node).getD 0)],nj (dk p.x.g.last) b.level),?_,rfl,one h3⟩;unfold gK;simp only[aY,uL,fC];exact .inl (.inl (.inl ⟨b,h1,(hb b _).2 ⟨h2,rfl⟩⟩))
 ·refine⟨(Me (aW p),aP (dk p.x.g.last)),?_,rfl,?_⟩
  ·unfold gK;simp only[aY,uL,fC];exact .inl (.inr rfl)
  intro f hf;rcases cd.1 hf with rfl|hf
  ·exact h1
  have yZ:f∈(if p.fst=true then[]else[aP (dk p.c.par)]):=hf;split at yZ
  ·cases yZ
  rw[fC.1 yZ];exact h2.resolve_left cY
 refine⟨([aN ((cJ p.ns (oO x.dev)).getD 0)],aP (dk p.x.g.last)),?_,rfl,one h3⟩;unfold gK;simp only[aY,uL,fC];exact .inr ⟨x,h1,(hw x _).2 ⟨h2,rfl⟩⟩
open Classical in
noncomputable def Iq (kn:List Se) (s:Se) (p:Pl):Bool:=decide (sJ p kn s)
theorem Xq(h:¬sJ p kn s):Iq kn s p=false:=by simpa[Iq]using h
theorem Uy(h:Iq kn s p=false):¬sJ p kn s:=by simpa[Iq]using h
noncomputable def Uz (Z:Fx) (pls:List Pl) (kn:List Se) (g:Gr):Bool:=match gL pls g.f with|some p=>decide (wF Z p.x.g g=0)&&decide (aN g.pub∈kn)|none=>false
noncomputable def Xr (Z:Fx) (pls:List Pl) (kn:List Se) (f:Nat->Int) (x:Ir):Bool:=match gL pls x.g with|some p=>iD x.g f&&decide (Bt Z p.x.g x=0)&&decide (aP (dk x.f)∈kn)|none=>false
def OlF (f:Nat->Int) (g:Gr):Prop:=∃o∈g.olds,iD o.f f=true
def acv (Z:Fx) (pls:List Pl) (gs:List Gr) (xs:List Ir) (kn:List Se) (s:Se) (f:Nat->Int):Prop:=(s=aP (dk f)/\(gL pls f).isSome=true)/\((∃g∈gs,Uz Z pls kn g=true/\OlF f g)\/∃x∈xs,Xr Z pls kn f x=true)
def It (Z:Fx) (pls:List Pl) (gs:List Gr) (xs:List Ir) (kn:List Se) (s:Se) (f:Nat->Int):Prop:=(∃p∈pls,sJ p kn s)\/acv Z pls gs xs kn s f
open Classical in
noncomputable def CT (Z:Fx) (pls:List Pl) (gs:List Gr) (xs:List Ir) (kn:List Se) (s:Se) (f:Nat->Int):Bool:=decide (It Z pls gs xs kn s f)
theorem PU{gs:List Gr}{xs:List Ir}(h:It Z pls gs xs kn s f):true=CT Z pls gs xs kn s f:=by simpa[CT]using h
theorem nSl{gs:List Gr}{xs:List Ir}(h:¬It Z pls gs xs kn s f):false=CT Z pls gs xs kn s f:=by simpa[CT]using h
theorem UA(e:s.kind=1)(hl:p.c.path.length=10)(h:∀(i:Nat) (y:Int),p.c.path[i]? =some y->¬(s=aN y/\nj (dk p.x.g.last) (i:Int)∈kn)):¬sJ p kn s:=by
 rw[Nz hl];rintro(⟨k,y,h1,h2⟩|⟨_,_,h3,_⟩|⟨b,_,_,h3,_⟩|⟨h3,_⟩|⟨h3,_⟩)
 ·exact h k y h1 h2
 all_goals(rw[h3]at e;cases e)
theorem Iu(e:s.kind=2)(hl:p.c.path.length=10)(h:¬(0<s.lev/\s.lev<=9/\s=nj (dk p.x.g.last) s.lev/\nj (dk p.x.g.last) (s.lev-1)∈kn))(hb:∀b∈p.c.bxs,¬BxF p kn s b):¬sJ p kn s:=by
 rw[Nz hl];rintro(⟨k,y,_,h3,_⟩|h3|⟨b,h1,h2⟩|⟨h3,_⟩|⟨h3,_⟩)
 ·rw[h3]at e;cases e
 ·exact h h3
 ·exact hb b h1 h2
 all_goals(rw[h3]at e;cases e)
theorem NA(e:s.kind=2)(hl:p.c.path.length=10)(h:s.com≠dk p.x.g.last):¬sJ p kn s:=
 Iu e hl (λh1=>h (by rw[h1.2.2.1];rfl)) (λb _ h1=>h (by rw[h1.2.1];rfl))
theorem Iv(e:s.kind=3)(hl:p.c.path.length=10)(h:s=aP (dk p.x.g.last)->¬(nj (dk p.x.g.last) 9∈kn/\(p.fst=true\/aP (dk p.c.par)∈kn))/\∀x∈p.c.wes,¬WeF p kn x):¬sJ p kn s:=by
 rw[Nz hl];rintro(⟨k,y,_,h3,_⟩|⟨_,_,h3,_⟩|⟨b,_,_,h3,_⟩|⟨h3,h4⟩|⟨h3,x,h4,h5⟩)
 ·rw[h3]at e;cases e
 ·rw[h3]at e;cases e
 ·rw[h3]at e;cases e
 ·exact(h h3).1 h4
 exact(h h3).2 x h4 h5
theorem UB(h1:¬s.kind=1)(h2:¬s.kind=2)(h3:¬s.kind=3)(hl:p.c.path.length=10):¬sJ p kn s:=by
 rw[Nz hl];rintro(⟨k,y,_,h,_⟩|⟨_,_,h,_⟩|⟨b,_,_,h,_⟩|⟨h,_⟩|⟨h,_⟩)
 ·exact h1 (by rw[h];rfl)
 ·exact h2 (by rw[h];rfl)
 ·exact h2 (by rw[h];rfl)
 ·exact h3 (by rw[h];rfl)
 exact h3 (by rw[h];rfl)
theorem nTg{g:Nat->Int}(h:dk f=dk g):iD f g=true:=by rw[O5];simpa using h
theorem nFn(hZ:FxOk Z)(r:eF)(hr:fG r)(pls:List Pl)(gq:pls.length<=1000)(PV:∀p∈pls,Ip p)(kn:List Se)(sQ:kn.length<=1000000)(J sp:Int)(sf:Nat->Int)(sl:Int)(N:Nat)(pa ka:Option Addr)(pc kc:Nat)(w:World)(hN:N<=w.heap.size)(hrA:fH N w r)(gW:ai pY 111 N w pa pls)(JN:∀p∈pls,AB N w p)(PI:ai seA 35 N w ka kn)(hg:Glb w)(a0 a1:Addr)(hse:Sen w a0 a1):Calls prog 14 #[.agg (rdA r),.slice pa pls.length pc,.slice ka kn.length kc,cV (⟨J,sp,dk sf,sl⟩:Se)] w (aU w (.bool (CT Z pls r.gs r.xs kn (⟨J,sp,dk sf,sl⟩:Se) sf))):=by
 have dp:=hg.lt;have Qx:=hr.gl;have lQ:=hr.il;refine eN func14 ntmps14 ?_;refine cK 2 ?_;intro b4 w4 D6 BZ Vj iW iX;refine yX ?_;intro b7 w7 QD Vq eO kh vY;refine B 10 ?_;refine CJ.lp (α:=Nat) [1,2,4,7] (λj=>[(9,ab (j:Int))]) (λj=>[]) (λj=>j<=pls.length/\gE (Iq kn (⟨J,sp,dk sf,sl⟩:Se)) pls j) (λj=>pls.length-j) 0 ⟨cO _,λi x hi=>absurd hi aa⟩ ?_;rintro j ⟨hj,dR⟩;refine aG 9 ?_ ?_
 ·intro av;refine B 5 ?_;obtain⟨bo,oo,an,CI,fg,ez,fh,bX,aR⟩:=gW.get aa;obtain⟨p,hp⟩:=ng pls j aa;have lU:=cu hp;have oW:=PV p lU;have Bk:=JN p lU;have qj:=oW.few;have jq:=qj.bxs;have c6:=qj.wes;have wR:=oW.len;refine B 3 ?_;refine rv rfl rfl rfl (bC underlying43 sizeOf63 (congrArg (λq=>some (Value.slice q pls.length pc)) ez) rfl aa aa) ?_;refine du (.agg (pY p)) ?_;refine bM 1 ?_;intro fN lq oj;refine B 7 ?_;refine DG ?_;refine bM 1 ?_;intro gD uY yQ;refine aF 6 (ab J) ?_;refine aG 9 ?_ ?_
  ·intro aS;refine B 6 ?_;refine CJ.lp (α:=Nat) [1,2,4,7,9,10,11] (λk=>[(12,ab (k:Int))]) (λk=>[(gD,oC (dg p.x.g.last) 33),(fN,oC (pY p) 63)]) (λk=>k<=p.c.path.length/\∀(i:Nat) (y:Int),i<k->p.c.path[i]? =some y->¬((⟨J,sp,dk sf,sl⟩:Se)=aN y/\nj (dk p.x.g.last) (i:Int)∈kn)) (λk=>p.c.path.length-k) 0 ⟨cO _,λi y hi=>absurd hi aa⟩ ?_;rintro k ⟨hk,Dj⟩;refine aF 6 (.slice p.c.pa p.c.path.length p.c.pc) ?_;refine B 3 ?_;refine ni (t:=55) rfl (λdh=>?_) (λdh=>?_)
   ·replace dh:=ya dh;refine aF 1 cD ?_;refine B 9 ?_;obtain⟨bo,oo,an,CI,fg,ez,fh,bX,aR⟩:=Bk.c.path.get aa;obtain⟨y,hy⟩:=ng p.c.path k aa;by_cases CU:(⟨J,sp,dk sf,sl⟩:Se)=aN y
    ·refine eA 14 (pb:=by exact zU 5 (k:=by exact aM (X.v (bC underlying55 sizeOf3 (congrArg (λq=>some (Value.slice q p.c.path.length p.c.pc)) ez) rfl aa aa)) (aM (X.v (RV.re (v':=ab y) (ar (v:=ab y) isAgg3 rfl A2 bX zH zy (by have:=nJ (enc:=encI) (n:=1) aR hy rfl zz;simpa[encI]using this)) rfl)) (aM (nf call18 rfl rfl (λW hS _=>nkd _ W) (λ_=>rfl)) (aM (X.v (RV.re (v':=cD) (seT rfl rfl cY) rfl)) (zU 4 (k:=by exact aM (nf call17 rfl rfl (λW hS _=>PT _ _ W) (λ_=>rfl)) (ra rfl)))))))) (sp:=[some (cV (⟨J,sp,dk sf,sl⟩:Se)),_,_,some (.slice p.c.pa p.c.path.length p.c.pc),_,_,_,_,_,_,_,some (.agg (dg p.x.g.last)),_,_]) (k:=?_);refine PY ?_;refine aG 3 ?_ ?_
     ·intro iR;refine B 16 ?_;refine NB ?_;exact vb (PU (.inl ⟨p,lU,(Nz oW.len).2 (.inl ⟨k,y,hy,by assumption,by assumption⟩)⟩))
     intro iR;refine B 8 ?_;exact z0g
    refine eA 14 (pb:=by exact zU 5 (k:=by exact aM (X.v (bC underlying55 sizeOf3 (congrArg (λq=>some (Value.slice q p.c.path.length p.c.pc)) ez) rfl aa aa)) (aM (X.v (RV.re (v':=ab y) (ar (v:=ab y) isAgg3 rfl A2 bX zH zy (by have:=nJ (enc:=encI) (n:=1) aR hy rfl zz;simpa[encI]using this)) rfl)) (aM (nf call18 rfl rfl (λW hS _=>nkd _ W) (λ_=>rfl)) (aM (X.v (RV.re (v':=bH) (seF rfl rfl cY) rfl)) zT))))) (sp:=((some (cV (⟨J,sp,dk sf,sl⟩:Se)))::_::_::(some (.slice p.c.pa p.c.path.length p.c.pc))::_)) (k:=?_);refine B 13 ?_;exact z0g
   replace dh:=ya dh;refine B 18 ?_;refine uI ?_;refine ag (j+1) ⟨by omega,dR.next hp (Xq (UA cY oW.len (λi y hy=>Dj i y (by have:=nq hy;omega) hy)))⟩
  intro aS;refine aG 6 ?_ ?_
  ·intro gU;refine aF 4 (.agg (dg sf)) ?_;refine DG ?_;refine rr (.bool (!iD sf p.x.g.last)) (dV nO zz nF rfl rfl rfl) ?_;refine aG 2 ?_ ?_
   ·intro kY;refine B 2 ?_;refine nRb rfl ?_;refine LC ?_;refine ag (j+1) ⟨by omega,dR.next hp (Xq (NA cY oW.len (λh=>absurd (nTg h) AW)))⟩
   intro kY;refine B 4 ?_;refine CJ.mid (t:=107) (v:=.bool (decide (0<sl/\sl<=9/\(⟨J,sp,dk sf,sl⟩:Se)=nj (dk p.x.g.last) sl/\nj (dk p.x.g.last) (sl-1)∈kn))) (E0:=[(1,_),(2,_),(4,_),(7,_),(9,_),(10,_),(11,_)]) zR ?_ ?_
   ·by_cases CU:0<sl
    ·by_cases cy:sl<=9
     ·by_cases eb:(⟨J,sp,dk sf,sl⟩:Se)=nj (dk p.x.g.last) sl
      ·refine eA 23 (pb:=by exact zU 13 (k:=by exact aM (nf call17 rfl rfl (λW hS _=>PT _ _ W) (λ_=>rfl)) (aM (X.v (RV.re (v':=cD) (seT rfl rfl cY) rfl)) (zU 7 (k:=by exact aM (nf call17 rfl rfl (λW hS _=>PT _ _ W) (λ_=>rfl)) (ra rfl)))))) (sp:=[_,some (ab sl),some cD,_,_,some (ab sl),some cD,_,_,some (cV (⟨J,sp,dk sf,sl⟩:Se)),some (.agg (dg p.x.g.last)),_,some (ab sl),_,_,_,_,_,some (.agg (dg p.x.g.last)),_,some (ab sl),_,_]) (k:=?_);refine PY ?_;refine B 2 ?_;exact ztg
      refine eA 23 (pb:=by exact zU 13 (k:=by exact aM (nf call17 rfl rfl (λW hS _=>PT _ _ W) (λ_=>rfl)) (aM (X.v (RV.re (v':=bH) (seF rfl rfl cY) rfl)) zT))) (sp:=[_,some (ab sl),some cD,_,_,some (ab sl),some cD,_,_,some (cV (⟨J,sp,dk sf,sl⟩:Se)),some (.agg (dg p.x.g.last)),_,some (ab sl),_,_,_,_,_,_,_,_,_,_]) (k:=?_);exact zwi
     refine eA 23 (sp:=(_::(some (ab sl))::(some cD)::_::_::(some (ab sl))::(some bH)::_)) (k:=?_);exact zwi
    refine eA 23 (sp:=(_::(some (ab sl))::(some bH)::_)) (k:=?_);exact zwi
   refine aG 1 ?_ ?_
   ·intro jU;refine B 13 ?_;refine NB ?_;exact vb (PU (.inl ⟨p,lU,(Nz oW.len).2 (.inr (.inl cY))⟩))
   intro jU;refine B 8 ?_;refine CJ.lp (α:=Nat) [1,2,4,7,9,10,11] (λm=>[(13,ab (m:Int))]) (λm=>[(gD,oC (dg p.x.g.last) 33),(fN,oC (pY p) 63)]) (λm=>m<=p.c.bxs.length/\∀b∈p.c.bxs.take m,¬BxF p kn (⟨J,sp,dk sf,sl⟩:Se) b) (λm=>p.c.bxs.length-m) 0 ⟨cO _,λb hb=>by simp at hb⟩ ?_;rintro m ⟨hm,o9⟩;refine aF 6 (.slice p.c.ba p.c.bxs.length p.c.bc) ?_;refine aG 4 ?_ ?_
   ·intro DV;refine B 5 ?_;obtain⟨bo,oo,an,CI,fg,ez,fh,bX,aR⟩:=Bk.c.bxs.get aa;obtain⟨x,hx⟩:=ng p.c.bxs m aa;refine eA 14 (pb:=by exact zU 6 (k:=by exact aM (X.v (bC underlying56 sizeOf110 (congrArg (λq=>some (Value.slice q p.c.bxs.length p.c.bc)) ez) rfl aa aa)) (zU 1 (k:=by exact aM (X.v (RV.re (v':=ab x.node) (ar (v:=ab x.node) isAgg3 rfl A2 bX zH zy (by have:=uA (enc:=tM) (n:=4) aR hx rfl 0 zz;simpa[tM]using this)) rfl)) (aM (nf call36 rfl rfl (λW hS _=>nUb p.ns (by have:=Bk.nn;omega) N p.ta p.tc W cR (Bk.ns.up (aj _) hS.sm) _) (λ_=>rfl)) zT))))) (sp:=[_,some (.agg #[.slice p.ta p.ns.length p.tc]),_,_,some (.slice p.c.ba p.c.bxs.length p.c.bc),_,_,_,_,_,_,some (ab ((cJ p.ns x.node).getD 0)),some (.bool (cJ p.ns x.node).isSome),_]) (k:=?_);refine B 4 ?_;refine CJ.mid (t:=148) (v:=.bool (decide ((cJ p.ns x.node).isSome=true/\(⟨J,sp,dk sf,sl⟩:Se)=nj (dk p.x.g.last) x.level/\aN ((cJ p.ns x.node).getD 0)∈kn))) (E0:=[(1,_),(2,_),(4,_),(7,_),(9,_),(10,_),(11,_),(13,_)]) zR ?_ ?_
    ·by_cases CU:(cJ p.ns x.node).isSome=true
     ·by_cases cy:(⟨J,sp,dk sf,sl⟩:Se)=nj (dk p.x.g.last) x.level
      ·refine eA 18 (pb:=by exact aM (X.v (RV.re (v':=cD) (pQ rfl) (vb cY))) (zU 7 (k:=by exact aM (X.v (bC underlying56 sizeOf110 (congrArg (λq=>some (Value.slice q p.c.bxs.length p.c.bc)) ez) rfl aa aa)) (zU 1 (k:=by exact aM (X.v (RV.re (v':=ab x.level) (ar (v:=ab x.level) isAgg3 rfl A2 bX zH zy (by have:=uA (enc:=tM) (n:=4) aR hx rfl 1 zz;simpa[tM]using this)) rfl)) (aM (nf call17 rfl rfl (λW hS _=>PT _ _ W) (λ_=>rfl)) (aM (X.v (RV.re (v':=cD) (seT rfl rfl cY) rfl)) (zU 4 (k:=by exact aM (nf call18 rfl rfl (λW hS _=>nkd _ W) (λ_=>rfl)) (ra rfl)))))))))) (sp:=(_::_::(some (cV (⟨J,sp,dk sf,sl⟩:Se)))::(some (.agg (dg p.x.g.last)))::_::_::(some (.slice p.c.ba p.c.bxs.length p.c.bc))::_)) (k:=?_);refine PY ?_;refine B 2 ?_;exact z4g
      refine eA 18 (pb:=by exact aM (X.v (RV.re (v':=cD) (pQ rfl) (vb cY))) (zU 7 (k:=by exact aM (X.v (bC underlying56 sizeOf110 (congrArg (λq=>some (Value.slice q p.c.bxs.length p.c.bc)) ez) rfl aa aa)) (zU 1 (k:=by exact aM (X.v (RV.re (v':=ab x.level) (ar (v:=ab x.level) isAgg3 rfl A2 bX zH zy (by have:=uA (enc:=tM) (n:=4) aR hx rfl 1 zz;simpa[tM]using this)) rfl)) (aM (nf call17 rfl rfl (λW hS _=>PT _ _ W) (λ_=>rfl)) (aM (X.v (RV.re (v':=bH) (seF rfl rfl cY) rfl)) zT))))))) (sp:=(_::_::(some (cV (⟨J,sp,dk sf,sl⟩:Se)))::(some (.agg (dg p.x.g.last)))::_::_::(some (.slice p.c.ba p.c.bxs.length p.c.bc))::_)) (k:=?_);refine B 3 ?_;exact z4g
     refine eA 18 (pb:=by exact aM (X.v (RV.re (v':=bH) (pQ rfl) (vb (Bool.eq_false_iff.2 cY)))) zT) (k:=?_);refine B 3 ?_;exact z4g
    refine aG 1 ?_ ?_
    ·intro pw;refine B 16 ?_;refine NB ?_;exact vb (PU (.inl ⟨p,lU,(Nz oW.len).2 (.inr (.inr (.inl ⟨x,cu hx,by assumption⟩)))⟩))
    intro pw;refine B 8 ?_;refine ag (m+1) ⟨by omega,λb hb=>by rw[np hx]at hb;rcases aY.1 hb with h|h;(exact o9 b h);rw[fC.1 h];assumption⟩
   intro DV;refine B 12 ?_;refine uI ?_;refine ag (j+1) ⟨by omega,dR.next hp (Xq (Iu cY oW.len cY (λb hb=>o9 b (by rw[iC aa];exact hb))))⟩
  intro gU;refine aG 6 ?_ ?_
  ·intro rC;refine B 2 ?_;by_cases CU:(⟨J,sp,dk sf,sl⟩:Se)=aP (dk p.x.g.last)
   ·refine eA 3 (pb:=by exact zU 2 (k:=by exact aM (nf call16 rfl rfl (λW hS _=>L2 _ W) (λ_=>rfl)) (ra rfl))) (sp:=[some (cV (⟨J,sp,dk sf,sl⟩:Se)),some (.agg (dg p.x.g.last)),_]) (k:=?_);refine rr bH (snF rfl rfl cY) ?_;refine B 7 ?_;refine CJ.mid (t:=170) (v:=.bool (decide (nj (dk p.x.g.last) 9∈kn/\(p.fst=true\/aP (dk p.c.par)∈kn)))) (E0:=[(1,_),(2,_),(4,_),(7,_),(9,_),(10,_),(11,_)]) zR ?_ ?_
    ·refine B 2 ?_;refine DG ?_;refine call call17 rfl rfl rfl (λW hS=>PT _ _ W) ?_;refine PY ?_;refine B 1 ?_;refine ni (t:=159) rfl (λmD=>?_) (λmD=>?_)
     ·replace mD:=ya mD;refine aF 1 (.bool p.fst) ?_;refine B 1 ?_;refine ni (t:=162) rfl (λkg=>?_) (λkg=>?_)
      ·replace kg:=ya kg;refine B 9 ?_;exact ztg
      replace kg:=ya kg;refine aF 3 (.agg (dg p.c.par)) ?_;refine call call16 rfl rfl rfl (λW hS=>L2 _ W) ?_;refine PY ?_;exact zwi
     replace mD:=ya mD;refine B 12 ?_;exact ztg
    refine aG 1 ?_ ?_
    ·intro mE;refine B 13 ?_;refine NB ?_;exact vb (PU (.inl ⟨p,lU,(Nz oW.len).2 (.inr (.inr (.inr (.inl ⟨by assumption,by assumption⟩))))⟩))
    intro mE;refine B 8 ?_;refine CJ.lp (α:=Nat) [1,2,4,7,9,10,11] (λm=>[(16,ab (m:Int))]) (λm=>[(gD,oC (dg p.x.g.last) 33),(fN,oC (pY p) 63)]) (λm=>m<=p.c.wes.length/\∀b∈p.c.wes.take m,¬WeF p kn b) (λm=>p.c.wes.length-m) 0 ⟨cO _,λb hb=>by simp at hb⟩ ?_;rintro m ⟨hm,hwm⟩;refine B 6 ?_;refine zLe ?_;refine aG 4 ?_ ?_
    ·intro uR;refine B 5 ?_;obtain⟨bo,oo,an,CI,fg,ez,fh,bX,aR⟩:=Bk.c.wes.get aa;obtain⟨x,hx⟩:=ng p.c.wes m aa;have bZ:=oW.wd x (cu hx);refine B 3 ?_;refine zLe ?_;refine B 1 ?_;refine rv rfl rfl rfl (bC underlying57 sizeOf114 (congrArg (λq=>some (Value.slice q p.c.wes.length p.c.wc)) ez) rfl aa aa) ?_;refine B 1 ?_;refine rr (ab x.dev) (ar (v:=ab x.dev) isAgg3 rfl A2 bX zH zy (by have:=uA (enc:=vg) (n:=3) aR hx rfl 0 zz;simpa[vg]using this)) ?_;refine call call37 rfl rfl rfl (λW hS=>n8g _ W) ?_;refine aF 1 (ab (oO x.dev)) ?_;refine rq (ab 0) (ji rfl rfl) ((congrArg ab (if_pos bZ))) ?_;refine aF 7 (.agg #[.slice p.ta p.ns.length p.tc]) ?_;refine B 1 ?_;refine call call36 rfl rfl rfl (λW hS=>nUb p.ns (by have:=Bk.nn;omega) N p.ta p.tc W cR (Bk.ns.up (aj _) hS.sm) _) ?_;refine aF 1 (ab ((cJ p.ns (oO x.dev)).getD 0)) ?_;refine du (.bool (cJ p.ns (oO x.dev)).isSome) ?_;refine aF 7 cD ?_;refine B 4 ?_;refine ni (t:=202) rfl (λpx=>?_) (λpx=>?_)
     ·replace px:=ya px;refine B 2 ?_;refine zye ?_;refine PY ?_;refine aG 3 ?_ ?_
      ·intro DW;refine B 16 ?_;refine NB ?_;exact vb (PU (.inl ⟨p,lU,(Nz oW.len).2 (.inr (.inr (.inr (.inr ⟨by assumption,x,cu hx,by assumption,by assumption⟩))))⟩))
      intro DW;refine B 8 ?_;exact zih
     replace px:=ya px;refine B 16 ?_;exact zih
    intro uR;refine B 12 ?_;refine uI ?_;refine ag (j+1) ⟨by omega,dR.next hp (Xq (Iv cY oW.len (λh=>⟨by assumption,λx hx=>hwm x (by rw[iC aa];exact hx)⟩)))⟩
   refine eA 3 (pb:=by exact zU 2 (k:=by exact aM (nf call16 rfl rfl (λW hS _=>L2 _ W) (λ_=>rfl)) (ra rfl))) (sp:=[some (cV (⟨J,sp,dk sf,sl⟩:Se)),some (.agg (dg p.x.g.last)),_]) (k:=?_);refine rr cD (snT rfl rfl cY) ?_;refine B 5 ?_;refine nRb rfl ?_;refine LC ?_;refine ag (j+1) ⟨by omega,dR.next hp (Xq (Iv cY oW.len (λh=>absurd h cY)))⟩
  intro rC;refine B 9 ?_;refine uI ?_;refine ag (j+1) ⟨by omega,dR.next hp (Xq (UB cY cY cY oW.len))⟩
 intro av;refine B 6 ?_;have bL:∀q∈pls,¬sJ q kn (⟨J,sp,dk sf,sl⟩:Se):=λq hq=>Uy (nQi dR aa hq);refine aF 3 (.agg (dg sf)) ?_;refine zbe ?_;refine aF 1 (.agg (pY ((gL pls sf).getD Bp))) ?_;refine du (.bool (gL pls sf).isSome) ?_;refine bM 1 ?_;intro rI Ef Qz;refine B 6 ?_;refine CJ.mid (t:=223) (v:=.bool (decide (¬((⟨J,sp,dk sf,sl⟩:Se)=aP (dk sf)/\(gL pls sf).isSome=true)))) (E0:=[(1,_),(2,_),(4,_),(7,_)]) zR ?_ ?_
 ·by_cases CU:(⟨J,sp,dk sf,sl⟩:Se)=aP (dk sf)
  ·refine eA 4 (pb:=by exact zU 3 (k:=by exact aM (nf call16 rfl rfl (λW hS _=>L2 _ W) (λ_=>rfl)) (ra rfl))) (sp:=[some (cV (⟨J,sp,dk sf,sl⟩:Se)),_,some (.agg (dg sf)),_]) (k:=?_);refine rr bH (snF rfl rfl cY) ?_;exact zBh
  refine eA 4 (pb:=by exact zU 3 (k:=by exact aM (nf call16 rfl rfl (λW hS _=>L2 _ W) (λ_=>rfl)) (ra rfl))) (sp:=[some (cV (⟨J,sp,dk sf,sl⟩:Se)),_,some (.agg (dg sf)),_]) (k:=?_);refine rr cD (snT rfl rfl cY) ?_;exact zBh
 refine aG 1 ?_ ?_
 ·intro RT;refine B 7 ?_;refine NB ?_;exact vb (nSl (λh=>h.elim (λ⟨q,hq,h⟩=>bL q hq h) (λh=>(by assumption:(¬((⟨J,sp,dk sf,sl⟩:Se)=aP (dk sf)/\(gL pls sf).isSome=true))) h.1)))
 intro RT;refine B 9 ?_;refine CJ.dropAt (i:=0) rfl zB ?_;refine CJ.lp (α:=Nat) [1,2,4,7] (λk=>[(23,ab (k:Int))]) (λk=>[]) (λk=>k<=r.gs.length/\∀g∈r.gs.take k,¬(Uz Z pls kn g=true/\OlF sf g)) (λk=>r.gs.length-k) 0 ⟨cO _,λb hb=>by simp at hb⟩ ?_;rintro k ⟨hk,VN⟩;refine B 5 ?_;refine z2e ?_;refine aG 4 ?_ ?_
 ·intro RU;refine B 5 ?_;obtain⟨bo,oo,an,CI,fg,ez,fh,bX,aR⟩:=hrA.g.get aa;obtain⟨g,Aq⟩:=ng r.gs k aa;have ql:=cu Aq;have Pp:=(hr.gg g ql).few;refine B 2 ?_;refine z2e ?_;refine B 1 ?_;refine rv rfl rfl rfl (bC underlying25 sizeOf87 (congrArg (λq=>some (Value.slice q r.gs.length r.gc)) ez) rfl aa aa) ?_;refine du (.agg (tW g)) ?_;refine bM 1 ?_;intro lV Q6 Q7;refine aF 7 (.agg (dg g.f)) ?_;refine zbe ?_;refine aF 1 (.agg (pY ((gL pls g.f).getD Bp))) ?_;refine du (.bool (gL pls g.f).isSome) ?_;refine bM 1 ?_;intro VJ c5 ea;refine B 6 ?_;refine CJ.mid (t:=259) (v:=.bool (!Uz Z pls kn g)) (E0:=[(1,_),(2,_),(4,_),(7,_),(23,_),(24,_)]) zR ?_ ?_
  ·cases hfq:gL pls g.f with
   |none=>
    refine aF 1 bH ?_;refine B 17 ?_;exact zhh
   |some q=>
    have Tp:q∈pls:=WZ hfq;refine aF 1 cD ?_;refine aF 3 (.agg (bJ q.x)) ?_;refine du (.agg (tW g)) ?_;refine call call39 rfl rfl rfl (λW hS=>nyl hZ q.x g (hr.gg g ql) N W cR ((JN q Tp).x.up (aj _) hS.sm) ((hrA.G g ql).up (aj _) hS.sm) (hg.old hS A2 zF z1) a0 a1 (hse.oldG hS A2 zF z1)) ?_;refine B 3 ?_;refine ni (t:=252) rfl (λzu=>?_) (λzu=>?_)
    ·replace zu:=ya zu;refine B 8 ?_;exact zhh
    replace zu:=ya zu;refine aF 2 (ab g.pub) ?_;refine zye ?_;refine PY ?_;refine B 3 ?_;exact zhh
  refine aG 1 ?_ ?_
  ·intro cr;refine B 9 ?_;exact zUg
  intro cr;refine B 8 ?_;refine CJ.lp (α:=Nat) [1,2,4,7,23,24] (λm=>[(27,ab (m:Int))]) (λm=>[(VJ,oC (pY ((gL pls g.f).getD Bp)) 63),(lV,oC (tW g) 87)]) (λm=>m<=g.olds.length/\gE (λo:Ol=>iD o.f sf) g.olds m) (λm=>g.olds.length-m) 0 ⟨cO _,λi x hi=>absurd hi aa⟩ ?_;rintro m ⟨hm,hom⟩;refine aF 5 (.slice g.oa g.olds.length g.oc) ?_;refine aG 4 ?_ ?_
  ·intro bQ;refine B 5 ?_;obtain⟨bo,oo,an,CI,fg,ez,fh,bX,aR⟩:=(hrA.G g ql).ol.get aa;obtain⟨o,aq⟩:=ng g.olds m aa;refine eA 8 (pb:=by exact zU 3 (k:=by exact aM (X.v (bC underlying85 sizeOf119 (congrArg (λq=>some (Value.slice q g.olds.length g.oc)) ez) rfl aa aa)) (zU 1 (k:=by exact aM (X.v (RV.re (v':=.agg (dg o.f)) (dt isAgg33 sizeOf33 rfl A2 bX zH zy (nPf aR aq rfl 0 32 zz)) (va (n1g aR aq rfl 0 32 zz)))) zT)))) (sp:=[_,some (.slice g.oa g.olds.length g.oc),_,_,_,_,_,some (.agg (dg sf))]) (k:=?_);refine rr (.bool (iD o.f sf)) (hQ nO zz nF rfl rfl rfl) ?_;refine aG 2 ?_ ?_
   ·intro b0;refine B 15 ?_;refine NB ?_;exact vb (PU (.inr ⟨Decidable.not_not.1 cY,.inl ⟨g,ql,by simpa using cY,o,cu aq,by assumption⟩⟩))
   intro b0;refine B 8 ?_;refine ag (m+1) ⟨by omega,hom.next aq (by simpa using cY)⟩
  intro bQ;refine B 11 ?_;exact zUg
 intro RU;refine B 12 ?_;have Mt:∀g∈r.gs,¬(Uz Z pls kn g=true/\OlF sf g):=λg hg=>VN g (by rw[iC aa];exact hg);refine CJ.lp (α:=Nat) [1,2,4,7] (λk=>[(28,ab (k:Int))]) (λk=>[]) (λk=>k<=r.xs.length/\gE (Xr Z pls kn sf) r.xs k) (λk=>r.xs.length-k) 0 ⟨cO _,λi x hi=>absurd hi aa⟩ ?_;rintro k ⟨hk,bA⟩;refine aF 5 (.slice r.ia r.xs.length r.ic) ?_;refine aG 4 ?_ ?_
 ·intro cb;refine B 5 ?_;obtain⟨bo,oo,an,CI,fg,ez,fh,bX,aR⟩:=hrA.i.get aa;obtain⟨x,Xs⟩:=ng r.xs k aa;have Q1:=cu Xs;refine aF 2 (.slice r.ia r.xs.length r.ic) ?_;refine B 1 ?_;refine rv rfl rfl rfl (bC underlying26 sizeOf121 (congrArg (λq=>some (Value.slice q r.xs.length r.ic)) ez) rfl aa aa) ?_;refine du (.agg (Bq x)) ?_;refine bM 1 ?_;intro Xo ed eL;refine aF 7 (.agg (dg x.g)) ?_;refine zbe ?_;refine aF 1 (.agg (pY ((gL pls x.g).getD Bp))) ?_;refine du (.bool (gL pls x.g).isSome) ?_;refine bM 1 ?_;intro ej dL db;refine B 5 ?_;refine CJ.mid (t:=316) (v:=.bool (Xr Z pls kn sf x)) (E0:=[(1,_),(2,_),(4,_),(7,_),(28,_)]) zR ?_ ?_
  ·cases hfq:gL pls x.g with
   |none=>
    refine aF 1 bH ?_;refine B 22 ?_;exact zNg
   |some q=>
    have Tp:q∈pls:=WZ hfq;refine aF 1 cD ?_;refine aF 2 (.agg (dg x.g)) ?_;refine aF 1 (.agg (dg sf)) ?_;refine rr (.bool (iD x.g sf)) (hQ nO zz nF rfl rfl rfl) ?_;refine B 2 ?_;refine ni (t:=303) rfl (λIw=>?_) (λIw=>?_)
    ·replace Iw:=ya Iw;refine aF 1 (.agg (bJ q.x)) ?_;refine du (.agg (Bq x)) ?_;refine call call40 rfl rfl rfl (λW hS=>nvk hZ q.x x (hr.ii x Q1) N W cR ((JN q Tp).x.up (aj _) hS.sm) ((hrA.I x Q1).up (aj _) hS.sm) (hg.old hS A2 zF z1) a0 a1 (hse.oldG hS A2 zF z1)) ?_;refine B 3 ?_;refine ni (t:=310) rfl (λIx=>?_) (λIx=>?_)
     ·replace Ix:=ya Ix;refine aF 2 (.agg (dg x.f)) ?_;refine call call16 rfl rfl rfl (λW hS=>L2 _ W) ?_;refine PY ?_;refine B 2 ?_;exact zNg
     replace Ix:=ya Ix;refine B 7 ?_;exact zNg
    replace Iw:=ya Iw;refine B 14 ?_;exact zNg
  refine aG 1 ?_ ?_
  ·intro cq;refine B 11 ?_;refine NB ?_;exact vb (PU (.inr ⟨Decidable.not_not.1 cY,.inr ⟨x,Q1,by assumption⟩⟩))
  intro cq;refine zd ?_;refine ag (k+1) ⟨by omega,bA.next Xs (by simpa using cY)⟩
 intro cb;refine B 11 ?_;refine NB ?_;exact vb (nSl (λh=>h.elim (λ⟨q,hq,h⟩=>bL q hq h) (λ⟨_,h⟩=>h.elim (λ⟨g,hg,h1,h2⟩=>Mt g hg ⟨h1,h2⟩) (λ⟨x,hx,h1⟩=>by have h9:=nQi bA aa hx;rw[h1]at h9;cases h9))))
theorem ai.tk{α:Type}{enc:α->Array Value}{n N:Nat}{xs:List α}(h:ai enc n N w a xs)(k:Nat):ai enc n N w a (xs.take k):=by
 rcases h with h|⟨b,off,cs,t,fr,h1,h2,h3,h4⟩
 ·subst h;rw[List.take_nil];exact .inl rfl
 exact .inr ⟨b,off,cs,t,fr,h1,h2,h3,λi hi=>by rw[kU]at hi;rw[List.getElem_take];exact h4 i aa⟩
theorem UC(s:Se):(⟨s.kind,s.pub,dk (fq s.com),s.lev⟩:Se)=s:=by rw[DA]
theorem nzl{g:Nat->Int}(h:dk f=dk g):gL pls f=gL pls g:=by
 unfold gL;congr 1;funext p;rw[O5,O5,h]
theorem acx(hm:pls.map aW=eR Z r.cs r.fos):(∃d∈r.D Z,d.2=s/\∀f∈d.1,f∈kn)↔It Z pls r.gs r.xs kn s (fq s.com):=by
 have gr:∀(g:Gr) d,d∈xu Z (pls.map aW) g↔∃p,gL pls g.f=some p/\wF Z p.x.g g=0/\∃o∈g.olds,(gL pls o.f).isSome=true/\d=([aN g.pub],aP (dk o.f)):=λg d=>by
  unfold xu;rw[Hl];cases gL pls g.f with
  |none=>simp
  |some p=>
   have ol:∀o,d∈CP (pls.map aW) g.pub o↔(gL pls o.f).isSome=true/\d=([aN g.pub],aP (dk o.f)):=λo=>by
    unfold CP;rw[Hl,Option.isSome_map];split<;>simp_all
   show d∈(if wF Z p.x.g g=0 then _ else _)↔_;by_cases hc:wF Z p.x.g g=0
   ·rw[if_pos hc,uL];exact⟨λ⟨o,h1,h2⟩=>⟨p,rfl,hc,o,h1,(ol o).1 h2⟩,λ⟨q,h0,_,o,h1,h2⟩=>⟨o,h1,(ol o).2 h2⟩⟩
   exact z7h
 have ir:∀(x:Ir) d,d∈Ar Z (pls.map aW) x↔∃p,gL pls x.g=some p/\Bt Z p.x.g x=0/\d=([aP (dk x.f)],aP (dk x.g)):=λx d=>by
  unfold Ar;rw[Hl];cases gL pls x.g with
  |none=>simp
  |some p=>
   show d∈(if Bt Z p.x.g x=0 then _ else _)↔_;by_cases hc:Bt Z p.x.g x=0
   ·rw[if_pos hc,fC];exact⟨λh=>⟨p,rfl,hc,h⟩,λ⟨_,_,_,h⟩=>h⟩
   exact z7h
 have one:∀{f:Se},f∈kn->∀g∈[f],g∈kn:=λh g hg=>by rw[fC.1 hg];exact h
 unfold eF.D ml It acv;rw[<-hm];simp only[aY,uL,bU];constructor
 ·rintro⟨d,(⟨a,⟨p,hp,rfl⟩,h⟩|⟨g,hg,h⟩)|⟨x,hx,h⟩,rfl,hk⟩
  ·exact .inl ⟨p,hp,d,h,rfl,hk⟩
  ·obtain⟨p,h1,h2,o,h3,h4,rfl⟩:=(gr g d).1 h;have e:dk (fq (aP (dk o.f)).com)=dk o.f:=DA _;refine .inr ⟨⟨by rw[e],by rw[nzl e];exact h4⟩,.inl ⟨g,hg,?_,o,h3,nTg e.symm⟩⟩;unfold Uz;rw[h1];simp[h2,hk _ A0]
  obtain⟨p,h1,h2,rfl⟩:=(ir x d).1 h;have e:dk (fq (aP (dk x.g)).com)=dk x.g:=DA _;refine .inr ⟨⟨by rw[e],by rw[nzl e,h1];rfl⟩,.inr ⟨x,hx,?_⟩⟩;unfold Xr;rw[h1];simp[h2,hk _ A0,nTg e.symm]
 rintro(⟨p,hp,d,h1,h2,h3⟩|⟨⟨h1,h2⟩,⟨g,hg,h3,o,h4,h5⟩|⟨x,hx,h3⟩⟩)
 ·exact⟨d,.inl (.inl ⟨_,⟨p,hp,rfl⟩,h1⟩),h2,h3⟩
 ·unfold Uz at h3;cases e:gL pls g.f with
  |none=>rw[e]at h3;cases h3
  |some p=>
   rw[e]at h3;simp only[mT,decide_eq_true_eq]at h3;have e2:dk o.f=dk (fq s.com):=by rw[O5]at h5;simpa using h5
   exact⟨_,.inl (.inr ⟨g,hg,(gr g _).2 ⟨p,e,h3.1,o,h4,by rw[nzl e2];exact h2,rfl⟩⟩),by show aP (dk o.f)=s;rw[e2];exact h1.symm,one h3.2⟩
 unfold Xr at h3;cases e:gL pls x.g with
 |none=>rw[e]at h3;cases h3
 |some p=>
  rw[e]at h3;simp only[mT,decide_eq_true_eq]at h3;have e2:dk x.g=dk (fq s.com):=by have h5:=h3.1.1;rw[O5]at h5;simpa using h5
  exact⟨_,.inr ⟨x,hx,(ir x _).2 ⟨p,e,h3.1.2,rfl⟩⟩,by show aP (dk x.g)=s;rw[e2];exact h1.symm,one h3.2⟩
theorem Iy{fos:List Fo}{p:Ap}(h:p∈eR Z cs fos):∃g,iB Z g p.1=0/\p.2.2.2=jY Z g p.1:=by
 unfold eR at h;obtain⟨fo,_,h⟩:=uL.1 h;unfold Ao at h;have key:∀j,p∈mj cs (gJ Z cs fo) j->∃g,iB Z g p.1=0/\p.2.2.2=jY Z g p.1:=by
  intro j;induction j with
  |zero=>intro h;simp[mj]at h
  |succ j ih=>
   intro h;unfold mj at h;split at h
   ·exact ih h
   rename_i q hq;rcases aY.1 h with h|h
   ·exact ih h
   rw[fC]at h;subst h;obtain⟨g,c,hc,he,uz⟩:=nrg q (cu hq);have e:iT cs q.1=c:=by unfold iT;rw[hc];rfl
   exact⟨g,by show iB Z g (iT cs q.1)=0;rw[e];exact he,by show q.2=jY Z g (iT cs q.1);rw[e];exact uz⟩
 exact key _ h
theorem acy(hr:fG r)(h:aW p∈eR Z r.cs r.fos):Ip p:=by
 obtain⟨g,hg,_⟩:=Iy h;have hg:iB Z g p.c=0:=hg;have hc:sT p.c=0:=by grind [iB]
 have hk:=OV.1 hc;exact⟨(hr.cg p.c (Ig h)).few,hk.pl,λx hx=>by obtain⟨i,hi⟩:=ju.1 hx;exact(hk.wel i x hi).1⟩
theorem acz(hZ:FxOk Z){fos:List Fo}{p:Ap}(h:p∈eR Z cs fos):ey (fq (dk p.2.2.2.last)):=by
 obtain⟨g,_,e⟩:=Iy h;rw[e];exact lJ (hZ.byt _ _)
theorem acA{ls:List Se}(h:ls.Nodup){i:Nat}{x:Se}(hx:ls[i]? =some x):x∉ls.take i:=by
 intro hm;obtain⟨j,hj⟩:=ju.1 hm;rw[List.getElem?_take]at hj;split at hj
 ·have:=(List.getElem?_inj (nq hj) h).1 (hj.trans hx.symm);omega
 cases hj
section
variable {Z:Fx} (hZ:FxOk Z) (r:eF) (hr:fG r) (N:Nat) (w:World) (hN:N<=w.heap.size) (hrA:fH N w r) (hg:Glb w)
include hZ hr hN hrA hg
theorem n7m:Calls prog 12 #[.agg (rdA r)] w (dc w (λq:(Option Addr×Nat)×List Pl=>.slice q.1.1 q.2.length q.1.2) (λq w1=>q.2.map aW=eR Z r.cs r.fos/\q.2.length<=100/\(∀p∈q.2,AB w1.heap.size w1 p)/\(∀p∈q.2,Ip p)/\ai pY 111 w1.heap.size w1 q.1.1 q.2)):=
 (nLo hZ r.cs (by have:=hr.cl;omega) hr.cg N r.la r.lc w hN hrA.c hrA.C r.fa r.fos r.fc hr.fl hr.cl hrA.f _ _ _ _ _ _ hg).mono (by
  rintro e w' ⟨q,F',he,hb,hF,h1,h2,h3,h4⟩;have hl:∀p∈F',p.1<w'.heap.size/\w'.heap[p.1]? =some p.2:=λp hp=>⟨(bB.1 (hF p hp).2).1,(hF p hp).2⟩;exact⟨q,he,hb,h1,h3,λp hp=>⟨(h2 p hp).1.ns.at hl,(h2 p hp).1.nn,(h2 p hp).1.x.lies hl,(hrA.C p.c (h2 p hp).2).up (eB hN hb.size) (λk hk=>hb.block k aa)⟩,λp hp=>acy hr (by rw[<-h1];exact bU.2 ⟨p,hp,rfl⟩),h4.at hl⟩)
end
section
variable {Z:Fx} (hZ:FxOk Z) (r:eF) (hr:fG r) (pls:List Pl) (gq:pls.length<=1000) (PV:∀p∈pls,Ip p) (kn:List Se) (sQ:kn.length<=1000000) (s:Se) (N:Nat) (pa ka:Option Addr) (pc kc:Nat) (w:World) (hN:N<=w.heap.size) (hrA:fH N w r) (gW:ai pY 111 N w pa pls) (JN:∀p∈pls,AB N w p) (PI:ai seA 35 N w ka kn) (hg:Glb w) (a0 a1:Addr) (hse:Sen w a0 a1) (hm:pls.map aW=eR Z r.cs r.fos)
include hZ hr gq PV sQ hN hrA gW JN PI hg hse hm
theorem NC(b:Bool)(h:b=true↔∃d∈r.D Z,d.2=s/\∀f∈d.1,f∈kn):Calls prog 14 #[.agg (rdA r),.slice pa pls.length pc,.slice ka kn.length kc,cV s] w (aU w (.bool b)):=by
 have h1:=nFn hZ r hr pls gq PV kn sQ s.kind s.pub (fq s.com) s.lev N pa ka pc kc w hN hrA gW JN PI hg a0 a1 hse;rw[UC]at h1;have h2:CT Z pls r.gs r.xs kn s (fq s.com)=b:=by
  rw[acx hm]at h;cases b with
  |true=>exact(PU (h.1 rfl)).symm
  |false=>exact(nSl (λh3=>by have:=h.2 h3;cases this)).symm
 rw[h2]at h1;exact h1
end
theorem BI{xs:List Se}{N:Nat}{cp:Nat}{b:Bool}(hxl:xs.length<=1000000000)(hN:N<=w.heap.size)(aI:ai seA 35 N w a xs)(h:decide (s∈xs)=b):Calls prog 13 #[.slice a xs.length cp,cV s] w (aU w (.bool b)):=by
 rw[<-h];exact nQc xs hxl N a cp w hN aI s
theorem AB.up{N J:Nat}{w':World}(h:AB N w p)(hN:N<=J)(hw:∀k,k<N->w'.heap[k]? =w.heap[k]?):AB J w' p:=⟨h.ns.up hN hw,h.nn,h.x.up hN hw,h.c.up hN hw⟩
theorem aD.Xc{α:Type}{enc:α->List Value}{t:Nat}{xs:List α}(hm:∀x,(enc x).length=m){e:Ending}{w':World}(h:aD w enc m t xs v e w'):dc w (λq:Option Addr×Nat=>v (.slice q.1 xs.length q.2)) (λq w1=>ai (λx=>(enc x).toArray) m w1.heap.size w1 q.1 xs/\xs.length<=q.2) e w':=by
 obtain⟨r,rfl,hb,jx,hf,ha⟩:=h;obtain⟨a,cp,he,J⟩:=r.sl hm hf ha (aj _);refine⟨(a,cp),by rw[he],hb,J,?_⟩;cases r with
 |nil=>have h0:xs=[]:=hf;subst h0;exact cO _
 |row b cap sp=>simp only[Rw.val,Value.slice.injEq]at he;rw[<-he.2.2];exact hf.1
theorem UD{a:Ap}(h:ey (fq (dk a.2.2.2.last))){d:List Se×Se}(hd:d∈gK a):SeB d.2:=by
 unfold gK at hd;simp only[aY,uL,fC]at hd;rcases hd with((⟨b,_,hd⟩|hd)|rfl)|⟨x,_,hd⟩
 ·unfold yo at hd;cases e:cJ a.2.2.1 b.node with
  |none=>rw[e]at hd;cases hd
  |some y=>rw[e]at hd;rw[fC.1 hd];exact nDf h _
 ·obtain⟨k,y,_,_,hd⟩:=Uc.1 hd;unfold Bi at hd;rcases cd.1 hd with rfl|hd
  ·exact PF
  split at hd
  ·rw[fC.1 hd];exact nDf h _
  cases hd
 ·exact nfh h
 unfold Bj at hd;cases e:cJ a.2.2.1 (oO x.dev)with
 |none=>rw[e]at hd;cases hd
 |some y=>rw[e]at hd;rw[fC.1 hd];exact nfh h
theorem D_B(hZ:FxOk Z)(hr:fG r):∀d∈r.D Z,SeB d.2:=by
 intro d hd;unfold eF.D ml at hd;simp only[aY,uL]at hd;rcases hd with(⟨a,ha,hd⟩|⟨g,hg,hd⟩)|⟨x,hx,hd⟩
 ·exact UD (acz hZ ha) hd
 ·unfold xu at hd;split at hd
  ·split at hd
   ·obtain⟨o,ho,hd⟩:=uL.1 hd;unfold CP at hd;split at hd
    ·rw[fC.1 hd];exact nfh (lJ ((hr.gg g hg).bo o ho))
    cases hd
   cases hd
  cases hd
 unfold Ar at hd;split at hd
 ·split at hd
  ·rw[fC.1 hd];exact nfh (lJ (hr.ii x hx).bg)
  cases hd
 cases hd
theorem PZ{α β:Type}{f:α->List β}{k:Nat}:∀{xs:List α},(∀x∈xs,(f x).length<=k)->(xs.flatMap f).length<=xs.length*k
 | [],_=>by simp
 |x::xs,h=>by
  have h1:=h x A0;have h2:=PZ (f:=f) (k:=k) (xs:=xs) λy hy=>h y (.tail _ hy);rw[VB,cB,dI,Nat.succ_mul];omega
theorem P0{α:Type}[DecidableEq α]:∀{l m:List α},l.Nodup->(∀x∈l,x∈m)->l.length<=m.length
 | [],_,_,_=>cO _
 |x::l,m,h,hm=>by
  have h1:=List.nodup_cons.1 h;have h2:=hm x A0;have h3:=P0 (l:=l) (m:=m.erase x) h1.2 λy hy=>(List.mem_erase_of_ne (λe=>h1.1 (by rw[<-e];exact hy))).2 (hm y (.tail _ hy));have h4:=List.length_erase_of_mem h2;have h5:0<m.length:=List.length_pos_of_mem h2;rw[dI];omega
theorem acB(hr:fG r):(r.D Z).length<=20000:=by
 have hp:(eR Z r.cs r.fos).length<=10*11:=by
  have h1:(eR Z r.cs r.fos).length<=r.fos.length*11:=PZ λfo _=>eB (GL _ _ _) (by have:=Ie Z r.cs fo;have:=hr.cl;omega);have:=hr.fl;omega
 have h1:((eR Z r.cs r.fos).flatMap gK).length<=10*11*100:=by
  refine eB (PZ (k:=100) λa ha=>?_) (wh _ hp);have hf:=(hr.cg a.1 (Ig ha)).few;have e1:(a.1.bxs.flatMap (yo a)).length<=a.1.bxs.length*1:=PZ λb _=>by unfold yo;split<;>simp
  have e2:(a.1.wes.flatMap (Bj a)).length<=a.1.wes.length*1:=PZ λb _=>by unfold Bj;split<;>simp
  have e3:∀n,(kr a n).length<=2*n:=by
   intro n;induction n with
   |zero=>simp[kr]
   |succ n ih=>
    have h2:∀k y,(Bi a k y).length<=2:=λk y=>by unfold Bi;split<;>simp
    unfold kr;cases hp:a.1.path[n]? with
    |none=>dsimp only;omega
    |some y=>dsimp only;rw[cB];have:=h2 n y;omega
  have e4:=e3 a.1.path.length;have f1:=hf.bxs;have f2:=hf.wes;have f3:=hf.path
  unfold gK;simp only[cB,dI,fJ];omega
 have h2:(r.gs.flatMap (xu Z (eR Z r.cs r.fos))).length<=r.gs.length*6:=by
  refine PZ λg hg=>?_;unfold xu;split
  ·split
   ·refine eB (PZ (k:=1) λo _=>by unfold CP;split<;>simp) ?_;have:=(hr.gg g hg).few;omega
   simp
  simp
 have h3:(r.xs.flatMap (Ar Z (eR Z r.cs r.fos))).length<=r.xs.length*1:=PZ λx _=>by unfold Ar;split<;>(try split)<;>simp
 have f1:=hr.gl;have f2:=hr.il
 unfold eF.D ml;simp only[cB];omega
theorem acC(hr:fG r){l0 ls:List Se}{lim:Nat}(h:mM (r.D Z) l0 lim ls)(hB:∀s∈l0,SeB s):ls.length<=l0.length+20000:=by
 have h1:=P0 (m:=l0++(r.D Z).map (·.2)) (h.nd hB) λs J=>by
  obtain⟨i,hi⟩:=ju.1 J;rcases h.ord i s hi with h2|⟨d,h2,h3,_⟩
  ·exact td _ h2
  exact cG _ (bU.2 ⟨d,h2,h3⟩)
 have:=acB (Z:=Z) hr;rw[cB,eK]at h1;omega
theorem mM.B{D:List (List Se×Se)}{L0 ls:List Se}{lim:Nat}(h:mM D L0 lim ls)(hD:∀d∈D,SeB d.2)(h0:∀s∈L0,SeB s)(s)(hs:s∈ls):SeB s:=by
 induction(h.iff s).1 hs with
 |base h1=>exact h0 _ h1
 |step h1=>exact hD _ h1
theorem St.da{G:Gh}{L:List World}{W:World}:∀{H:ad},St G L H W->(∀p∈H,ah L p.1)->St G L [] W
 |[],h,_=>h
 |p::_,h,ha=>(h.dropAt (i:=0) (b:=p.1) (o:=p.2) rfl (ha p (.head _))).da λq hq=>ha q (.tail _ hq)
theorem CJ.rz{C:Cx}{c:Code}{Q:bE}{E:Env}{D:List Deferred}{G:Gh}{L:List World}{H:ad}(hb:∀p∈H,ah L p.1)(k:∀W,St G L H W->CJ C c Q E D G (W::L) []):CJ C c Q E D G L H:=λa W hN hD hF hS=>k W hS a W hN hD hF (hS.da hb).snap
theorem acD(hZ:FxOk Z)(hr:fG r){l0 ls lz:List Se}{lim J:Nat}(h:mM (r.D Z) l0 lim ls)(hB:∀s∈l0,SeB s)(hz:mM (r.D Z) (cI ls) J lz):cI lz=cI ls:=by
 have hb:=h.B (D_B hZ hr) hB;refine nyj (hz.B (D_B hZ hr) λs hs=>hb s ((xm _ _).1 hs)) λs=>?_;rw[hz.iff s];constructor
 ·intro hd;induction hd with
  |base h1=>exact(xm _ _).1 h1
  |step h1 _ ih=>exact h.cl _ h1 ih
 exact λh1=>.base ((xm _ _).2 h1)
theorem Rw.abv{α:Type}{enc:α->List Value}{t:Nat}{xs:List α}{r:Rw}{L:List World}(h:r.Fr Gh.no L):∀p∈r.hp enc t xs,ah L p.1:=by
 cases r with
 |nil=>intro p hp;cases hp
 |row b cap sp=>intro p hp;rw[fC.1 hp];exact h.elim (λh=>h.elim) id
section
variable {Z:Fx} (hZ:FxOk Z) (r:eF) (hr:fG r) (N:Nat) (w:World) (hN:N<=w.heap.size) (hrA:fH N w r) (hg:Glb w)
include hZ hr hN hrA hg
theorem n5m(a0 a1:Addr)(hse:Sen w a0 a1)(qa:Option Addr)(J:List Se)(qc:Nat)(W8:J.length<=50000)(TO:ai seA 35 N w qa J):Calls prog 15 #[.agg (rdA r),.slice qa J.length qc] w (dc w (λq:(Option Addr×Nat)×List Se=>.slice q.1.1 (cI q.2).length q.1.2) (λq w1=>ai seA 35 w1.heap.size w1 q.1.1 (cI q.2)/\(cI q.2).length<=q.1.2/\mM (r.D Z) J 71000 q.2)):=
 (nze hZ r hr N w hN hrA hg a0 a1 hse qa J qc W8 TO).mono (by
  rintro e w' ⟨ls,hl,h⟩;obtain⟨q,he,hb,hs,hc⟩:=aD.Xc nv h;exact⟨(q,ls),he,hb,hs,hc,hl⟩)
end
theorem UE{xs ys:List Se}{N:Nat}{c:Option Addr}{cp J:Nat}(h:xs=ys)(hxl:xs.length<=1000000000)(hN:N<=w.heap.size)(aI:ai seA 35 N w a xs)(wC:ai seA 35 N w c ys):Calls prog 19 #[.slice a xs.length cp,.slice c ys.length J] w (aU w (cD)):=by
 have h1:=nFl xs ys hxl (h▸hxl) N a c cp J w hN aI wC;rwa[decide_eq_true h]at h1
theorem law_closed(hZ:FxOk Z)(r:eF)(dp:BC r)(hlm:Aw r)(N:Nat)(w:World)(hN:N<=w.heap.size)(hrA:fH N w r)(hg:Glb w)(MT:Lab w)(a0 a1:Addr)(hse:Sen w a0 a1)(qa:Option Addr)(l0:List Se)(qc:Nat)(yS:l0.length<=9223372036854775807)(Ql:ai seA 35 N w qa l0)(an:∀s∈l0,SeB s):Calls prog 4 #[.agg (rdA r),.slice qa l0.length qc] w (aU w (cD)):=by
 have eJ:=hg.lt;refine eN func4 ntmps4 ?_;refine cK 2 ?_;intro b2 w2 dz bY ft dL dH;refine B 6 ?_;refine call (v:=.bool true) call7 rfl rfl rfl (λW hS=>H8 hZ W (hg.old hS A1 zF trivial) (MT.old hS A1 zH trivial) a0 a1 (hse.old hS A1)) ?_;refine wX ?_;cases hf:xw r with
 |false=>
  refine aF 1 (.agg (rdA r)) ?_;refine call (v:=.bool false) call8 rfl rfl rfl (λW hS=>by rw[<-hf];exact nGj r hlm N W cR (hrA.up (aj _) hS.sm)) ?_;refine du cD ?_;refine B 15 ?_;refine aL results4 rfl A1 ?_;rfl
 |true=>
  by_cases h1:l0.length<=20
  ·have hr:=dp.ok hf;refine B 1 ?_;refine zme ?_;refine du bH ?_;refine B 3 ?_;refine Vg ?_;refine du (.agg (rdA r)) ?_;refine B 1 ?_;refine ny (α:=(Option Addr×Nat)×List Se) (v:=λq=>.slice q.1.1 (cI q.2).length q.1.2) (Φ:=λ_ q w1=>ai seA 35 w1.heap.size w1 q.1.1 (cI q.2)/\(cI q.2).length<=q.1.2/\mM (r.D Z) l0 71000 q.2) call15 rfl rfl rfl (λW hS=>n5m hZ r hr N W cR (hrA.up (aj _) hS.sm) (hg.old hS A1 zF trivial) a0 a1 (hse.old hS A1) qa l0 qc aa (Ql.up (aj _) hS.sm)) ?_;rintro _ ⟨⟨ay,cy⟩,ly⟩ J _ _ ⟨wC,bA,Xt⟩;dsimp only at wC bA Xt ⊢;obtain⟨ls,rfl⟩:∃ls,ls=ly:=⟨_,rfl⟩;have Kq:=acC hr Xt an;have fx:=ngg ls;have bZ:(cI ls).Nodup:=W6 (Xt.B (D_B hZ hr) an);refine B 10 ?_;refine CJ.lp (α:=Nat) [1,2,5] (λi=>[(6,ab (i:Int))]) (λi=>[]) (λi=>i<=l0.length) (λi=>l0.length-i) 0 (cO _) ?_;rintro i hi;refine aG 9 ?_ ?_
   ·intro av;refine B 5 ?_;obtain⟨bo,oo,bu,CI,fg,ez,fh,bX,aR⟩:=Ql.get aa;obtain⟨x,hx⟩:=ng l0 i aa;refine B 4 ?_;refine rv rfl rfl rfl (bC underlying38 sizeOf35 (congrArg (λq=>some (Value.slice q l0.length qc)) ez) rfl aa aa) ?_;refine du (cV x) ?_;refine call call13 rfl rfl rfl (λW hS=>BI (b:=true) aa (hS.links J A0).size (wC.up (aj _) (hS.same A0 (aj _) zF trivial)) (decide_eq_true ((xm _ _).2 (Xt.l0 x (cu hx))))) (v:=.bool true) ?_;refine B 12 ?_;refine ag (i+1) aa
   intro av;refine B 12 ?_;refine CJ.lp (α:=Nat) [2,5] (λi=>[(7,ab (i:Int))]) (λi=>[]) (λi=>i<=(cI ls).length) (λi=>(cI ls).length-i) 0 (cO _) ?_;rintro i hi;refine aG 9 ?_ ?_
   ·intro aS;refine B 5 ?_;obtain⟨bo,oo,bu,CI,fg,rfl,fh,bX,aR⟩:=wC.get aa;obtain⟨x,hx⟩:=ng (cI ls) i aa;refine eA 7 (pb:=by exact zU 2 (k:=by exact aM (X.v (RV.re (v':=.slice (some ⟨bo,oo,none⟩) ((cI ls).take i).length cy) (fM (h:=i) underlying38 sizeOf35 rfl ⟨_,_,rfl,rfl⟩ aa) WB)) zT)) (sp:=[_,_,_,_,_,_,some (cV x)]) (k:=?_);refine call call13 rfl rfl rfl (λW hS=>BI (b:=false) (by rw[kU];omega) (hS.links J A0).size ((wC.tk i).up (aj _) (hS.same A0 (aj _) zF trivial)) (decide_eq_false (acA bZ hx))) (v:=.bool false) ?_;refine B 11 ?_;refine ag (i+1) aa
   intro aS;refine aF 7 (.agg (rdA r)) ?_;refine ny (α:=(Option Addr×Nat)×List Pl) (v:=λq=>.slice q.1.1 q.2.length q.1.2) (Φ:=λ_ q w1=>q.2.map aW=eR Z r.cs r.fos/\q.2.length<=100/\(∀p∈q.2,AB w1.heap.size w1 p)/\(∀p∈q.2,Ip p)/\ai pY 111 w1.heap.size w1 q.1.1 q.2) call12 rfl rfl rfl (λW hS=>n7m hZ r hr N W cR (hrA.up (aj _) hS.sm) (hg.old hS A2 zF trivial)) ?_;rintro _ ⟨⟨ap,cp⟩,pls⟩ wp _ _ ⟨lU,gq,JN,PV,gW⟩;dsimp only at lU gq JN PV gW;refine B 10 ?_;refine CJ.lp (α:=Nat) [2,5,8] (λk=>[(9,ab (k:Int))]) (λk=>[]) (λk=>k<=pls.length) (λk=>pls.length-k) 0 (cO _) ?_;rintro k hk;refine aG 9 ?_ ?_
   ·intro dh;refine B 5 ?_;obtain⟨bp,op,Za,fv,Zb,ez,AM,WY,zl⟩:=gW.get aa;obtain⟨p,hp⟩:=ng pls k aa;have P1:=cu hp;have hlen:=(PV p P1).len;refine B 3 ?_;refine zwd ?_;refine B 2 ?_;refine rq (.agg (dg p.x.g.last)) (dt isAgg33 sizeOf33 rfl A0 WY zH zy (nPf zl hp rfl 76 32 zz)) (va (n1g zl hp rfl 76 32 zz)) ?_;refine bM 1 ?_;intro fN lq oj;refine B 5 ?_;refine DG ?_;refine call call16 rfl rfl rfl (λW hS=>L2 _ W) ?_;refine DC ?_;refine yW ?_;intro fQ eT e7;refine B 10 ?_;refine CJ.perm (List.Perm.swap _ _ _) ?_;refine CJ.reH (H':=[(fN,oC (dg p.x.g.last) 33)]++((Rw.row fQ 1 []).hp dX 35 [aP (dk p.x.g.last)]++[])) (by show[_,_]=[_,(fQ,bj dX 35 ([]++[aP (dk p.x.g.last)]) [])];rw[<-nOh (enc:=dX) (A:=seA (aP (dk p.x.g.last))) rfl];rfl) ?_;refine CJ.lp (α:=(Rw×List Se)×Nat) [2,5,8,9,10] (λx4=>[(11,x4.1.1.val x4.1.2.length),(12,ab (x4.2:Int))]) (λx4=>[(fN,oC (dg p.x.g.last) 33)]++(x4.1.1.hp dX 35 x4.1.2++[])) (λx4=>x4.2<=10/\x4.1.1.Fr Gh.no [wp,J,w2,w]/\x4.1.1.Fit 35 x4.1.2/\x4.1.2.length<=1+2*x4.2) (λx4=>10-x4.2) ((Rw.row fQ 1 [],[aP (dk p.x.g.last)]),0) ⟨cO _,.inr zB,⟨aj _,rfl⟩,aj _⟩ ?_;rintro⟨⟨sr,sm⟩,m⟩ ⟨c3,aK,ae,c6⟩;dsimp only at c3 aK ae c6 ⊢;have bK:sr.ge wp.heap.size:=Rw.ge_of aK A0;refine aG 7 ?_ ?_
    ·intro iR;refine B 7 ?_;refine DG ?_;refine B 1 ?_;refine call call17 rfl rfl rfl (λW hS=>PT _ _ W) ?_;refine DC ?_;refine yW ?_;intro a8 eO ff;refine jV (r:=sr) (xs:=sm) (zs:=[(nj (dk p.x.g.last) (m:Int))]) (enc:=dX) (m:=35) (H0:=[(a8,oC (seA (nj (dk p.x.g.last) (m:Int))) 35),(fN,oC (dg p.x.g.last) 33)]) (H1:=[]) zW Pf nv rfl rfl rfl rfl (ck.one (z:=(nj (dk p.x.g.last) (m:Int))) nv Jz underlying38 (bF.own (i:=0) rfl)) ae aK zI yU ?_;intro aq bh br UF UG;replace UF:=yb UF;refine B 4 ?_;have gO:(Rw.row aq bh br).Fr Gh.no [wp,J,w2,w]:=UF.elim (λh=>Rw.Fr_at aK h) (λh=>.inr zB);have fY:wp.heap.size<=aq:=Rw.ge_of gO A0;refine B 4 ?_;refine zwd ?_;refine B 2 ?_;refine zYd ?_;refine aF 1 cD ?_;refine B 3 ?_;obtain⟨bt,ot,e6,gn,eP,Bk,eX,vt,b0⟩:=(JN p P1).c.path.get aa;obtain⟨y,hy⟩:=ng p.c.path m aa;refine B 4 ?_;refine zwd ?_;refine B 2 ?_;refine zYd ?_;refine B 1 ?_;refine rv rfl rfl rfl (bC underlying55 sizeOf3 (congrArg (λq=>some (Value.slice q p.c.path.length p.c.pc)) Bk) rfl aa aa) ?_;refine rr (ab y) (ar (v:=ab y) isAgg3 rfl A0 vt zH zy (by have:=nJ (enc:=encI) (n:=1) b0 hy rfl zz;simpa[encI]using this)) ?_;refine zye ?_;refine DC ?_;refine yW ?_;intro bQ fV fi;refine jV (r:=(Rw.row aq bh br)) (xs:=(sm++[(nj (dk p.x.g.last) (m:Int))])) (zs:=[(aN y)]) (enc:=dX) (m:=35) (H0:=[(bQ,oC (seA (aN y)) 35),(a8,oC (seA (nj (dk p.x.g.last) (m:Int))) 35),(fN,oC (dg p.x.g.last) 33)]) (H1:=[]) zW Pf nv rfl rfl rfl rfl (ck.one (z:=(aN y)) nv Jz underlying38 (bF.own (i:=0) rfl)) UG gO zI yU ?_
     intro bw bz cq Iz ND;replace Iz:=yb Iz;refine B 9 ?_;refine uI ?_;refine ag ((Rw.row bw bz cq,sm++[(nj (dk p.x.g.last) (m:Int))]++[aN y]),m+1) ⟨by dsimp only;omega,Iz.elim (λh=>Rw.Fr_at gO h) (λh=>.inr zB),ND,by simp only[cB,dI,fJ];omega⟩
    intro iR;refine B 11 ?_;refine CJ.rz (λp hp=>?_) (λws Rg=>?_)
    ·rcases aY.1 hp with hp|hp
     ·rw[fC.1 hp];simp only[ah,and_true];omega
     rw[ec]at hp;exact Rw.abv aK p hp
    have fF:sr.At dX 35 sm ws:=by
     cases sr with
     |nil=>trivial
     |row b cap sp=>exact Rg.own (b,_) A1
    obtain⟨kR,Xe,cT,XX⟩:=Rw.sl nv ae fF (aj ws.heap.size);rw[cT];have XX:ai seA 35 ws.heap.size ws kR sm:=XX;refine CJ.lp (α:=Nat) [2,5,8,9,11] (λq=>[(13,ab (q:Int))]) (λq=>[]) (λq=>q<=sm.length) (λq=>sm.length-q) 0 (cO _) ?_;rintro q hq;refine aG 9 ?_ ?_
    ·intro gU;refine B 5 ?_;obtain⟨bo,oo,bu,CI,fg,ez,fh,bX,aR⟩:=XX.get aa;obtain⟨x,hx⟩:=ng sm q aa;by_cases CU:x∈cI ls
     ·refine eA 15 (pb:=by exact zU 3 (k:=by exact aM (X.v (bC underlying38 sizeOf35 (congrArg (λq=>some (Value.slice q sm.length Xe)) ez) rfl aa aa)) (zU 1 (k:=by exact aM (nf call13 rfl rfl (λW hS _=>BI (b:=true) aa (hS.links J A2).size (wC.up (aj _) (hS.same A2 (aj _) zF trivial)) (decide_eq_true cY)) (λ_=>rfl)) zT)))) (sp:=(_::_::_::_::(some (cV x))::(some (cD))::_)) (k:=?_);refine B 13 ?_;refine ag (q+1) aa
     refine eA 15 (pb:=by exact zU 3 (k:=by exact aM (X.v (bC underlying38 sizeOf35 (congrArg (λq=>some (Value.slice q sm.length Xe)) ez) rfl aa aa)) (zU 1 (k:=by exact aM (nf call13 rfl rfl (λW hS _=>BI (b:=false) aa (hS.links J A2).size (wC.up (aj _) (hS.same A2 (aj _) zF trivial)) (decide_eq_false cY)) (λ_=>rfl)) (zU 7 (k:=by exact aM (X.v (bC underlying38 sizeOf35 (congrArg (λq=>some (Value.slice q sm.length Xe)) ez) rfl aa aa)) zT)))))) (sp:=[_,_,_,_,some (cV x),some (bH),_,_,some (.agg (rdA r)),_,_,_,_,_,some (cV x)]) (k:=?_);refine call call14 rfl rfl rfl (λW hS=>NC hZ r hr pls aa PV (cI ls) aa _ W.heap.size _ _ _ _ W (aj _) (hrA.up cR hS.sm) (gW.up (hS.links wp A1).size (hS.same A1 (aj _) zF trivial)) (λp hp=>(JN p hp).up (hS.links wp A1).size (hS.same A1 (aj _) zF trivial)) (wC.up (hS.links J A2).size (hS.same A2 (aj _) zF trivial)) (hg.old hS A4 zF trivial) a0 a1 (hse.old hS A4) lU false (⟨λh=>zQ,λ⟨d,h1,h2,h3⟩=>absurd (show x∈cI ls by rw[<-h2];exact(xm _ _).2 (Xt.cl d h1 λf hf=>(xm _ _).1 (h3 f hf))) cY⟩)) (v:=.bool false) ?_;refine B 12 ?_;refine ag (q+1) aa
    intro gU;refine B 11 ?_;refine ag (k+1) aa
   intro dh;refine aF 7 (.agg (rdA r)) ?_;refine B 1 ?_;refine ny (α:=(Option Addr×Nat)×List Se) (v:=λq=>.slice q.1.1 (cI q.2).length q.1.2) (Φ:=λ_ q w1=>ai seA 35 w1.heap.size w1 q.1.1 (cI q.2)/\(cI q.2).length<=q.1.2/\mM (r.D Z) (cI ls) 71000 q.2) call15 rfl rfl rfl (λW hS=>n5m hZ r hr W.heap.size W (aj _) (hrA.up cR hS.sm) (hg.old hS A3 zF trivial) a0 a1 (hse.old hS A3) ay (cI ls) cy aa (wC.up (hS.links J A1).size (hS.same A1 (aj _) zF trivial))) ?_;rintro _ ⟨⟨az,cz⟩,lz⟩ wz _ _ ⟨lj,dK,aE⟩;dsimp only at lj dK aE;refine B 1 ?_;refine call call19 rfl rfl rfl (λW hS=>UE (xs:=cI lz) (ys:=cI ls) (acD hZ hr Xt an aE) (by have h8:=aE.ln;have h9:=ngg lz;omega) (aj W.heap.size) (lj.up (hS.links wz A0).size (hS.same A0 (aj _) zF trivial)) (wC.up (hS.links J A2).size (hS.same A2 (aj _) zF trivial))) (v:=.bool true) ?_;refine B 4 ?_;refine aL results4 rfl A4 ?_;rfl
  refine B 1 ?_;refine zme ?_;refine du bH ?_;refine B 3 ?_;refine Jr ?_;refine aL results4 rfl A1 ?_;rfl
end Px
