/- Contracts of functions of the program. No conditions. -/
import Derived.Test.YtjhfonpoebkgeaaGreatDoorKe
import Derived.Test.YtjhfonpoebkgeaaGreatDoorProg
set_option linter.unusedSimpArgs false
set_option linter.unusedVariables false
set_option linter.unusedSectionVars false
set_option maxRecDepth 20000
set_option maxHeartbeats 8000000
namespace Px
open Go Go.RowKit Go.Proofs Go.Proofs.Tryz
noncomputable def B4 (Z:Fx) (s:Sc) (lk:Lk):Bool:=(u6 Z s lk.fo).any λg=>CP Z g.ms lk.by_ (eC Z lk) lk.sr lk.ss
variable {Z:Fx} {l:Lk} {s:Sc}
theorem nAl(hZ:FxOk Z)(s:Sc)(ho:fq s)(N:Nat)(w:World)(hN:N<=w.heap.size)(hs:dZ N w s)(lk:Lk)(hlk:dm lk)(hg:Glb w):Calls prog 32 #[.agg (mU s),.agg (lkC lk)] w (ar w (.bool (B4 Z s lk))):=by
 have gP:=hg.lt;refine Im Gh.no [] (vs:=[_,_]) func32 rfl ntmps32 rfl (AX w) ?_;refine aU 2 ?_;intro b2 w2 bV bj dz cL cR;refine yX ?_;intro b3 w3 bQ aZ dK cP dt;refine bD 1 ?_;intro b4 dL dP;refine aV 5 (.agg (mU s)) ?_;refine aV 2 (ab lk.fo) ?_;refine ny (α:=Nat×Nat) (v:=λq:Nat×Nat=>.func (.func 101) #[] #[ptr q.1 0,ptr q.2 0]) (Φ:=λW q w1=>W.heap.size<=q.1/\W.heap.size<=q.2/\w1.heap[q.1]? =some (oC (mU s) 66)/\w1.heap[q.2]? =some (oC #[ab lk.fo] 3)) call53 rfl rfl rfl (λW hS=>nPm s lk.fo W) ?_;rintro Wn q wn pZ wv ⟨oi,mr,jR,kH⟩;try dsimp only at oi mr jR kH
 have EA:=(bO.1 jR).1;have EB:=(bO.1 kH).1;have Og:=wv.size;have cy:=(pZ.links w A2).size;refine B 3 ?_;have bw:=pZ.lt (b4,_) A0;try dsimp only at bw
 refine nRl (f:=101) (cap:=[ptr q.1 0,ptr q.2 0]) (α:=Gv) (enc:=(λg:Gv=>[.agg (aY g)])) (Pre:=(λ(p:List Gv) (Y:aJ) (A:World)=>(p.map (·.g) <+:u6 Z s lk.fo/\p.length<=1000)/\∀e∈p,aM A.heap.size A e/\eP Y e)) (Fin:=(λ(p:List Gv) (_:aJ) (_:World)=>p.map (·.g)=u6 Z s lk.fo/\p.length<=1000)) (RO:=ab9 w.heap.size q.1 q.2) (MI:=λ_=>False) rfl call101 (λW' W2 hS hB=>by have l1:=(hS.links wn A0).size;exact n4o hZ s ho w.heap.size lk.fo q.1 q.2 W2 (dS aa hB.size) gP ((hs.up hN (hS.same A3 hN zO vF)).up (aC _) (λk hk=>hB.block k aa)) ((hg.old hS A3 zO vF).bel hB) ZF ZG) (λ_ _ _ hk=>hk.elim) (λW' hS k hk=>by have l1:=(hS.links wn A0).size;simp only[jv,kS,ft,jc,or_false];rcases hk with hk|rfl|rfl<;>exact⟨by omega,by omega,λh=>h⟩) (λ_=>rfl) (λpre G' Hc=>G'=Gh.no/\(pre.any λg:Gv=>(CP Z g.g.ms lk.by_ (eC Z lk) lk.sr lk.ss))=false/\Hc=[(b4,oC #[aO] 4)]) (λc G' Hc=>c= .ret/\G'=Gh.no/\Hc=[(b4,oC #[aK] 4)]/\B4 Z s lk=true) ⟨rfl,rfl,rfl⟩ zF ?_ ?_ ?_
 ·rintro pre x G' Hc l Dk rec W1 M V Wy pJ ui gX ⟨rfl,iL,rfl⟩ fM jA Np vE cI Io;simp only[ah]at fM vE;have hxo:∀k,k<w.heap.size->¬(Gh.no.ext λk=>M k\/V k).X k:=λk hk=>cI.z aa zL zzc zL;clear bj aZ;have bj:¬(Gh.no.ext λk=>M k\/V k).X b2:=cI.z aa zL zzc zL;have aZ:¬(Gh.no.ext λk=>M k\/V k).X b3:=cI.z aa zL zzc zL;have J:=gX.2 x (dQ.2 (.inr A0));have WK:eP (Gh.no.ext λk=>M k\/V k).X x:=⟨λq e=>(J.2.1 q e).imp id (λh1 h2=>h2.elim zL h1),λq e=>(J.2.2 q e).imp id (λh1 h2=>h2.elim zL h1)⟩;refine bD 2 ?_;intro b5 fK gf;refine B 2 ?_;refine PJ.reH (H':=book ([(b5,oC (aY x) 86),(b4,oC #[aO] 4)]) l rec (eV Dk)) rfl ?_;have AJ:∀p∈book ([(b5,oC (aY x) 86),(b4,oC #[aO] 4)]) l {rec with state:=.busy} (eV Dk),yN p.1 x:=by
   intro p hp;simp only[book,eV,gU,fP,ft,jc,or_false]at hp;rcases hp with rfl|rfl|rfl|rfl
   ·exact J.1.off zZ
   ·exact J.2.off (cI.loc.h (b4,_) A0)
   ·exact J.2.off (.inl (cI.m' _ (.inr jA)))
   exact J.2.off (.inl (cI.m' _ (.inl rfl)))
  refine nHc pJ ?_;refine B 2 ?_;cases og:(CP Z x.g.ms lk.by_ (eC Z lk) lk.sr lk.ss)with
  |true=>
   refine eS 9 5 [] (sp:=[some (.agg (aY x)),_,_,some (ab lk.by_),some (.agg (lkC lk)),_,_,_,some (.agg #[ab lk.sr,ab lk.ss])]) (h:=?_);intro _ _ hk;refine zUe ?_;rintro Wm bm wm wh Q0 ⟨mo,jQ⟩;try dsimp only at mo jQ
   have a8:=wh.lt (b5,_) A0;have aR:=wh.lt (b4,_) A1;have a6:=wh.lt (l,.loop {rec with state:=.busy}) Cf;try dsimp only at a8 aR a6
   have TJ:bm<wm.heap.size:=(bO.1 jQ).1;have CG:(b5<bm/\b4<bm/\Dk+1<bm)/\¬(Gh.no.ext λk=>M k\/V k).X bm:=⟨⟨by omega,by omega,by omega⟩,λhx=>by have:=wh.xlt bm hx;omega⟩;refine zE ?_;refine call (v:=.bool true) call71 rfl rfl rfl (λW hS=>by
    have h9:=nLi hZ x W.heap.size W (aC _) ((J.1).toZ hS A1 (aC _) WK (λp hp=>AJ p hp)) lk.by_ (eC Z lk) bm 34 (0,0) (hS.old A0 jQ CG.2 zD) (NU hZ lk) lk.sr lk.ss (hg.old hS A5 (λk hk=>hxo k aa) zlc);rwa[og]at h9) ?_
   refine B 10 ?_;refine PJ.fewL (L':=[Wy,wn,w3,w2,w]) zP ?_;refine lx ?_;refine nWe (G2:=Gh.no) (Hc2:=[(b4,oC #[aK] 4)]) (c:=.ret) cI jA ⟨λ_ h=>h,λ_ h=>.inl h,λ_ h=>.inl h,Wz,Wz⟩ (.inl ⟨rfl,rfl⟩) rfl ?_;exact⟨rfl,rfl,rfl,by unfold B4;rw[List.any_eq_true];exact⟨x.g,gX.1.1.subset zP,og⟩⟩
  |false=>
   refine eS 9 5 [] (sp:=[some (.agg (aY x)),_,_,some (ab lk.by_),some (.agg (lkC lk)),_,_,_,some (.agg #[ab lk.sr,ab lk.ss])]) (h:=?_);intro _ _ hk;refine zUe ?_;rintro Wm bm wm wh Q0 ⟨mo,jQ⟩;try dsimp only at mo jQ
   have a8:=wh.lt (b5,_) A0;have aR:=wh.lt (b4,_) A1;have a6:=wh.lt (l,.loop {rec with state:=.busy}) Cf;try dsimp only at a8 aR a6
   have TJ:bm<wm.heap.size:=(bO.1 jQ).1;have CG:(b5<bm/\b4<bm/\Dk+1<bm)/\¬(Gh.no.ext λk=>M k\/V k).X bm:=⟨⟨by omega,by omega,by omega⟩,λhx=>by have:=wh.xlt bm hx;omega⟩;refine zE ?_;refine call (v:=.bool false) call71 rfl rfl rfl (λW hS=>by
    have h9:=nLi hZ x W.heap.size W (aC _) ((J.1).toZ hS A1 (aC _) WK (λp hp=>AJ p hp)) lk.by_ (eC Z lk) bm 34 (0,0) (hS.old A0 jQ CG.2 zD) (NU hZ lk) lk.sr lk.ss (hg.old hS A5 (λk hk=>hxo k aa) zlc);rwa[og]at h9) ?_
   refine B 5 ?_;refine PJ.fewL (L':=[Wy,wn,w3,w2,w]) zP ?_;refine lx ?_;refine Jk (G2:=Gh.no) (Hc2:=[(b4,oC #[aO] 4)]) cI jA ⟨λ_ h=>h,λ_ h=>.inl h,λ_ h=>.inl h,Wz,Wz⟩ (Jl pJ ui) ?_;exact⟨rfl,by rw[List.any_append,iL];simp[og],rfl⟩
 ·rintro lF l Dk rec G' Hc Zf Wd ⟨cC,_⟩ cz fM jA ⟨rfl,iL,rfl⟩;replace fM:=yb fM;refine B 8 ?_;refine D2 (b:=b4) (.inl rfl) results32 isAgg4 rfl Cf (cs:=#[aO]) (ct:=4) (fr:=(0,0)) (by exact .head _) aa rfl (λW H' hS di=>⟨congrArg Ending.returned (vb (by unfold B4;rw[<-cC,List.any_map];exact iL.symm)),(hS.links w A4).below (λk hk hx=>by rw[di]at hx;simp[Gh.no,book]at hx;omega)⟩)
 rintro l Dk rec c G' Hc fM jA ⟨rfl,rfl,rfl,p6⟩;replace fM:=yb fM;refine B 3 ?_;refine D2 (b:=b4) (.inl rfl) results32 isAgg4 rfl Cf (cs:=#[aK]) (ct:=4) (fr:=(0,0)) (by exact .head _) aa rfl (λW H' hS di=>⟨congrArg Ending.returned (vb p6.symm),(hS.links w A3).below (λk hk hx=>by rw[di]at hx;simp[Gh.no,book]at hx;omega)⟩)
noncomputable def dH (Z:Fx) (s:Sc):Nat->Lk->Bool
 |0,l=>np l&&(if l.by_= -1 then false else B4 Z s l)
 |n+1,l=>np l&&(if l.by_= -1 then(match iy Z s.lks l with
  |some p=>eM Z s.pls l p&&dH Z s n p
  |none=>false)else B4 Z s l)
theorem ndf(hv:np l=false):∀n,dH Z s n l=false
 |0=>by grind [dH]
 |n+1=>by grind [dH]
theorem npg(hv:np l=true)(hb:¬l.by_= -1):∀n,dH Z s n l=B4 Z s l
 |0=>by grind [dH]
 |n+1=>by grind [dH]
theorem nAe(hb:l.by_= -1)(hp:iy Z s.lks l=none):∀n,dH Z s n l=false
 |0=>by grind [dH]
 |n+1=>by grind [dH]
theorem nrj(hb:l.by_= -1):dH Z s 0 l=false:=by grind [dH]
theorem n9i{p:Lk}(hv:np l=true)(hb:l.by_= -1)(hp:iy Z s.lks l=some p)(n:Nat):dH Z s (n+1) l=(eM Z s.pls l p&&dH Z s n p):=by
 grind [dH]
def acb (Z:Fx) (s:Sc) (N n:Nat):Prop:=∀(l:Lk) (w:World),dm l->N<=w.heap.size->dZ N w s->Glb w->Calls prog 15 #[.agg (mU s),.agg (lkC l),ab (n:Int)] w (ar w (.bool (dH Z s n l)))
section
variable (hZ:FxOk Z)(s:Sc)(ho:fq s)(N:Nat)(w:World)(hN:N<=w.heap.size)(hs:dZ N w s)(l:Lk)(hlk:dm l)(hg:Glb w)(n:Nat)(hn:n<=256)
include hZ ho N w hN hs hlk hg n hn
theorem ngm(hv:np l=false):Calls prog 15 #[.agg (mU s),.agg (lkC l),ab (n:Int)] w (ar w (.bool (dH Z s n l))):=by
 have gP:=hg.lt;refine QI ?_;refine yV ?_;intro b3 w3 bQ aZ dK cP dt;refine yX ?_;intro b4 w4 gI iA J dL dP;refine aV 6 (.agg (lkC l)) ?_;refine cl call20 rfl (λW hS=>by have h9:=nR l W;rwa[hv]at h9) (v:=.bool false) ?_;refine B 11 ?_;refine ao results15 rfl A2 ?_;exact vb (ndf hv n).symm
theorem nSn(hv:np l=true)(hb:¬l.by_= -1):Calls prog 15 #[.agg (mU s),.agg (lkC l),ab (n:Int)] w (ar w (.bool (dH Z s n l))):=by
 have gP:=hg.lt;refine QI ?_;refine yV ?_;intro b3 w3 bQ aZ dK cP dt;refine yX ?_;intro b4 w4 gI iA J dL dP;refine B 6 ?_;refine zkh ?_;refine rq aK (aN rfl rfl) (vb (by simp[hb])) ?_;refine B 5 ?_;refine zxh ?_;refine call (v:=.bool (B4 Z s l)) call32 rfl rfl rfl (λW hS=>nAl hZ s ho N W aT (hs.us hS.sm) l hlk (hg.old hS A2 zO trivial)) ?_;refine B 5 ?_;refine ao results15 rfl A2 ?_;exact vb (npg hv hb n).symm
theorem nxj(hv:np l=true)(hb:l.by_= -1)(hp:iy Z s.lks l=none):Calls prog 15 #[.agg (mU s),.agg (lkC l),ab (n:Int)] w (ar w (.bool (dH Z s n l))):=by
 have gP:=hg.lt;refine QI ?_;refine yV ?_;intro b3 w3 bQ aZ dK cP dt;refine yX ?_;intro b4 w4 gI iA J dL dP;refine B 6 ?_;refine zkh ?_;refine rq aO (aN rfl rfl) (vb (by simp[hb])) ?_;refine B 7 ?_;refine zxh ?_;refine call (v:=.tuple #[.agg (lkC vX),aO]) call33 rfl rfl rfl (λW hS=>by have h9:=nYd hZ s ho N W aT (hs.us hS.sm) l (hg.old hS A2 zO trivial);rwa[hp]at h9) ?_;refine bD 4 ?_;intro b7 ie lu;refine B 28 ?_;refine z2g ?_;exact vb (nAe hb hp n).symm
theorem nAr(hv:np l=true)(hb:l.by_= -1)(p:Lk)(hp:iy Z s.lks l=some p)(h0:n=0):Calls prog 15 #[.agg (mU s),.agg (lkC l),ab (n:Int)] w (ar w (.bool (dH Z s n l))):=by
 have gP:=hg.lt;refine QI ?_;refine yV ?_;intro b3 w3 bQ aZ dK cP dt;refine yX ?_;intro b4 w4 gI iA J dL dP;refine B 6 ?_;refine zFd ?_;refine bD 4 ?_;intro b7 ie lu;refine aV 9 aO ?_;refine B 18 ?_;refine z2g ?_;exact vb (by subst h0;exact(nrj hb).symm)
theorem nhs(hv:np l=true)(hb:l.by_= -1)(p:Lk)(hp:iy Z s.lks l=some p)(m:Nat)(h0:n=m+1)(hc:eM Z s.pls l p=false):Calls prog 15 #[.agg (mU s),.agg (lkC l),ab (n:Int)] w (ar w (.bool (dH Z s n l))):=by
 have gP:=hg.lt;refine QI ?_;refine yV ?_;intro b3 w3 bQ aZ dK cP dt;refine yX ?_;intro b4 w4 gI iA J dL dP;refine B 6 ?_;refine zFd ?_;refine bD 4 ?_;intro b7 ie lu;refine aV 9 aK ?_;refine B 2 ?_;refine zxh ?_;refine bX (.agg (lkC p)) ?_;refine call (v:=.bool false) call34 rfl rfl rfl (λW hS=>zYs) ?_;refine B 12 ?_;refine z2g ?_;exact vb (by subst h0;rw[n9i hv hb hp,hc];rfl)
theorem nxr(hv:np l=true)(hb:l.by_= -1)(p:Lk)(hp:iy Z s.lks l=some p)(m:Nat)(h0:n=m+1)(hc:eM Z s.pls l p=true)(ih:acb Z s N m):Calls prog 15 #[.agg (mU s),.agg (lkC l),ab (n:Int)] w (ar w (.bool (dH Z s n l))):=by
 have gP:=hg.lt;refine QI ?_;refine yV ?_;intro b3 w3 bQ aZ dK cP dt;refine yX ?_;intro b4 w4 gI iA J dL dP;refine B 6 ?_;refine zFd ?_;refine bD 4 ?_;intro b7 ie lu;refine aV 9 aK ?_;refine B 2 ?_;refine zxh ?_;refine bX (.agg (lkC p)) ?_;refine call (v:=.bool true) call34 rfl rfl rfl (λW hS=>zYs) ?_;refine aV 2 (.agg (mU s)) ?_;refine bX (.agg (lkC p)) ?_;refine B 1 ?_;refine rq (ab (m:Int)) (u7 rfl rfl aa aa) ((congrArg ab aa)) ?_;refine call (v:=.bool (dH Z s m p)) call15 rfl rfl rfl (λW hS=>ih p W (ho.ko p (nOq hp)) aT (hs.us (hS.same A2 hN zO uy)) (hg.old hS A2 zO uy)) ?_;refine B 5 ?_;refine z2g ?_;exact vb (by subst h0;rw[n9i hv hb hp,hc];rfl)
end
theorem nrl(hZ:FxOk Z)(s:Sc)(ho:fq s)(N:Nat):∀n,n<=256->acb Z s N n:=by
 intro n;induction n with
 |zero=>
  intro hn l w hlk hN hs hg;cases hv:np l with
  |false=>grind [ngm,mU,lkC,ar,dH,Glb,np]
  |true=>
   by_cases hb:l.by_= -1
   ·cases hp:iy Z s.lks l with
    |none=>grind [nxj,mU,lkC,ar,dH,Glb,np]
    |some p=>grind [nAr,mU,lkC,ar,dH,Glb,np]
   grind [nSn,mU,lkC,ar,dH,Glb,np]
 |succ m ih=>
  intro hn l w hlk hN hs hg;cases hv:np l with
  |false=>exact ngm hZ s ho N w hN hs l hlk hg (m+1) hn hv
  |true=>
   by_cases hb:l.by_= -1
   ·cases hp:iy Z s.lks l with
    |none=>exact nxj hZ s ho N w hN hs l hlk hg (m+1) hn hv hb hp
    |some p=>
     cases hc:eM Z s.pls l p with
     |false=>exact nhs hZ s ho N w hN hs l hlk hg (m+1) hn hv hb p hp m rfl hc
     |true=>exact nxr hZ s ho N w hN hs l hlk hg (m+1) hn hv hb p hp m rfl hc (ih aa)
   exact nSn hZ s ho N w hN hs l hlk hg (m+1) hn hv hb
theorem MA{d:Int}{k:Nat}{fo:Fo}{ds:List (Nat×Gv)}(iL:cE (λf=>decide (f.id=d)) s.fos k)(hk:s.fos[k]? =some fo)(hp:fo.id=d)(hc:pA Z s.cs fo (ds.map λd=>(d.1,d.2.g))):(ds.map λd=>d.2).map (·.g)=u6 Z s d:=by
 unfold u6;rw[iL.find hk (decide_eq_true hp)];show _=(HR Z s.cs fo).map (·.2);rw[nQq hc,List.map_map,List.map_map];rfl
theorem nun{lk:Lk}{gs:List Gv}{x:Gv}(I5:gs.map (·.g)=u6 Z s lk.fo)(hb:¬lk.by_= -1)(hx:x∈gs)(h:CP Z x.g.ms lk.by_ (eC Z lk) lk.sr lk.ss=true):true=if lk.by_= -1 then false else B4 Z s lk:=by
 grind [B4]
theorem acd{lk:Lk}{gs:List Gv}(I5:gs.map (·.g)=u6 Z s lk.fo)(hb:¬lk.by_= -1)(h:gs.any (λx=>CP Z x.g.ms lk.by_ (eC Z lk) lk.sr lk.ss)=false):false=if lk.by_= -1 then false else B4 Z s lk:=by
 grind [B4]
theorem n1i(pls:List Pl)(l p:Lk):TF pls l p=(cA (nC pls) l.fo).any λx=>decide (x=p.fo):=by
 grind [TF]
theorem nvf{p:Lk}(hb:l.by_= -1)(hp:iy Z s.lks l=some p)(hc:eM Z s.pls l p=false):∀n,dH Z s n l=false
 |0=>nrj hb
 |n+1=>by grind [dH]
def rH (Z:Fx) (s:Sc) (l0 l:Lk) (n:Nat):Prop:=if n<=256 then dH Z s 256 l0=dH Z s (256-n) l else dH Z s 256 l0=false
theorem rH.next{J p:Lk}{n:Nat}(h:rH Z s J l n)(hn:n<=256)(hv:np l=true)(hb:l.by_= -1)(hp:iy Z s.lks l=some p)(hc:eM Z s.pls l p=true):rH Z s J p (n+1):=by
 unfold rH at *;rw[if_pos hn]at h;by_cases h1:n+1<=256
 ·rw[if_pos h1,h,show 256-n=(256-(n+1))+1 by omega,n9i hv hb hp,hc,Bool.true_and]
 rw[if_neg h1,h,show 256-n=0 by omega,nrj hb]
theorem rH.is{J:Lk}{n:Nat}{b:Bool}(h:rH Z s J l n)(hn:n<=256)(e:∀n,dH Z s n l=b):b=dH Z s 256 J:=by
 grind [rH]
theorem rH.fin{J:Lk}{n:Nat}(h:rH Z s J l n)(hn:¬n<=256):false=dH Z s 256 J:=by
 grind [rH]
theorem n6q(hZ:FxOk Z)(s:Sc)(ho:fq s)(N:Nat)(w:World)(hN:N<=w.heap.size)(hs:dZ N w s)(d:Int):Calls prog 36 #[.agg (rdA s),ab d] w (db w (λq:(Option Addr×Nat)×List Gv=>.slice q.1.1 q.2.length q.1.2) (λq w1=>(q.2.map (·.g)=u6 Z s d/\q.2.length<=1000)/\aj aY 36 w1.heap.size w1 q.1.1 q.2/\∀e∈q.2,aM w1.heap.size w1 e)):=by
 have BN:=ho.fo;refine eN func36 ntmps36 ?_;refine aU 2 ?_;intro b2 w2 bV bj dz cL cR;refine B 10 ?_;refine CJ.lp (α:=Nat) [1,2] (λj=>[(5,ab (j:Int))]) (λj=>[]) (λj=>j<=s.fos.length/\cE (λf:Fo=>decide (f.id=d)) s.fos j) (λj=>s.fos.length-j) 0 ⟨cd _,λi x hi=>absurd hi aa⟩ ?_;rintro j ⟨hj,iL⟩;refine aV 5 (.slice s.fa s.fos.length s.fc) ?_;refine av 4 ?_ ?_
 ·intro ai;refine B 5 ?_;obtain⟨bo,oo,cs0,to,dR,iq,dW,fY,ay⟩:=hs.fo.get aa;obtain⟨x,hx⟩:=ng s.fos j aa;refine B 2 ?_;refine rq (.slice (some ⟨bo,oo,none⟩) s.fos.length s.fc) (ad isAgg22 rfl A0 bV bj trivial rfl) (mR) ?_;refine B 3 ?_;refine rx (ad (v:=ab x.id) isAgg3 rfl A1 fY zL trivial (nu ay hx rfl 0 zF)) ?_;refine av 4 ?_ ?_
  ·intro ax;refine B 1 ?_;refine tS 12 [7,8,9,10,11] [[],[0],[0,1],[0,1],[0,1,2]] (λcv L' H'=>∃(a1:Option Addr) (c1:Nat) (a2:Option Addr) (c2:Nat) (ds:List (Nat×Gv)) (J:World),cv=[some (.tuple #[.slice a1 ds.length c1,.slice a2 ds.length c2]),some (.tuple #[.slice a1 ds.length c1,.slice a2 ds.length c2]),some (.slice a1 ds.length c1),some (.slice a2 ds.length c2),some (.slice a1 ds.length c1)]/\L'=[J,w2,w]/\H'=[]/\pA Z s.cs x (ds.map λd:Nat×Gv=>(d.1,d.2.g))/\ds.length<=s.cs.length/\aj (λx=>(kN x).toArray) 36 J.heap.size J a2 (ds.map λd:Nat×Gv=>d.2)/\(∀d∈ds,aM J.heap.size J d.2/\True)) (pb:=by exact zU 1 (k:=by exact qv (RV.re (v':=.slice (some ⟨bo,oo,none⟩) s.fos.length s.fc) (ad isAgg22 rfl A0 bV bj trivial rfl) mR) zT)) (sp:=[_,some (.slice (some ⟨bo,oo,none⟩) s.fos.length s.fc),_,_,some (.agg (sM x)),_,some (.slice s.la s.cs.length s.lc),_,_,_,_,_]) (t:=?_) (k:=?_)
   ·repeat' first|exact tZ|(refine tU rfl ?_)|(refine tR rfl ?_ ?_)|(refine tN jI ?_)|(exact tE jI vA ⟨a1,c1,a2,c2,ds,J,rfl,rfl,rfl,oi,mr,jR,kH⟩)|(intro _ _ hk;(first|(refine B 1 ?_;refine OJ.done (hk _ _ _ ?_))|(refine ny (α:=((Option Addr×Nat)×(Option Addr×Nat))×List (Nat×Gv)) (v:=λq=>.tuple #[.slice q.1.1.1 q.2.length q.1.1.2,.slice q.1.2.1 q.2.length q.1.2.2]) (Φ:=λWc q w1=>(pA Z s.cs x (q.2.map λd:Nat×Gv=>(d.1,d.2.g))/\q.2.length<=s.cs.length)/\aj (λx=>(ak x).toArray) 1 w1.heap.size w1 q.1.1.1 (q.2.map λd:Nat×Gv=>((d.1:Nat):Int))/\aj (λx=>(kN x).toArray) 36 w1.heap.size w1 q.1.2.1 (q.2.map λd:Nat×Gv=>d.2)/\(∀p,q.1.1.1=some p->Wc.heap.size<=p.block)/\(∀p,q.1.2.1=some p->Wc.heap.size<=p.block)/\∀d∈q.2,aM w1.heap.size w1 d.2/\bU Wc.heap.size d.2) call78 rfl rfl rfl (λW hS=>nCs hZ s.cs ho.cl ho.cg N s.la s.lc W aT (hs.cs.us hS.sm) (λc hc=>(hs.cm c hc).up (aC _) hS.sm) x) ?_;rintro Wc ⟨⟨⟨a1,c1⟩,⟨a2,c2⟩⟩,ds⟩ J Am IH ⟨⟨oi,mr⟩,_,jR,_,_,kH⟩;(try dsimp only at oi mr jR kH);have kH:(∀d∈ds,aM J.heap.size J d.2/\True):=(λd hd=>⟨(kH d hd).1,trivial⟩);refine OJ.done (hk _ _ _ ?_))))
   rintro _ _ _ ⟨a1,c1,a2,c2,ds,J,rfl,rfl,rfl,oi,mr,jR,kH⟩;refine B 15 ?_;replace jR:aj aY 36 J.heap.size J a2 (ds.map λd:Nat×Gv=>d.2):=jR;have I5:=MA iL hx ew oi;refine bH (.inl rfl) results36 aL λW hS=>⟨((a2,c2),ds.map λd:Nat×Gv=>d.2),?_,hS.base A2 trivial,⟨I5,by dsimp only;rw[jg];have:=ho.cl;omega⟩,jR.up (hS.links J A0).size (hS.same A0 (aC _) zO trivial),?_⟩
   ·exact congrArg (λn=>Ending.returned (.slice a2 n c2)) (jg _).symm
   intro e he;obtain⟨d9,VZ,rfl⟩:=dO.1 he;exact(kH d9 VZ).1.up (hS.links J A0).size (hS.same A0 (aC _) zO trivial)
  intro ax;refine B 8 ?_;refine ag (j+1) ⟨by omega,iL.next hx z2⟩
 intro ai;refine B 11 ?_;refine bH (.inl rfl) results36 aL λW hS=>⟨((none,0),[]),rfl,hS.base A1 trivial,⟨(Pd (Cu iL aa)).symm,cd _⟩,.inl rfl,by simp⟩
theorem nMs(hZ:FxOk Z)(g:Gv)(N:Nat)(w:World)(hN:N<=w.heap.size)(hG:aM N w g)(d:Int)(J:Nat->Int)(bm tm:Nat)(aq:Nat×Nat)(jQ:w.heap[bm]? =some (.cells (dg J) tm aq))(DZ:gY J)(r s:Int):Calls prog 37 #[.agg (aY g),ab d,.slice (aH bm) 32 32,.agg #[ab r,ab s]] w (ar w (.bool (CP Z g.g.ms d J r s))):=by
 have pO:g.g.ms.length<=1000000:=by have:=hG.mn;omega
 refine eN func37 ntmps37 ?_;refine aU 2 ?_;intro b4 w4 gI iA oA dL dP;refine yX ?_;intro b7 w7 UO UP a6 ie lu;refine B 10 ?_;refine CJ.lp (α:=Nat) [1,2,4,7] (λj=>[(9,ab (j:Int))]) (λj=>[]) (λj=>j<=g.g.ms.length/\cE (λm:Mb=>decide (m.dev=d)) g.g.ms j) (λj=>g.g.ms.length-j) 0 ⟨cd _,λi x hi=>absurd hi aa⟩ ?_;rintro j ⟨hj,bT⟩;refine aV 5 (.slice g.ma g.g.ms.length g.mc) ?_;refine av 4 ?_ ?_
 ·intro ai;refine B 5 ?_;obtain⟨bo,oo,cs0,to,dR,iq,dW,fY,ay⟩:=hG.ms.get aa;obtain⟨x,hx⟩:=ng g.g.ms j aa;refine B 2 ?_;refine rq (.slice (some ⟨bo,oo,none⟩) g.g.ms.length g.mc) (ad isAgg81 rfl A1 gI iA trivial rfl) (mR) ?_;refine B 3 ?_;refine rx (ad (v:=ab x.dev) isAgg3 rfl A2 fY zL trivial (nu ay hx rfl 0 zF)) ?_;refine av 4 ?_ ?_
  ·intro ax;refine B 1 ?_;refine eA 8 (pb:=by exact zU 1 (k:=by exact qv (RV.re (v':=.slice (some ⟨bo,oo,none⟩) g.g.ms.length g.mc) (ad isAgg81 rfl A1 gI iA trivial rfl) (mR)) (zU 3 (k:=by exact qv (ad (v:=ab x.ver) isAgg3 rfl A2 fY zL trivial (nu ay hx rfl 2 zF)) zT)))) (sp:=[_,_,_,_,_,_,_,some (.agg #[ab r,ab s])]) (k:=?_);refine cl call42 rfl (λW hS=>by have h9:=YP hZ x.ver r s (dy J) bm 0 32 (by rw[nM];omega) W (cD.dg (hS.old A2 jQ zL trivial) DZ);rw[nM]at h9;exact h9) (v:=.bool (jF Z x.ver (dy J) r s)) ?_;refine B 9 ?_;exact zek
  exact OC
 intro ai;refine B 11 ?_;exact zek
theorem njo(hZ:FxOk Z)(s:Sc)(ho:fq s)(N:Nat)(w:World)(hN:N<=w.heap.size)(hs:dZ N w s)(lk:Lk)(hlk:dm lk):Calls prog 17 #[.agg (rdA s),.agg (lkC lk)] w (ar w (.bool (if lk.by_= -1 then false else B4 Z s lk))):=by
 refine eN func17 ntmps17 ?_;refine aU 2 ?_;intro b2 w2 bV bj dz cL cR;refine yX ?_;intro b3 w3 bQ aZ dK cP dt;refine aV 7 (ab lk.by_) ?_;refine av 3 ?_ ?_
 ·intro ai;refine B 7 ?_;refine ao results17 rfl A2 ?_;exact zsj
 intro ai;refine aV 4 (.agg (rdA s)) ?_;refine aV 1 (ab lk.fo) ?_;refine ny (α:=(Option Addr×Nat)×List Gv) (v:=λq=>.slice q.1.1 q.2.length q.1.2) (Φ:=λ_ q w1=>(q.2.map (·.g)=u6 Z s lk.fo/\q.2.length<=1000)/\aj aY 36 w1.heap.size w1 q.1.1 q.2/\∀e∈q.2,aM w1.heap.size w1 e) call36 rfl rfl rfl (λW hS=>n6q hZ s ho N W aT (hs.us hS.sm) lk.fo) ?_;rintro Wg ⟨⟨ag,cg⟩,gs⟩ J a6 aR ⟨⟨I5,UK⟩,og,HQ⟩;try dsimp only at I5 UK og HQ
 refine B 10 ?_;refine CJ.lp (α:=Nat) [3,5] (λj=>[(6,ab (j:Int))]) (λj=>[]) (λj=>j<=gs.length/\cE (λx:Gv=>CP Z x.g.ms lk.by_ (eC Z lk) lk.sr lk.ss) gs j) (λj=>gs.length-j) 0 ⟨cd _,λi x hi=>absurd hi aa⟩ ?_;rintro j ⟨hj,bT⟩;refine av 9 ?_ ?_
 ·intro ax;refine B 5 ?_;obtain⟨bo,oo,cs0,to,dR,rfl,dW,fY,ay⟩:=og.get aa;obtain⟨x,hx⟩:=ng gs j aa;refine eS 10 7 [] (sp:=[some (.slice (some ⟨bo,oo,none⟩) gs.length cg),_,_,some (.agg (aY x)),_,some (ab lk.by_),some (.agg (lkC lk)),_,_,some (.agg #[ab lk.sr,ab lk.ss])]) (h:=?_);intro _ _ hk;refine ny (α:=Nat) (v:=λb=>.slice (aH b) 32 32) (Φ:=λW b w1=>W.heap.size<=b/\w1.heap[b]? =some (oC (dg (eC Z lk)) 34)) call38 rfl rfl rfl (λW hS=>nbg hZ lk hlk W) ?_;rintro Wm bm wm wh Q0 ⟨mo,jQ⟩;refine zE ?_;refine cl call37 rfl (λW hS=>nMs hZ x J.heap.size W (hS.links J A1).size ((HQ x (cF hx)).up (aC _) (hS.same A1 (aC _) zO trivial)) lk.by_ (eC Z lk) bm 34 (0,0) (hS.old A0 jQ zL trivial) (NU hZ lk) lk.sr lk.ss) ?_;refine av 2 ?_ ?_
  ·intro bY;refine B 11 ?_;refine ao results17 rfl A4 ?_;exact zsj
  intro bY;refine B 8 ?_;exact z1i
 intro ax;refine B 11 ?_;refine ao results17 rfl A3 ?_;exact zsj
theorem HS{lks:List Lk}{x:Lk}{j:Nat}(hb:l.by_= -1)(bT:cE (λx=>gV (qu Z x) l.par) lks j)(hx:lks[j]? =some x)(h:gV (qu Z x) l.par=true):iy Z lks l=some x:=by
 unfold iy;rw[if_pos hb];exact bT.find hx h
section
variable (hZ:FxOk Z)(s:Sc)(ho:fq s)(N:Nat)(w:World)(hN:N<=w.heap.size)(hs:dZ N w s)
include hZ ho N w hN hs
theorem nNg(l:Lk)(hb:l.by_= -1):Calls prog 18 #[.agg (rdA s),.agg (lkC l)] w (ar w (ab3 (iy Z s.lks l))):=by
 have J:=ho.kl;refine eN func18 ntmps18 ?_;refine aU 2 ?_;intro b2 w2 bV bj dz cL cR;refine yX ?_;intro b3 w3 bQ aZ dK cP dt;refine bD 1 ?_;intro b4 dL dP;refine B 10 ?_;refine CJ.lp (α:=Nat) [2,3,4] (λj=>[(6,ab (j:Int))]) (λj=>[(b4,oC (lkC vX) 38)]) (λj=>j<=s.lks.length/\cE (λx=>gV (qu Z x) l.par) s.lks j) (λj=>s.lks.length-j) 0 ⟨cd _,λi x hi=>absurd hi aa⟩ ?_;rintro j ⟨hj,bT⟩;refine B 5 ?_;refine zZg ?_;refine av 4 ?_ ?_
 ·intro ai;refine B 5 ?_;obtain⟨bo,oo,cs0,to,dR,iq,dW,fY,ay⟩:=hs.lk.get aa;obtain⟨x,hx⟩:=ng s.lks j aa;refine eA 8 (pb:=by exact zU 1 (k:=by exact qv (RV.re (v':=.slice (some ⟨bo,oo,none⟩) s.lks.length s.kc) (ad isAgg27 rfl A1 bV bj zD rfl) (mR)) (zU 3 (k:=by exact dh (X.cv call39 rfl (λW hS _=>QA hZ x (ho.ko x (cF hx)) W)) zT)))) (sp:=[_,_,_,_,some (.agg (lkC x)),some (.agg (dg (qu Z x))),_,some (.agg (dg l.par))]) (k:=?_);refine rr (.bool (gV (qu Z x) l.par)) (lR wZ zF nT rfl rfl rfl) ?_;refine av 2 ?_ ?_
  ·intro ax;refine B 3 ?_;refine rq (.slice (some ⟨bo,oo,none⟩) s.lks.length s.kc) (ad isAgg27 rfl A1 bV bj zD rfl) (mR) ?_;refine aV 2 (.agg (lkC x)) ?_;refine B 10 ?_;exact bH (.inl rfl) results18 aL λW hS=>⟨by rw[HS hb bT hx ew];rfl,hS.base A2 uy⟩
  exact OC
 intro ai;refine B 13 ?_;exact bH (.inl rfl) results18 aL λW hS=>⟨by rw[HJ (Cu bT aa)];rfl,hS.base A2 uy⟩
theorem MB(l p:Lk)(hlk:dm l)(hv:np p=false):Calls prog 19 #[.slice s.pa s.pls.length s.pc,.agg (lkC l),.agg (lkC p)] w (ar w (.bool (eM Z s.pls l p))):=by
 refine WL ?_;refine yV ?_;intro b4 w4 gI iA J dL dP;refine yX ?_;intro b5 w5 gQ je pq fK gf;refine B 4 ?_;refine eA 36 (pb:=by exact zU 1 (k:=by exact dh (ne call16 rfl rfl (λW hS _=>zYw) (λ_=>rfl)) zT)) (sp:=(_::(some (aO))::_)) (k:=?_);refine B 6 ?_;refine ao results19 rfl A2 ?_;exact vb (by unfold eM;simp[hv])
theorem MC(l p:Lk)(hlk:dm l)(hv:np p=true)(hr:p.resh=false):Calls prog 19 #[.slice s.pa s.pls.length s.pc,.agg (lkC l),.agg (lkC p)] w (ar w (.bool (eM Z s.pls l p))):=by
 refine WL ?_;refine yV ?_;intro b4 w4 gI iA J dL dP;refine yX ?_;intro b5 w5 gQ je pq fK gf;refine B 4 ?_;refine eA 36 (pb:=by exact zU 1 (k:=by exact dh (ne call16 rfl rfl (λW hS _=>zYw) (λ_=>rfl)) (zU 2 (k:=zY4)))) (sp:=(_::(some (aK))::_)) (k:=?_);refine B 6 ?_;refine ao results19 rfl A2 ?_;exact vb (by unfold eM;simp[hr])
theorem MD(l p:Lk)(hlk:dm l)(hv:np p=true)(hr:p.resh=true)(he:¬l.exp<=p.exp):Calls prog 19 #[.slice s.pa s.pls.length s.pc,.agg (lkC l),.agg (lkC p)] w (ar w (.bool (eM Z s.pls l p))):=by
 refine WL ?_;refine yV ?_;intro b4 w4 gI iA J dL dP;refine yX ?_;intro b5 w5 gQ je pq fK gf;refine B 4 ?_;refine eA 36 (pb:=by exact zU 1 (k:=by exact dh (ne call16 rfl rfl (λW hS _=>zYw) (λ_=>rfl)) (zU 2 (k:=zY5)))) (sp:=(_::(some (aK))::_::_::_::_::_::_::_::_::_::(some aO)::_)) (k:=?_);refine B 6 ?_;refine ao results19 rfl A2 ?_;exact vb (by unfold eM;simp[he])
theorem HT(l p:Lk)(hlk:dm l)(hv:np p=true)(hr:p.resh=true)(he:l.exp<=p.exp)(hf:p.fo=l.fo):Calls prog 19 #[.slice s.pa s.pls.length s.pc,.agg (lkC l),.agg (lkC p)] w (ar w (.bool (eM Z s.pls l p))):=by
 refine WL ?_;refine yV ?_;intro b4 w4 gI iA J dL dP;refine yX ?_;intro b5 w5 gQ je pq fK gf;refine B 4 ?_;refine eS 36 33 [] (pb:=by exact zU 1 (k:=by exact dh (ne call16 rfl rfl (λW hS _=>zYw) (λ_=>rfl)) (zU 2 (k:=by exact qv (RV.re (v':=aK) (ad isAgg4 rfl A0 gQ je trivial rfl) (vb hr)) (zU 13 (k:=zYBN)))))) (sp:=[_,some (aK),_,_,_,_,_,_,_,_,_,some aK,_,_,_,_,_,_,_,_,_,_,_,_,_,_,_,_,_,_,_,some (ab p.ver),some (.agg (lkC l)),_,_,some (.agg #[ab l.sr,ab l.ss])]) (h:=?_);intro _ _ hk;refine zmf ?_;rintro Wm tV AK wh Q0 ⟨mo,ql⟩;refine zE ?_;refine call (v:=.bool (jF Z p.ver (dy (eC Z l)) l.sr l.ss)) call42 rfl rfl rfl (λW hS=>by have h9:=YP hZ p.ver l.sr l.ss (dy (eC Z l)) tV 0 32 (by rw[nM];omega) W (cD.dg (hS.old A0 ql zL trivial) (NU hZ l));rw[nM]at h9;exact h9) ?_;refine B 5 ?_;refine ao results19 rfl A3 ?_;exact vb (by unfold eM;simp[hv,hr,he,hf])
theorem TM(l p:Lk)(hlk:dm l)(hv:np p=true)(hr:p.resh=true)(he:l.exp<=p.exp)(hf:¬p.fo=l.fo)(hu:TF s.pls l p=true):Calls prog 19 #[.slice s.pa s.pls.length s.pc,.agg (lkC l),.agg (lkC p)] w (ar w (.bool (eM Z s.pls l p))):=by
 refine WL ?_;refine yV ?_;intro b4 w4 gI iA J dL dP;refine yX ?_;intro b5 w5 gQ je pq fK gf;refine B 4 ?_;refine nE (E':=[(0,_),(1,_),(2,_),(4,_),(5,_),(6,_)]) zR ?_;refine CJ.chn 36 [23,33] [_,some (aK),_,_,_,_,_,_,_,_,_,_,_,_,_,_,_,_,_,_,_,_,_,none,_,_,some (aK),_,_,_,_,_,_,none,_,some (.agg #[ab l.sr,ab l.ss])] (λcv L' H'=>match cv with| []=>L'=[w5,w4,w]/\H'=[]| [v1]=>∃(gA:Rw),v1=gA.val (cA (nC s.pls) l.fo).length/\L'=[w5,w4,w]/\H'=(gA.hp ak 3 (cA (nC s.pls) l.fo)++[])/\gA.Fr Gh.no [w5,w4,w]/\gA.Fit 1 (cA (nC s.pls) l.fo)| [v1,v2]=>∃(gA:Rw) (tV:Nat) (AK:World),v1=gA.val (cA (nC s.pls) l.fo).length/\v2= .slice (aH tV) 32 32/\L'=[AK,w5,w4,w]/\H'=(gA.hp ak 3 (cA (nC s.pls) l.fo)++[])/\gA.Fr Gh.no [w5,w4,w]/\gA.Fit 1 (cA (nC s.pls) l.fo)/\AK.heap[tV]? =some (oC (dg (eC Z l)) 34)/\cu (gA.hp ak 3 (cA (nC s.pls) l.fo)++[]) tV|_=>False) (pc qm (pc qm (pc zX (pc zac (pc qm (pc CQ (pc zX (pc z0 (pc qm (pc z0 (pc qm (pc zEb (pc CQ (pc zX (pc z0 (pc qm (pc z0 (pc qm (pc zIb (pc zX (pc zX (pc z0 (pc qm (pk (pc z0 (pc qm (pc (λcv L' H' hd hP=>match cv,hd,hP with| [],hd,hP=>(absurd (show false=true from hd) zF)| [v1],hd,hP=>zyb| [v1,v2],hd,hP=>(by obtain⟨gA,tV,AK,rfl,rfl,rfl,rfl,gd,cK,ql,tW⟩:=hP;exact ne call40 rfl rfl (λW hS _=>by obtain⟨a9,c9,e9,h9⟩:=gA.sl' (t:=3) cK (Rw.at_own hS (λp hp=>by simp[hp]));have h8:=nZk (cA (nC s.pls) l.fo) (dS (yS (Tn s.pls).1 l.fo) znd) W.heap.size a9 c9 W (aC _) h9 p.fo;rw[<-n1i,hu,<-e9]at h8;exact h8) (λ_=>rfl))|_::_::_::_,_,hP=>hP.elim) (pc zAc (pc CQ (pc zX (pc z0 (pc qm (pc qm (pk (pc U7 (pc qm (pn))))))))))))))))))))))))))))))))))))) ?_ ?_
 ·refine ss rfl ?_ ?_
  ·exact z9k
  refine ss rfl ?_ ?_
  ·intro cv L' H' hl hP F Q' hk;obtain⟨v1,rfl⟩:=gh hl;obtain⟨gA,rfl,rfl,rfl,gd,cK⟩:=hP;refine zmf ?_;exact z0j
  exact nn
 intro cv L' H' hl hP;obtain⟨v1,v2,rfl⟩:=kY hl;obtain⟨gA,tV,AK,rfl,rfl,rfl,rfl,gd,cK,ql,tW⟩:=hP;refine call (v:=.bool (jF Z p.ver (dy (eC Z l)) l.sr l.ss)) call42 rfl rfl rfl (λW hS=>by have h9:=YP hZ p.ver l.sr l.ss (dy (eC Z l)) tV 0 32 (by rw[nM];omega) W (cD.dg (hS.old A0 ql zL tW) (NU hZ l));rw[nM]at h9;exact h9) ?_;refine B 5 ?_;exact bH (.inl rfl) results19 (RS.t rfl RS.n) λW hS=>⟨congrArg Ending.returned (vb (by unfold eM;simp[hv,hr,he,hu])),hS.base A3 WJ⟩
theorem ME(l p:Lk)(hlk:dm l)(hv:np p=true)(hr:p.resh=true)(he:l.exp<=p.exp)(hf:¬p.fo=l.fo)(hu:TF s.pls l p=false):Calls prog 19 #[.slice s.pa s.pls.length s.pc,.agg (lkC l),.agg (lkC p)] w (ar w (.bool (eM Z s.pls l p))):=by
 refine WL ?_;refine yV ?_;intro b4 w4 gI iA J dL dP;refine yX ?_;intro b5 w5 gQ je pq fK gf;refine B 4 ?_;refine nE (E':=[(0,_),(1,_),(2,_),(4,_),(5,_),(6,_)]) zR ?_;refine CJ.chn 36 [23] [_,some (aK),_,_,_,_,_,_,_,_,_,_,_,_,_,_,_,_,_,_,_,_,_,none,_,_,some (aO),_,_,_,some undef,some undef,some undef,some undef,some undef,some undef] (λcv L' H'=>match cv with| []=>L'=[w5,w4,w]/\H'=[]| [v1]=>∃(gA:Rw),v1=gA.val (cA (nC s.pls) l.fo).length/\L'=[w5,w4,w]/\H'=(gA.hp ak 3 (cA (nC s.pls) l.fo)++[])/\gA.Fr Gh.no [w5,w4,w]/\gA.Fit 1 (cA (nC s.pls) l.fo)|_=>False) (pc u4 (pc u4 (pc zX (pc zac (pc u4 (pc CQ (pc zX (pc z0 (pc u4 (pc z0 (pc u4 (pc zEb (pc CQ (pc zX (pc z0 (pc u4 (pc z0 (pc u4 (pc zIb (pc zX (pc zX (pc z0 (pc u4 (pk (pc z0 (pc u4 (pc (λcv L' H' hd hP=>match cv,hd,hP with| [],hd,hP=>(absurd (show false=true from hd) zF)| [v1],hd,hP=>zyb|_::_::_,_,hP=>hP.elim) (pc zAc (pc CQ (pc zX (pc z7 (pc z7 (pc z7 (pc z7 (pc z7 (pc z7 (pn))))))))))))))))))))))))))))))))))))) ?_ ?_
 ·refine ss rfl ?_ ?_
  ·exact z9k
  exact nn
 intro cv L' H' hl hP;obtain⟨v1,rfl⟩:=gh hl;obtain⟨gA,rfl,rfl,rfl,gd,cK⟩:=hP;refine B 6 ?_;exact bH (.inl rfl) results19 (RS.t rfl RS.n) λW hS=>⟨congrArg Ending.returned (vb (by unfold eM;simp[hf,hu])),hS.base A2 WJ⟩
theorem nuh(l p:Lk)(hlk:dm l):Calls prog 19 #[.slice s.pa s.pls.length s.pc,.agg (lkC l),.agg (lkC p)] w (ar w (.bool (eM Z s.pls l p))):=by
 grind [MB,MC,HT,TM,ME,MD]
theorem nii(J:Lk)(Cc:dm J):Calls prog 7 #[.agg (rdA s),.slice s.pa s.pls.length s.pc,.agg (lkC J)] w (ar w (.bool (dH Z s 256 J))):=by
 refine eN func7 ntmps7 ?_;refine aU 2 ?_;intro b3 w3 bQ aZ dK cP dt;refine P4 rfl rfl rfl ?_;refine yW ?_;intro b5 fK gf;refine B 10 ?_;refine CJ.lp (α:=Lk×Nat) [3,5] (λz=>[(1,.slice s.pa s.pls.length s.pc),(7,ab (z.2:Int))]) (λz=>[(b5,oC (lkC z.1) 38)]) (λz=>z.2<=257/\dm z.1/\rH Z s J z.1 z.2) (λz=>257-z.2) (J,0) ⟨cd _,Cc,(if_pos (cd 256)).mpr rfl⟩ ?_;rintro⟨l,n⟩ ⟨hn,hlk,hJ⟩;dsimp only at hn hlk hJ ⊢;refine av 7 ?_ ?_
 ·intro ai;refine aV 7 (.agg (lkC l)) ?_;refine cl call16 rfl (λW hS=>QC l W) ?_;refine av 3 ?_ ?_
  ·intro ax;refine B 12 ?_;exact zPi
  intro ax;refine aV 6 (ab l.by_) ?_;refine rq (.bool (decide (l.by_≠ -1))) (aN rfl rfl) zP ?_;refine av 2 ?_ ?_
  ·intro bY;refine B 1 ?_;have hv:np l=true:=by assumption
   have hb:¬l.by_= -1:=by assumption
   refine B 1 ?_;refine zHh ?_;refine cl call17 rfl (λW hS=>njo hZ s ho N W aT (hs.us (hS.same A1 hN zO uy)) l hlk) ?_;refine B 10 ?_;exact zPi
  intro bY;refine B 3 ?_;have hv:np l=true:=by assumption
  have hb:l.by_= -1:=Classical.byContradiction ew;rcases hp:iy Z s.lks l with _|p
  ·refine B 1 ?_;refine zHh ?_;refine call (v:=.tuple #[.agg (lkC vX),aO]) call18 rfl rfl rfl (λW hS=>by have h9:=nNg hZ s ho N W aT (hs.us (hS.same A1 hN zO uy)) l hb;rwa[hp]at h9) ?_;refine bD 4 ?_;intro b8 lI r4;refine B 31 ?_;exact zPi
  cases vw:eM Z s.pls l p with
  |false=>
   refine B 1 ?_;refine zHh ?_;refine zDf ?_;refine bD 4 ?_;intro b8 lI r4;refine aV 11 (.agg (lkC l)) ?_;refine bX (.agg (lkC p)) ?_;refine call (v:=.bool false) call19 rfl rfl rfl (λW hS=>zY2) ?_;refine B 17 ?_;exact zPi
  |true=>
   refine B 1 ?_;refine zHh ?_;refine zDf ?_;refine bD 4 ?_;intro b8 lI r4;refine aV 11 (.agg (lkC l)) ?_;refine bX (.agg (lkC p)) ?_;refine call (v:=.bool true) call19 rfl rfl rfl (λW hS=>zY2) ?_;refine aV 8 (.agg (lkC p)) ?_;refine Sk ?_;refine ag (p,n+1) ⟨by dsimp only;omega,ho.ko p (nOq hp),hJ.next aa hv hb hp vw⟩
 intro ai;refine B 11 ?_;exact zPi
theorem n2f(lk:Lk)(hlk:dm lk)(hg:Glb w):Calls prog 6 #[.agg (rdA s),.slice s.pa s.pls.length s.pc,.agg (lkC lk)] w (ar w (.bool (dH Z s 256 lk))):=by
 have gP:=hg.lt;refine eN func6 ntmps6 ?_;refine aU 2 ?_;intro b3 w3 bQ aZ J cP dt;refine yX ?_;intro b5 w5 gQ je pq fK gf;refine aV 5 (.agg (rdA s)) ?_;refine aV 1 (.agg (mU s)) ?_;refine aV 1 (.agg (lkC lk)) ?_;refine call (v:=.bool (dH Z s 256 lk)) call15 rfl rfl rfl (λW hS=>nrl hZ s ho N 256 (aC _) lk W hlk aT (hs.us hS.sm) (hg.old hS A2 zO trivial)) ?_;refine B 4 ?_;refine ao results6 rfl A2 ?_;rfl
end
def sY (c:Cm):Bool:=c.bxs.all (λx=>decide (x.w.body.length<=200))&&c.wes.all (λx=>decide (x.w.body.length<=200))&&decide (c.chs.length<=10)&&decide (c.path.length<=12)&&decide (c.bxs.length<=40)&&decide (c.wes.length<=10)
theorem n3i{α:Type}{f:α->Bool}{xs:List α}{j:Nat}{x:α}(h:(xs.take j).all f=true)(hx:xs[j]? =some x)(hf:f x=true):(xs.take (j+1)).all f=true:=by simp_all[nk]
theorem nOk{α:Type}{f:α->Bool}{xs:List α}{j:Nat}(h:(xs.take j).all f=true)(hj:¬j<xs.length):xs.all f=true:=by grind [List.take_of_length_le]
theorem nHl(l:List Ch)(a:Option Addr)(c:Nat)(w:World):Calls prog 70 #[.slice a l.length c] w (ar w (.bool (decide (l.length<=10)))):=by
 refine cH 14 func70 ntmps70 ?_;refine ao results70 rfl A0 ?_;exact vb (by rw[wW];simp;omega)
theorem MF(c:Cm)(N:Nat)(w:World)(hN:N<=w.heap.size)(hC:dc N w c)(kx:c.bxs.length<=9223372036854775807)(bw:c.wes.length<=9223372036854775807):Calls prog 31 #[.agg (cW c)] w (ar w (.bool (sY c))):=by
 refine eN func31 ntmps31 ?_;refine aU 2 ?_;intro b1 w1 aW bJ eO dC fg;refine B 10 ?_;refine CJ.lp (α:=Nat) [1] (λj=>[(3,ab (j:Int))]) (λj=>[]) (λj=>j<=c.bxs.length/\(c.bxs.take j).all (λx:Bx=>decide (x.w.body.length<=200))=true) (λj=>c.bxs.length-j) 0 ⟨cd _,rfl⟩ ?_;rintro j ⟨hj,J⟩;refine av 10 ?_ ?_
 ·intro ai;refine B 5 ?_;obtain⟨b0,o0,cs0,t0,dR,iq,mo,hcs,ay⟩:=hC.bxs.get aa;obtain⟨y,hy⟩:=ng c.bxs j aa;refine B 2 ?_;refine rq (.slice (some ⟨b0,o0,none⟩) c.bxs.length c.bc) (ad isAgg97 rfl A0 aW bJ trivial rfl) (congrArg (λq=>Value.slice q c.bxs.length c.bc) iq) ?_;refine B 4 ?_;refine rx (ad (v:=.slice y.w.ba y.w.body.length y.w.bc) isAgg50 rfl A1 hcs zL trivial (by have:=nu ay hy rfl 3 zF;simpa[xh]using this)) ?_;refine av 4 ?_ ?_
  ·intro ax;refine B 11 ?_;exact WM
  intro ax;refine B 8 ?_;refine ag (j+1) ⟨by omega,n3i J hy (decide_eq_true aa)⟩
 intro ai;refine B 7 ?_;have BS:=nOk J aa;refine B 5 ?_;refine CJ.lp (α:=Nat) [1] (λj=>[(4,ab (j:Int))]) (λj=>[]) (λj=>j<=c.wes.length/\(c.wes.take j).all (λx:We=>decide (x.w.body.length<=200))=true) (λj=>c.wes.length-j) 0 ⟨cd _,rfl⟩ ?_;rintro j ⟨hj,aD⟩;refine av 10 ?_ ?_
 ·intro bY;refine B 5 ?_;obtain⟨b0,o0,cs0,t0,dR,iq,mo,hcs,ay⟩:=hC.wes.get aa;obtain⟨y,hy⟩:=ng c.wes j aa;refine B 2 ?_;refine rq (.slice (some ⟨b0,o0,none⟩) c.wes.length c.wc) (ad isAgg98 rfl A0 aW bJ trivial rfl) (congrArg (λq=>Value.slice q c.wes.length c.wc) iq) ?_;refine B 4 ?_;refine rx (ad (v:=.slice y.w.ba y.w.body.length y.w.bc) isAgg50 rfl A1 hcs zL trivial (by have:=nu ay hy rfl 2 zF;simpa[xi]using this)) ?_;refine av 4 ?_ ?_
  ·intro ez;refine B 11 ?_;exact WM
  intro ez;refine B 8 ?_;refine ag (j+1) ⟨by omega,n3i aD hy (decide_eq_true aa)⟩
 intro bY;refine B 6 ?_;have haw:=nOk aD aa;refine B 3 ?_;refine cl call70 rfl (λW hS=>nHl c.chs c.ca c.cc W) ?_;refine B 1 ?_;refine nf (t:=40) rfl (λeB=>?_) (λeB=>?_)
 ·replace eB:=ya eB;refine B 6 ?_;refine nf (t:=46) rfl (λgq=>?_) (λgq=>?_)
  ·replace gq:=ya gq;refine B 6 ?_;refine nf (t:=52) rfl (λfw=>?_) (λfw=>?_)
   ·replace fw:=ya fw;refine B 9 ?_;exact WM
   replace fw:=ya fw;refine B 9 ?_;exact WM
  replace gq:=ya gq;refine B 15 ?_;exact WM
 replace eB:=ya eB;refine B 21 ?_;exact WM
def B5 (cs:List Cm):Bool:=decide (cs.length<=7)&&cs.all sY
structure HU (c:Cm):Prop where
 b:c.bxs.length<=9223372036854775807
 w:c.wes.length<=9223372036854775807
theorem MG(cs:List Cm)(J:∀c∈cs,HU c)(N:Nat)(la:Option Addr)(lc:Nat)(w:World)(hN:N<=w.heap.size)(aA:aj cW 73 N w la cs)(hC:∀c∈cs,dc N w c):Calls prog 14 #[.slice la cs.length lc] w (ar w (.bool (B5 cs))):=by
 refine eN func14 ntmps14 ?_;refine av 13 ?_ ?_
 ·intro ai;refine B 7 ?_;exact zlj
 intro ai;refine B 9 ?_;refine CJ.lp (α:=Nat) [0] (λj=>[(3,ab (j:Int))]) (λj=>[]) (λj=>j<=cs.length/\(cs.take j).all sY=true) (λj=>cs.length-j) 0 ⟨cd _,rfl⟩ ?_;rintro j ⟨hj,p8⟩;refine av 9 ?_ ?_
 ·intro ax;refine B 5 ?_;obtain⟨bl,ol,a6,tl,aR,rfl,kx,aD,aq⟩:=aA.get aa;obtain⟨c,hc⟩:=ng cs j aa;have hcm:=cF hc;refine aV 4 (.agg (cW c)) ?_;refine cl call31 rfl (λW hS=>MF c N W aT ((hC c hcm).us hS.sm) (J c hcm).b (J c hcm).w) ?_;refine av 3 ?_ ?_
  ·intro bY;refine B 11 ?_;exact zlj
  intro bY;refine B 8 ?_;refine ag (j+1) ⟨by omega,n3i p8 hc (by simpa using ‹_›)⟩
 intro ax;refine B 6 ?_;have cN:=nOk p8 aa;refine B 5 ?_;exact zlj
def y6 (s:Sc):Bool:=decide (s.fos.length<=4)&&B5 s.cs&&decide (s.lks.length<=6)&&decide (s.fas.length<=8)&&decide (s.pls.length<=10)
theorem n5p(s:Sc)(TJ:∀c∈s.cs,HU c)(N:Nat)(w:World)(hN:N<=w.heap.size)(hs:dZ N w s):Calls prog 5 #[.agg (rdA s),.slice s.pa s.pls.length s.pc] w (ar w (.bool (y6 s))):=by
 refine eN func5 ntmps5 ?_;refine aU 2 ?_;intro b2 w2 bV bj dz cL cR;refine aV 6 (.slice s.fa s.fos.length s.fc) ?_;refine B 3 ?_;refine nf (t:=9) rfl (λai=>?_) (λai=>?_)
 ·replace ai:=ya ai;refine aV 1 (.slice s.la s.cs.length s.lc) ?_;refine cl call14 rfl (λW hS=>MG s.cs TJ N s.la s.lc W aT (hs.cs.us hS.sm) (λc hc=>(hs.cm c hc).up (aC _) hS.sm)) ?_;refine B 2 ?_;refine nf (t:=14) rfl (λax=>?_) (λax=>?_)
  ·replace ax:=ya ax;refine B 1 ?_;refine zZg ?_;refine B 4 ?_;refine nf (t:=20) rfl (λbY=>?_) (λbY=>?_)
   ·replace bY:=ya bY;refine aV 1 (.slice s.xa s.fas.length s.xc) ?_;refine B 4 ?_;refine nf (t:=26) rfl (λJ=>?_) (λJ=>?_)
    ·replace J:=ya J;refine B 8 ?_;exact zEj
    replace J:=ya J;refine B 8 ?_;exact zEj
   replace bY:=ya bY;refine B 14 ?_;exact zEj
  replace ax:=ya ax;refine B 20 ?_;exact zEj
 replace ai:=ya ai;refine B 25 ?_;exact zEj
structure ChI (x:Ch):Prop where
 kind:ig x.kind
 dev:ig x.dev
 pub:ig x.pub
 ver:ig x.ver
 cut:ig x.cut
structure BxI (x:Bx):Prop where
 node:ig x.node
 level:ig x.level
 u:ig x.w.u
structure WeI (x:We):Prop where
 dev:ig x.dev
 u:ig x.w.u
structure MH (c:Cm):Prop where
 folder:ig c.folder
 epoch:ig c.epoch
 par:gY c.par
 author:ig c.author
 chs:∀x∈c.chs,ChI x
 path:∀x∈c.path,ig x
 bxs:∀x∈c.bxs,BxI x
 wes:∀x∈c.wes,WeI x
 conf:gY c.conf
 sr:ig c.sr
 ss:ig c.ss
 lim:HU c
theorem nIg(n:Nat)(hn:n<=100):∀ls:List (List V),(∀l∈ls,l.all vk=true/\l.length<=n/\V.fineL l)->V.fineL (ls.map V.list)/\V.depthL (ls.map V.list)<=1
 | [],_=>by simp[V.fineL,V.depthL]
 |l::ls,h=>by
  obtain⟨h1,h2⟩:=nIg n hn ls (λx hx=>h x (.tail _ hx));obtain⟨g1,g2,g3⟩:=h l A0;obtain⟨_,g4⟩:=nZf l g1 g3
  grind [V.fineL,V.fine,V.depthL,V.depth]
theorem HV:∀l:List Int,(∀x∈l,ig x)->V.fineL (l.map V.int)/\V.depthL (l.map V.int)=0
 | [],_=>by simp[V.fineL,V.depthL]
 |y::l,h=>by
  (induction l<;>simp_all[V.fineL,V.fine,V.depthL,V.depth,ig])
theorem n1g{l:List V}(h:V.fineL l)(hl:l.length<=1000000000)(hd:V.depthL l<=1000000000):V.fine (.list l):=by grind [V.fine]
theorem HW{c:Cm}(h:sY c=true):(∀x∈c.bxs,x.w.body.length<=200)/\(∀x∈c.wes,x.w.body.length<=200)/\c.chs.length<=10/\c.path.length<=12/\c.bxs.length<=40/\c.wes.length<=10:=by
 grind [sY]
theorem MJ{c:Cm}(h:MH c)(hf:sY c=true):ck c:=by
 obtain⟨f1,f2,f3,f4,f5,f6⟩:=HW hf;refine⟨⟨h.par,h.conf,f3,f4,f5,f6,f1,f2⟩,?_⟩;have a1:=nIg 100 zF (c.chs.map EP) (λl hl=>by
  obtain⟨x,hx,rfl⟩:=dO.1 hl;have g:=h.chs x hx;refine⟨by rfl,by simp[EP],?_⟩;exact⟨g.kind,g.dev,g.pub,g.ver,g.cut,trivial⟩)
 have a2:=HV c.path h.path;have a3:=nIg 100 zF (c.bxs.map p4) (λl hl=>by
  obtain⟨x,hx,rfl⟩:=dO.1 hl;have g:=h.bxs x hx;have g2:=f1 x hx;refine⟨by rfl,by simp[p4],?_⟩;simp only[p4,V.fineL,V.fine];exact⟨g.node,g.level,g.u,by rw[nGg];omega,trivial⟩)
 have a4:=nIg 100 zF (c.wes.map p5) (λl hl=>by
  obtain⟨x,hx,rfl⟩:=dO.1 hl;have g:=h.wes x hx;have g2:=f2 x hx;refine⟨by rfl,by simp[p5],?_⟩;simp only[p5,V.fineL,V.fine];exact⟨g.dev,g.u,by rw[nGg];omega,trivial⟩)
 refine⟨by exact h.folder,by exact h.epoch,by grind [V.fine,nGg,nM],by exact h.author,n1g a1.1 cM aa,n1g a2.1 cM aa,n1g a3.1 cM aa,n1g a4.1 cM aa,by grind [V.fine,nGg,nM],by exact h.sr,by exact h.ss,trivial⟩
structure B6 (s:Sc):Prop where
 cm:∀c∈s.cs,MH c
 lk:∀l∈s.lks,dm l
 fa:∀f∈s.fas,Mw f
theorem TN(h:y6 s=true):s.fos.length<=4/\s.cs.length<=7/\(∀c∈s.cs,sY c=true)/\s.lks.length<=6/\s.fas.length<=8/\s.pls.length<=10:=by
 grind [y6,B5]
theorem B6.ok(h:B6 s)(hf:y6 s=true):fq s:=by
 obtain⟨h1,h2,h3,h4,h5,h6⟩:=TN hf;exact⟨by omega,by omega,λc hc=>MJ (h.cm c hc) (h3 c hc),by omega,h.lk,by omega,h.fa,by omega⟩
section
variable (hZ:FxOk Z)(s:Sc)(hin:B6 s)(N:Nat)(w:World)(hN:N<=w.heap.size)(hs:dZ N w s)(lk:Lk)(hlk:dm lk)(hg:Glb w)
include hZ hin N w hN hs lk hlk hg
theorem nps(hf:y6 s=false):Calls prog 3 #[.agg (rdA s),.slice s.pa s.pls.length s.pc,.agg (lkC lk)] w (ar w (aK)):=by
 have gP:=hg.lt;refine eN func3 ntmps3 ?_;refine aU 2 ?_;intro b3 w3 bQ aZ J cP dt;refine yX ?_;intro b5 w5 gQ je pq fK gf;refine B 6 ?_;refine zoh ?_;refine B 1 ?_;refine call (v:=.bool false) call5 rfl rfl rfl (λW hS=>zY6) ?_;refine B 11 ?_;refine ao results3 rfl A2 ?_;rfl
theorem HX(hf:y6 s=true):Calls prog 3 #[.agg (rdA s),.slice s.pa s.pls.length s.pc,.agg (lkC lk)] w (ar w (aK)):=by
 have gP:=hg.lt;have ho:=hin.ok hf;have J:=ho.kl;refine eN func3 ntmps3 ?_;refine aU 2 ?_;intro b3 w3 bQ aZ dK cP dt;refine yX ?_;intro b5 w5 gQ je pq fK gf;refine B 6 ?_;refine zoh ?_;refine B 1 ?_;refine call (v:=.bool true) call5 rfl rfl rfl (λW hS=>zY6) ?_;refine B 13 ?_;refine CJ.lp (α:=Nat) [3,5] (λj=>[(1,.slice s.pa s.pls.length s.pc),(7,ab (j:Int))]) (λj=>[]) (λj=>j<=s.lks.length) (λj=>s.lks.length-j) 0 (cd _) ?_;rintro j hj;refine B 5 ?_;refine zZg ?_;refine av 4 ?_ ?_
 ·intro ai;refine B 5 ?_;obtain⟨bo,oo,cs0,to,dR,iq,dW,fY,ay⟩:=hs.lk.get aa;obtain⟨x,hx⟩:=ng s.lks j aa;refine eA 15 (pb:=by exact zU 3 (k:=by exact qv (RV.re (v':=.slice (some ⟨bo,oo,none⟩) s.lks.length s.kc) (ad isAgg27 rfl A1 bQ aZ trivial rfl) (mR)) (zU 3 (k:=by exact dh (X.cv call6 rfl (λW hS _=>n2f hZ s ho N W aT (hs.us hS.sm) x (hin.lk x (cF hx)) (hg.old hS A2 zO trivial))) (zU 3 (k:=by exact qv (RV.re (v':=.slice (some ⟨bo,oo,none⟩) s.lks.length s.kc) (ad isAgg27 rfl A1 bQ aZ trivial rfl) (mR)) zT)))))) (sp:=[some (.agg (rdA s)),_,_,_,_,_,some (.agg (lkC x)),some (.bool (dH Z s 256 x)),some (.agg (rdA s)),_,_,_,_,_,some (.agg (lkC x))]) (k:=?_);refine cl call7 rfl (λW hS=>nii hZ s ho N W aT (hs.us hS.sm) x (hin.lk x (cF hx))) (v:=.bool (dH Z s 256 x)) ?_;refine rq aO (oO underlying4 rfl rfl) (vb zP) ?_;refine B 11 ?_;exact AY
 intro ai;refine B 6 ?_;refine eA 7 (pb:=by exact zU 3 (k:=by exact dh (X.cv call6 rfl (λW hS _=>n2f hZ s ho N W aT (hs.us hS.sm) lk hlk (hg.old hS A2 zO trivial))) zT)) (sp:=[some (.agg (rdA s)),_,some (.agg (lkC lk)),some (.bool (dH Z s 256 lk)),some (.agg (rdA s)),_,some (.agg (lkC lk))]) (k:=?_);refine cl call7 rfl (λW hS=>nii hZ s ho N W aT (hs.us hS.sm) lk hlk) (v:=.bool (dH Z s 256 lk)) ?_;refine rq aK (yz underlying4 rfl rfl) (vb zP) ?_;refine B 4 ?_;refine ao results3 rfl A2 ?_;rfl
theorem law40_LinksAcceptedSpec:Calls prog 3 #[.agg (rdA s),.slice s.pa s.pls.length s.pc,.agg (lkC lk)] w (ar w (aK)):=by
 grind [nps,HX]
end
end Px
