/- Contracts of functions of the program. No conditions. -/
import Derived.Test.YtodpaegknpbomaaGreatDoorKc
import Derived.Test.YtodpaegknpbomaaGreatDoorProg
import Derived.LaidEql
import Derived.Stop.Asserts
import Derived.RowKitTokens
set_option linter.unusedSimpArgs false
set_option linter.unusedVariables false
set_option linter.unusedSectionVars false
set_option maxRecDepth 20000
set_option maxHeartbeats 8000000
namespace Px
open Go Go.RowKit Go.Proofs Go.Proofs.Tryz
def SY (bp:Nat) (p:Pl):aI:=λk=>k=bp\/(p.ns≠ []/\∃off,p.ta=some ⟨k,off,none⟩)\/(p.c.bxs≠ []/\∃off,p.c.ba=some ⟨k,off,none⟩)\/(p.c.path≠ []/\∃off,p.c.pa=some ⟨k,off,none⟩)\/(p.c.wes≠ []/\∃off,p.c.wa=some ⟨k,off,none⟩)
abbrev GU:List Dv->aI->World->Prop:=λl Z w=>l.length<=200/\∀d∈l,fM Z 0 w.heap.size w d
abbrev GV (K:Nat) (a:Ap):List Dv->aI->World->Prop:=λl Z w=>(l.map hJ=iL a/\l.length<=200)/\∀d∈l,fM Z K w.heap.size w d
theorem Mf{a:Ap}{b:Bx}(h:(cP a.2.2.1 b.node).isSome=true):CB a b=[([aO ((cP a.2.2.1 b.node).getD 0)],nj (dk a.2.2.2.last) b.level)]:=by grind [CB]
theorem SZ{a:Ap}{b:Bx}(h:(cP a.2.2.1 b.node).isSome=false):CB a b=[]:=by grind [CB,cP]
theorem n9n{a:Ap}{x:We}(h:(cP a.2.2.1 (pd x.dev)).isSome=true):GS a x=[([aO ((cP a.2.2.1 (pd x.dev)).getD 0)],aT (dk a.2.2.2.last))]:=by grind [GS]
theorem S0{a:Ap}{x:We}(h:(cP a.2.2.1 (pd x.dev)).isSome=false):GS a x=[]:=by grind [GS,cP,pd]
variable {Z:Fx} {g:Gp} {F:ad} {a:Int} {D0:List (List Se×Se)} {l:List Int} {pls:List Pl} {L0:List Se} {L:List World} {j lim t:Nat} {p:Pl} {r:Rw} {W w:World}
theorem Dx{α β:Type}{f:α->List β}{xs:List α}{x:α}(hx:xs[j]? =some x):(xs.take (j+1)).flatMap f=(xs.take j).flatMap f++f x:=by rw[np hx];simp
theorem nKk{a:Ap}{y:Int}(h:a.1.path[j]? =some y):mf a (j+1)=mf a j++GR a j y:=by conv=>lhs;unfold mf;rw[h]
def GW (d:Int):Int:=if dd d then 0 else 200
theorem n4g(d:Int)(w:World):Calls prog 37 #[ab d] w (aP w (.tuple #[ab (pd d),ab (GW d)])):=by
 by_cases h:dd d
 ·unfold pd GW;rw[if_pos h,if_pos h];exact naj d h w
 unfold pd GW;rw[if_neg h,if_neg h];exact nhl d h w
theorem fM.row{Z:aI}{K:Nat}{to:Se}{b cp:Nat}{xs:List Se}{sp:List Value}(hb:w.heap[b]? =some (bj er t xs sp))(hf:(Rw.row b cp sp).Fit 35 xs)(h0:xs≠ [])(hz:¬Z b)(hK:K<=b):fM Z K w.heap.size w ⟨xs,to,some ⟨b,0,none⟩,cp⟩:=by
 obtain⟨a9,c9,e9,h9⟩:=(Rw.row b cp sp).sl (enc:=er) (t:=t) (N:=w.heap.size) (w:=w) nz hf hb (aj _);simp only[Rw.val,Value.slice.injEq]at e9;rw[<-e9.1]at h9;exact⟨h0,h9,λq hq=>by cases hq;exact⟨hz,hK⟩⟩
theorem Mg(p:Pl)(b1 N:Nat)(W:World)(hN:N<=W.heap.size)(hb1:W.heap[b1]? =some (oC (kU p) 92))(L7:ai fV 2 N W p.ta p.ns)(hnn:p.ns.length<=90000)(yl:ai tN 4 N W p.c.ba p.c.bxs)(Dy:ai encI 1 N W p.c.pa p.c.path)(hwe:ai vj 3 N W p.c.wa p.c.wes)(qg:qe p.c):sC prog 166 [ptr b1 0] (λd:Dv=>[.agg (vG d)]) GU (GV W.heap.size (aV p)) (λ_=>False) (SY b1 p) W:=by
 intro l M I X0 hM hI hX hy h0;have mw:=(bA.1 hb1).1;have CC:∀(V:aI) (k:Nat),(∀k,V k->W.heap.size<=k)->SY b1 p k->k<W.heap.size->¬(M k\/V k):=λV k hV h hk hx=>hx.elim (λhx=>(hM _ hx).2.2 h) (λhx=>by have:=hV k hx;omega);have cK:¬(dD hM (λ_=>False) (hI [] _)).X b1:=CC (λ_=>False) b1 (λ_ h=>h.elim) (.inl rfl) mw;have jr:=qg.bxs;have apy:=qg.path;have apz:=qg.wes;refine nB (dD hM (λ_=>False) (hI [] _)) [] (vs:=[_,_]) func166 rfl ntmps166 rfl (Oi hM (hI [] _) h0 zJ (by simp[lO]) zJ) ?_;refine OI ?_;refine yW ?_;intro b2 dJ dH;refine B 6 ?_;refine JA ?_;refine bH 1 ?_;intro b3 eC ff;refine aE 14 (.slice p.c.ba p.c.bxs.length p.c.bc) ?_;refine B 5 ?_;refine CJ.resnap0 (L':=[W]) zJ (λw0 S1=>?_);have aka:=S1.lt (b2,_) A1;have akb:=S1.lt (b3,_) A0;dsimp only at aka akb;have hw0:=(S1.links W A0).size;refine CJ.loop (α:=(List Dv×aI)×World×Nat) (λp9=>[(1,ptr b1 0),(3,ptr b3 0),(4,.func (.func 167) #[] #[ptr b2 0]),(24,.slice p.c.ba p.c.bxs.length p.c.bc),(25,ab (p.c.bxs.length:Int)),(26,ab (p9.2.2:Int))]) (λp9=>[(b3,oC (dg p.x.g.last) 33),(b2,oC #[yv l] 145)]) (λp9=>[p9.2.1,W]) (λp9=>dD hM p9.1.2 (hI p9.1.1 p9.1.2)) (λp9=>p9.2.2<=p.c.bxs.length/\(∀k,p9.1.2 k->W.heap.size<=k)/\w0.heap.size<=p9.2.1.heap.size/\p9.1.1.map hJ=((aV p).1.bxs.take p9.2.2).flatMap (CB (aV p))/\p9.1.1.length<=p9.2.2/\∀d∈p9.1.1,fM (λk=>M k\/p9.1.2 k) w0.heap.size p9.2.1.heap.size p9.2.1 d) (λp9=>p.c.bxs.length-p9.2.2) (([],λ_=>False),w0,0) ⟨cY _,λ_ h=>h.elim,aj _,rfl,aj _,by simp⟩ zR rfl rfl zJ ?_
 rintro⟨⟨pre,V⟩,wk,j⟩ ⟨hj,hV,tJ,aW,gj,eK⟩;dsimp only at hj hV tJ aW gj eK ⊢;have cK:¬(dD hM V (hI pre V)).X b1:=CC V b1 hV (.inl rfl) mw;refine aG 6 ?_ ?_
 ·intro av;refine B 5 ?_;obtain⟨bo,oo,cs0,GX,fC,eZ,fE,bW,aS⟩:=yl.get aa;obtain⟨x,hx⟩:=ng p.c.bxs j aa;rw[eZ];have Bd:¬(dD hM V (hI pre V)).X bo:=CC V bo hV (.inr (.inr (.inl ⟨λh=>by rw[h]at hx;simp at hx,oo,eZ⟩))) aa;refine B 2 ?_;refine rq (.agg (tN x)) (dy isAgg110 sizeOf110 rfl A1 bW Bd z3 (dc aS hx rfl)) (va (dU aS hx rfl)) ?_;refine bH 1 ?_;intro b6 ky ri;refine aE 6 (.agg #[.slice p.ta p.ns.length p.tc]) ?_;refine aE 1 (ab x.node) ?_;refine call (v:=.tuple #[ab ((cP p.ns x.node).getD 0),.bool (cP p.ns x.node).isSome]) call36 rfl rfl rfl (λW9 hS=>nTb p.ns aa W9.heap.size p.ta p.tc W9 (aj _) (L7.toG hS A1 hN (λb off e=>by by_cases h0:p.ns=[];(exact .inl h0);exact .inr (λhb=>⟨CC V b hV (.inr (.inl ⟨h0,off,e⟩)) aa,z3⟩))) x.node) ?_;refine B 11 ?_;refine ni (t:=39) rfl (λaR=>?_) (λaR=>?_)
  ·replace aR:=ya aR;refine B 1 ?_;refine JA ?_;refine aE 1 (ab x.level) ?_;refine zre ?_;refine B 1 ?_;refine zxe ?_;refine S2 ?_;refine yV ?_;intro JB S3 aaL S4 apA apC apD;refine S5 (f:=167) (first:=[]) (cap:=[ptr b2 0]) (V:=V) (λV=>hI (pre++[(⟨[aO ((cP p.ns x.node).getD 0)],nj (dk p.x.g.last) x.level,some ⟨JB,0,none⟩,1⟩:Dv)]) V) hX rfl call167 rfl rfl rfl (λW9 cC=>?_) ?_ ?_
   ·refine WQ (λV=>hI (pre++[(⟨[aO ((cP p.ns x.node).getD 0)],nj (dk p.x.g.last) x.level,some ⟨JB,0,none⟩,1⟩:Dv)]) V) hX hV (⟨[aO ((cP p.ns x.node).getD 0)],nj (dk p.x.g.last) x.level,some ⟨JB,0,none⟩,1⟩:Dv) b2 W9 cC.alone (cC.own (b2,_) A2) (λh=>h.elim (λh=>by have:=(hM _ h).1;omega) (λh=>cC.apart (b2,_) A2 (.inr h))) (λW1 o9 hv1 qD=>hy pre (⟨[aO ((cP p.ns x.node).getD 0)],nj (dk p.x.g.last) x.level,some ⟨JB,0,none⟩,1⟩:Dv) V W1 ⟨by simp only[cO,dO,fO];omega,λd hd=>?_⟩ hv1 qD);rcases aY.1 hd with hd|hd
    ·exact zbg
    rw[gh.1 hd];exact fM.low (fM.up (fM.one aaL S4 (K:=w0.heap.size) aa) (eE (cC.links S3 A0).size o9.size) (λb off e_ jU cQ de=>(o9.block b (by have:=(cC.links S3 A0).size;omega) de).trans ((cC.links S3 A0).block b cQ (λhx=>hx.elim de (λhx=>by cases e_;first|(simp only[dx,ec,dL,ft,cd,dV,or_false]at hx;omega)|(simp at hx;omega)|(simp at hx))))) (λb _ _ h=>h)) (cY _)
   ·intro V2 tW dI;have lK:∀k,V2 k->W.heap.size<=k:=λk hk=>(dI W A2 k hk).elim (hV k) id;have mN:∀k,k<wk.heap.size->(M k\/V2 k)->(M k\/V k):=λk hk h=>(h.imp id λh=>(dI wk A1 k h).resolve_right aa);have GY:¬(M JB\/V2 JB):=λh=>S4 (h.imp id λh=>(dI S3 A0 _ h).resolve_right aa);refine B 12 ?_;refine PJ.resnap (L':=[wk,W]) (i:=0) rfl zC zJ (λW9 cC=>?_);have cF:∀d∈(pre++[(⟨[aO ((cP p.ns x.node).getD 0)],nj (dk p.x.g.last) x.level,some ⟨JB,0,none⟩,1⟩:Dv)]),fM (λk=>M k\/V2 k) w0.heap.size W9.heap.size W9 d:=by
     intro d hd;rcases aY.1 hd with hd|hd
     ·exact zdg
     rw[gh.1 hd];exact fM.up (fM.one aaL GY (K:=w0.heap.size) aa) (cC.links S3 A0).size (λb off e_ jU cQ de=>(cC.links S3 A0).block b cQ (λhx=>hx.elim de (λhx=>by cases e_;first|(simp only[dx,ec,dL,ft,cd,dV,or_false]at hx;omega)|(simp at hx;omega)|(simp at hx)))) (λb _ _ h=>h)
    refine ag ((pre++[(⟨[aO ((cP p.ns x.node).getD 0)],nj (dk p.x.g.last) x.level,some ⟨JB,0,none⟩,1⟩:Dv)],V2),W9,j+1) ⟨by dsimp only;omega,lK,eE tJ (cC.links wk A1).size,by dsimp only;rw[Dx (xs:=(aV p).1.bxs) hx,gL,aW,Mf cV];rfl,by dsimp only;simp only[cO,dO,fO];omega,cF⟩
   intro V2 tW dI;have lK:∀k,V2 k->W.heap.size<=k:=λk hk=>(dI W A2 k hk).elim (hV k) id;have mN:∀k,k<wk.heap.size->(M k\/V2 k)->(M k\/V k):=λk hk h=>(h.imp id λh=>(dI wk A1 k h).resolve_right aa);have GY:¬(M JB\/V2 JB):=λh=>S4 (h.imp id λh=>(dI S3 A0 _ h).resolve_right aa);refine B 11 ?_;exact zHg
  replace aR:=ya aR;refine B 21 ?_;refine qF ?_;refine ag ((pre,V),wk,j+1) ⟨by dsimp only;omega,hV,tJ,by dsimp only;rw[Dx (xs:=(aV p).1.bxs) hx,aW,SZ cV];exact(ee _).symm,by dsimp only;omega,eK⟩
 intro av;refine aE 10 (.slice p.c.pa p.c.path.length p.c.pc) ?_;refine B 5 ?_;have Pm:j=p.c.bxs.length:=by omega
 rw[Pm]at aW;refine CJ.loop (α:=(List Dv×aI)×World×Nat) (λp9=>[(1,ptr b1 0),(3,ptr b3 0),(4,.func (.func 167) #[] #[ptr b2 0]),(54,.slice p.c.pa p.c.path.length p.c.pc),(55,ab (p.c.path.length:Int)),(56,ab (p9.2.2:Int))]) (λp9=>[(b3,oC (dg p.x.g.last) 33),(b2,oC #[yv l] 145)]) (λp9=>[p9.2.1,W]) (λp9=>dD hM p9.1.2 (hI p9.1.1 p9.1.2)) (λp9=>p9.2.2<=p.c.path.length/\(∀k,p9.1.2 k->W.heap.size<=k)/\w0.heap.size<=p9.2.1.heap.size/\p9.1.1.map hJ=(aV p).1.bxs.flatMap (CB (aV p))++mf (aV p) p9.2.2/\p9.1.1.length<=p.c.bxs.length+2*p9.2.2/\∀d∈p9.1.1,fM (λk=>M k\/p9.1.2 k) w0.heap.size p9.2.1.heap.size p9.2.1 d) (λp9=>p.c.path.length-p9.2.2) ((pre,V),wk,0) ⟨cY _,hV,tJ,by dsimp only;rw[aW,show p.c.bxs.length=(aV p).1.bxs.length from rfl,uw];exact(ee _).symm,by dsimp only;omega,eK⟩ zR rfl rfl zJ ?_;rintro⟨⟨pre,V⟩,wk,j⟩ ⟨hj,hV,tJ,aW,gj,eK⟩;dsimp only at hj hV tJ aW gj eK ⊢;have cK:¬(dD hM V (hI pre V)).X b1:=CC V b1 hV (.inl rfl) mw;refine aG 6 ?_ ?_
 ·intro dm;refine B 5 ?_;obtain⟨bo,oo,cs0,GX,fC,eZ,fE,bW,aS⟩:=Dy.get aa;obtain⟨yy,Pn⟩:=ng p.c.path j aa;rw[eZ];have Bd:¬(dD hM V (hI pre V)).X bo:=CC V bo hV (.inr (.inr (.inr (.inl ⟨λh=>by rw[h]at Pn;simp at Pn,oo,eZ⟩)))) aa;refine B 3 ?_;refine rv rfl rfl rfl (ar (v:=ab yy) isAgg3 rfl A1 bW Bd z3 (by have:=nJ (enc:=encI) (n:=1) aS Pn rfl zA;simpa[encI]using this)) ?_;refine B 5 ?_;by_cases h9:j<9
  ·refine CJ.dj zO ?_;refine fS 0 7 6 [] (pb:=by exact zU 2 (k:=by exact aJ (nf call29 rfl rfl (λW hS _=>nMe _ W) (λ_=>rfl)) (zU 2 (k:=by exact aJ (nf call31 rfl rfl (λW hS _=>npd _ _ W) (λ_=>rfl)) zT)))) (sp:=[_,_,_,some (.agg (dg p.x.g.last)),_,_,_]) (h:=?_);intro _ _ hk;refine S2 ?_;intro sD yp GZ G0 S6 G3 ake;refine zE ?_;replace G0:=yb G0;simp only[bM,ne_eq]at S6;refine DJ.one (n:=7) rfl zO ?_;refine S5 (f:=167) (first:=[]) (cap:=[ptr b2 0]) (V:=V) (λV=>hI (pre++[(⟨[nj (dk p.x.g.last) (j:Int)],aO yy,some ⟨sD,0,none⟩,1⟩:Dv)]) V) hX rfl call167 rfl rfl rfl (λW9 cC=>?_) ?_ ?_
   ·exact zpi
   ·intro V2 tW dI;have lK:∀k,V2 k->W.heap.size<=k:=λk hk=>(dI W A2 k hk).elim (hV k) id;have mN:∀k,k<wk.heap.size->(M k\/V2 k)->(M k\/V k):=λk hk h=>(h.imp id λh=>(dI wk A1 k h).resolve_right aa);have pQ:¬(M sD\/V2 sD):=λh=>G3 (h.imp id λh=>(dI yp A0 _ h).resolve_right aa);refine zrf ?_;refine DJ.one (n:=10) rfl zO ?_;refine Be ?_;refine DJ.one (n:=11) rfl zO ?_;refine dp bZ ?_;refine B 1 ?_;refine PJ.dj ?_;refine DJ.one (n:=12) rfl zO ?_;refine Be ?_;refine fS 13 22 21 [] (pb:=by exact zU 3 (k:=by exact aJ (X.v (RV.re (v':=ab ((j+1:Nat):Int)) (jx rfl rfl aa aa) ((congrArg ab aa)))) (aJ (nf call31 rfl rfl (λW hS _=>npd _ _ W) (λ_=>rfl)) (zU 2 (k:=by exact aJ (nf call31 rfl rfl (λW hS _=>npd _ _ W) (λ_=>rfl)) zT))))) (sp:=[_,some (.agg (dg p.x.g.last)),_,_,_,some (.agg (dg p.x.g.last)),_,_,_]) (h:=?_);intro _ _ hk;refine S2 ?_;intro JC S7 aaM aaN akg S9 apE;refine zE ?_;replace aaN:=yb aaN;simp only[bM,ne_eq]at akg;refine DJ.one (n:=22) rfl zO ?_;refine S5 (f:=167) (first:=[]) (cap:=[ptr b2 0]) (V:=V2) (λV=>hI ((pre++[(⟨[nj (dk p.x.g.last) (j:Int)],aO yy,some ⟨sD,0,none⟩,1⟩:Dv)])++[(⟨[nj (dk p.x.g.last) (j:Int)],nj (dk p.x.g.last) ((j+1:Nat):Int),some ⟨JC,0,none⟩,1⟩:Dv)]) V) hX rfl call167 rfl rfl rfl (λW9 cC=>?_) ?_ ?_
    ·refine WQ (λV=>hI ((pre++[(⟨[nj (dk p.x.g.last) (j:Int)],aO yy,some ⟨sD,0,none⟩,1⟩:Dv)])++[(⟨[nj (dk p.x.g.last) (j:Int)],nj (dk p.x.g.last) ((j+1:Nat):Int),some ⟨JC,0,none⟩,1⟩:Dv)]) V) hX lK (⟨[nj (dk p.x.g.last) (j:Int)],nj (dk p.x.g.last) ((j+1:Nat):Int),some ⟨JC,0,none⟩,1⟩:Dv) b2 W9 cC.alone (cC.own (b2,_) A1) (λh=>h.elim (λh=>by have:=(hM _ h).1;omega) (λh=>cC.apart (b2,_) A1 (.inr h))) (λW1 o9 hv1 qD=>hy (pre++[(⟨[nj (dk p.x.g.last) (j:Int)],aO yy,some ⟨sD,0,none⟩,1⟩:Dv)]) (⟨[nj (dk p.x.g.last) (j:Int)],nj (dk p.x.g.last) ((j+1:Nat):Int),some ⟨JC,0,none⟩,1⟩:Dv) V2 W1 ⟨by simp only[cO,dO,fO];omega,λd hd=>?_⟩ hv1 qD);rcases aY.1 hd with hd|hd
     ·rcases aY.1 hd with hd|hd
      ·exact fM.low ((eK d hd).up (eE (cC.links wk A2).size o9.size) (λb off e_ jU cQ de=>(o9.block b (by have:=(cC.links wk A2).size;omega) (λh=>de (mN b cQ h))).trans ((cC.links wk A2).block b cQ (λhx=>hx.elim (λh=>de (mN b cQ h)) (λhx=>by first|(simp only[dx,ec,dL,ft,cd,dV,or_false]at hx;omega)|(simp at hx;omega)|(simp at hx))))) (λb _ cQ h=>mN b cQ h)) (cY _)
      rw[gh.1 hd];exact fM.low (fM.up (fM.one GZ pQ (K:=w0.heap.size) aa) (eE (cC.links yp A1).size o9.size) (λb off e_ jU cQ de=>(o9.block b (by have:=(cC.links yp A1).size;omega) de).trans ((cC.links yp A1).block b cQ (λhx=>hx.elim de (λhx=>by cases e_;first|(simp only[dx,ec,dL,ft,cd,dV,or_false]at hx;omega)|(simp at hx;omega)|(simp at hx))))) (λb _ _ h=>h)) (cY _)
     rw[gh.1 hd];exact fM.low (fM.up (fM.one aaM S9 (K:=w0.heap.size) aa) (eE (cC.links S7 A0).size o9.size) (λb off e_ jU cQ de=>(o9.block b (by have:=(cC.links S7 A0).size;omega) de).trans ((cC.links S7 A0).block b cQ (λhx=>hx.elim de (λhx=>by cases e_;first|(simp only[dx,ec,dL,ft,cd,dV,or_false]at hx;omega)|(simp at hx;omega)|(simp at hx))))) (λb _ _ h=>h)) (cY _)
    ·intro V3 akh vH;have wY:∀k,V3 k->W.heap.size<=k:=λk hk=>(vH W A3 k hk).elim (lK k) id;have hn3:∀k,k<wk.heap.size->(M k\/V3 k)->(M k\/V k):=λk hk h=>mN k hk (h.imp id λh=>(vH wk A2 k h).resolve_right aa);have G4:¬(M sD\/V3 sD):=λh=>pQ (h.imp id λh=>(vH yp A1 _ h).resolve_right aa);have G5:¬(M JC\/V3 JC):=λh=>S9 (h.imp id λh=>(vH S7 A0 _ h).resolve_right aa);refine B 1 ?_;refine zSf ?_;refine B 9 ?_;refine PJ.resnap0 (L':=[wk,W]) zJ (λW9 cC=>?_);have cF:∀d∈((pre++[(⟨[nj (dk p.x.g.last) (j:Int)],aO yy,some ⟨sD,0,none⟩,1⟩:Dv)])++[(⟨[nj (dk p.x.g.last) (j:Int)],nj (dk p.x.g.last) ((j+1:Nat):Int),some ⟨JC,0,none⟩,1⟩:Dv)]),fM (λk=>M k\/V3 k) w0.heap.size W9.heap.size W9 d:=by
      intro d hd;rcases aY.1 hd with hd|hd
      ·rcases aY.1 hd with hd|hd
       ·exact(eK d hd).up (cC.links wk A2).size (λb off e_ jU cQ de=>(cC.links wk A2).block b cQ (λhx=>hx.elim (λh=>de (hn3 b cQ h)) (λhx=>by first|(simp only[dx,ec,dL,ft,cd,dV,or_false]at hx;omega)|(simp at hx;omega)|(simp at hx)))) (λb _ cQ h=>hn3 b cQ h)
       rw[gh.1 hd];exact fM.up (fM.one GZ G4 (K:=w0.heap.size) aa) (cC.links yp A1).size (λb off e_ jU cQ de=>(cC.links yp A1).block b cQ (λhx=>hx.elim de (λhx=>by cases e_;first|(simp only[dx,ec,dL,ft,cd,dV,or_false]at hx;omega)|(simp at hx;omega)|(simp at hx)))) (λb _ _ h=>h)
      rw[gh.1 hd];exact fM.up (fM.one aaM G5 (K:=w0.heap.size) aa) (cC.links S7 A0).size (λb off e_ jU cQ de=>(cC.links S7 A0).block b cQ (λhx=>hx.elim de (λhx=>by cases e_;first|(simp only[dx,ec,dL,ft,cd,dV,or_false]at hx;omega)|(simp at hx;omega)|(simp at hx)))) (λb _ _ h=>h)
     refine ag ((((pre++[(⟨[nj (dk p.x.g.last) (j:Int)],aO yy,some ⟨sD,0,none⟩,1⟩:Dv)])++[(⟨[nj (dk p.x.g.last) (j:Int)],nj (dk p.x.g.last) ((j+1:Nat):Int),some ⟨JC,0,none⟩,1⟩:Dv)]),V3),W9,j+1) ⟨by dsimp only;omega,wY,eE tJ (cC.links wk A2).size,by dsimp only;rw[nKk (a:=aV p) Pn,gL,gL,aW];unfold GR;rw[if_pos h9];simp[hJ,aV],by dsimp only;simp only[cO,dO,fO];omega,cF⟩
    intro V3 akh vH;have wY:∀k,V3 k->W.heap.size<=k:=λk hk=>(vH W A3 k hk).elim (lK k) id;have hn3:∀k,k<wk.heap.size->(M k\/V3 k)->(M k\/V k):=λk hk h=>mN k hk (h.imp id λh=>(vH wk A2 k h).resolve_right aa);have G4:¬(M sD\/V3 sD):=λh=>pQ (h.imp id λh=>(vH yp A1 _ h).resolve_right aa);have G5:¬(M JC\/V3 JC):=λh=>S9 (h.imp id λh=>(vH S7 A0 _ h).resolve_right aa);refine B 1 ?_;refine zSf ?_;refine B 8 ?_;exact n5c (.inl rfl) results166 A3 wY zZ (λA hSA hA=>.inr hA)
   exact zyg
  refine CJ.dj zO ?_;refine fS 0 7 6 [] (pb:=by exact zU 2 (k:=by exact aJ (nf call29 rfl rfl (λW hS _=>nMe _ W) (λ_=>rfl)) (zU 2 (k:=by exact aJ (nf call31 rfl rfl (λW hS _=>npd _ _ W) (λ_=>rfl)) zT)))) (sp:=[_,_,_,some (.agg (dg p.x.g.last)),_,_,_]) (h:=?_);intro _ _ hk;refine S2 ?_;intro sD yp GZ G0 S6 G3 ake;refine zE ?_;replace G0:=yb G0;simp only[bM,ne_eq]at S6;refine DJ.one (n:=7) rfl zO ?_;refine S5 (f:=167) (first:=[]) (cap:=[ptr b2 0]) (V:=V) (λV=>hI (pre++[(⟨[nj (dk p.x.g.last) (j:Int)],aO yy,some ⟨sD,0,none⟩,1⟩:Dv)]) V) hX rfl call167 rfl rfl rfl (λW9 cC=>?_) ?_ ?_
  ·exact zpi
  ·intro V2 tW dI;have lK:∀k,V2 k->W.heap.size<=k:=λk hk=>(dI W A2 k hk).elim (hV k) id;have mN:∀k,k<wk.heap.size->(M k\/V2 k)->(M k\/V k):=λk hk h=>(h.imp id λh=>(dI wk A1 k h).resolve_right aa);have pQ:¬(M sD\/V2 sD):=λh=>G3 (h.imp id λh=>(dI yp A0 _ h).resolve_right aa);refine zrf ?_;refine DJ.one (n:=10) rfl zO ?_;refine Be ?_;refine DJ.one (n:=11) rfl zO ?_;refine dp bG ?_;refine B 1 ?_;refine PJ.dj ?_;refine DJ.one (n:=12) rfl zO ?_;refine Be ?_;refine fA 13 24 (k:=?_);refine DJ.one (n:=24) rfl zO ?_;refine Be ?_;refine zNf ?_;refine B 9 ?_;refine PJ.resnap0 (L':=[wk,W]) zJ (λW9 cC=>?_);have cF:∀d∈(pre++[(⟨[nj (dk p.x.g.last) (j:Int)],aO yy,some ⟨sD,0,none⟩,1⟩:Dv)]),fM (λk=>M k\/V2 k) w0.heap.size W9.heap.size W9 d:=by
    intro d hd;rcases aY.1 hd with hd|hd
    ·exact zdg
    rw[gh.1 hd];exact fM.up (fM.one GZ pQ (K:=w0.heap.size) aa) (cC.links yp A0).size (λb off e_ jU cQ de=>(cC.links yp A0).block b cQ (λhx=>hx.elim de (λhx=>by cases e_;first|(simp only[dx,ec,dL,ft,cd,dV,or_false]at hx;omega)|(simp at hx;omega)|(simp at hx)))) (λb _ _ h=>h)
   refine ag (((pre++[(⟨[nj (dk p.x.g.last) (j:Int)],aO yy,some ⟨sD,0,none⟩,1⟩:Dv)]),V2),W9,j+1) ⟨by dsimp only;omega,lK,eE tJ (cC.links wk A1).size,by dsimp only;rw[nKk (a:=aV p) Pn,gL,aW];unfold GR;rw[if_neg h9];simp[hJ,aV],by dsimp only;simp only[cO,dO,fO];omega,cF⟩
  exact zyg
 intro dm;refine B 6 ?_;have Vi:j=p.c.path.length:=by omega
 rw[Vi]at aW;by_cases qT:p.fst=true
 ·refine B 1 ?_;refine JA ?_;refine zre ?_;refine L5 ?_;refine yW ?_;intro vJ akl akm;refine B 5 ?_;refine zMe ?_;refine aE 2 (.bool p.fst) ?_;refine rq bG (kq rfl) (vb (by simp[qT])) ?_;refine B 7 ?_;refine CJ.resnap (L':=[wk,W]) (i:=0) rfl zC zJ (λxt G7=>?_);have pG:=G7.own (vJ,_) A0;have Ta:¬(M vJ\/V vJ):=λh=>h.elim (λh=>by have:=(hM _ h).1;omega) (λh=>G7.apart (vJ,_) A0 (.inr h));have hzq:vJ<xt.heap.size:=(bA.1 pG).1;refine B 2 ?_;refine z4f ?_;refine S5 (f:=167) (first:=[]) (cap:=[ptr b2 0]) (V:=V) (λV=>hI (pre++[(⟨[nj (dk p.x.g.last) 9],aT (dk p.x.g.last),some ⟨vJ,0,none⟩,1⟩:Dv)]) V) hX rfl call167 rfl rfl rfl (λW9 cC=>?_) ?_ ?_
  ·refine WQ (λV=>hI (pre++[(⟨[nj (dk p.x.g.last) 9],aT (dk p.x.g.last),some ⟨vJ,0,none⟩,1⟩:Dv)]) V) hX hV (⟨[nj (dk p.x.g.last) 9],aT (dk p.x.g.last),some ⟨vJ,0,none⟩,1⟩:Dv) b2 W9 cC.alone (cC.own (b2,_) A1) (λh=>h.elim (λh=>by have:=(hM _ h).1;omega) (λh=>cC.apart (b2,_) A1 (.inr h))) (λW1 o9 hv1 qD=>hy pre (⟨[nj (dk p.x.g.last) 9],aT (dk p.x.g.last),some ⟨vJ,0,none⟩,1⟩:Dv) V W1 ⟨by simp only[cO,dO,fO];omega,λd hd=>?_⟩ hv1 qD);rcases aY.1 hd with hd|hd
   ·exact zbg
   rw[gh.1 hd];exact fM.low (fM.up (fM.row (cp:=1) pG ⟨aj _,rfl⟩ zJ Ta (K:=w0.heap.size) aa) (eE (cC.links xt A0).size o9.size) (λb off e_ jU cQ de=>(o9.block b (by have:=(cC.links xt A0).size;omega) de).trans ((cC.links xt A0).block b cQ (λhx=>hx.elim de (λhx=>by cases e_;first|(simp only[dx,ec,dL,ft,cd,dV,or_false]at hx;omega)|(simp at hx;omega)|(simp at hx))))) (λb _ _ h=>h)) (cY _)
  ·intro V2 tW dI;have lK:∀k,V2 k->W.heap.size<=k:=λk hk=>(dI W A2 k hk).elim (hV k) id;have mN:∀k,k<wk.heap.size->(M k\/V2 k)->(M k\/V k):=λk hk h=>(h.imp id λh=>(dI wk A1 k h).resolve_right aa);have G8:¬(M vJ\/V2 vJ):=λh=>Ta (h.imp id λh=>(dI xt A0 _ h).resolve_right aa);refine B 7 ?_;have cK:¬(dD hM V2 (hI (pre++[(⟨[nj (dk p.x.g.last) 9],aT (dk p.x.g.last),some ⟨vJ,0,none⟩,1⟩:Dv)]) V2)).X b1:=CC V2 b1 lK (.inl rfl) mw;refine B 3 ?_;refine zKe ?_;refine B 5 ?_;refine CJ.resnap0 (L':=[wk,W]) zJ (λW9 cC=>?_);have cF:∀d∈(pre++[(⟨[nj (dk p.x.g.last) 9],aT (dk p.x.g.last),some ⟨vJ,0,none⟩,1⟩:Dv)]),fM (λk=>M k\/V2 k) w0.heap.size W9.heap.size W9 d:=by
    intro d hd;rcases aY.1 hd with hd|hd
    ·exact zdg
    rw[gh.1 hd];exact fM.up (fM.row (cp:=1) pG ⟨aj _,rfl⟩ zJ G8 (K:=w0.heap.size) aa) (cC.links xt A0).size (λb off e_ jU cQ de=>(cC.links xt A0).block b cQ (λhx=>hx.elim de (λhx=>by cases e_;first|(simp only[dx,ec,dL,ft,cd,dV,or_false]at hx;omega)|(simp at hx;omega)|(simp at hx)))) (λb _ _ h=>h)
   refine CJ.loop (α:=(List Dv×aI)×World×Nat) (λp9=>[(1,ptr b1 0),(3,ptr b3 0),(4,.func (.func 167) #[] #[ptr b2 0]),(109,.slice p.c.wa p.c.wes.length p.c.wc),(110,ab (p.c.wes.length:Int)),(111,ab (p9.2.2:Int))]) (λp9=>[(b3,oC (dg p.x.g.last) 33),(b2,oC #[yv l] 145)]) (λp9=>[p9.2.1,W]) (λp9=>dD hM p9.1.2 (hI p9.1.1 p9.1.2)) (λp9=>p9.2.2<=p.c.wes.length/\(∀k,p9.1.2 k->W.heap.size<=k)/\w0.heap.size<=p9.2.1.heap.size/\p9.1.1.map hJ=(aV p).1.bxs.flatMap (CB (aV p))++mf (aV p) (aV p).1.path.length++[(Md (aV p),aT (dk p.x.g.last))]++((aV p).1.wes.take p9.2.2).flatMap (GS (aV p))/\p9.1.1.length<=p.c.bxs.length+2*p.c.path.length+1+p9.2.2/\∀d∈p9.1.1,fM (λk=>M k\/p9.1.2 k) w0.heap.size p9.2.1.heap.size p9.2.1 d) (λp9=>p.c.wes.length-p9.2.2) ((pre++[(⟨[nj (dk p.x.g.last) 9],aT (dk p.x.g.last),some ⟨vJ,0,none⟩,1⟩:Dv)],V2),W9,0) ⟨cY _,lK,eE tJ (cC.links wk A1).size,by dsimp only;rw[gL,aW];simp[hJ,aV,Md,qT],by dsimp only;simp only[cO,dO,fO];omega,cF⟩ zR rfl rfl zJ ?_;rintro⟨⟨pre,V⟩,wk,j⟩ ⟨hj,hV,tJ,aW,gj,eK⟩;dsimp only at hj hV tJ aW gj eK ⊢;have cK:¬(dD hM V (hI pre V)).X b1:=CC V b1 hV (.inl rfl) mw;refine aG 6 ?_ ?_
   ·intro je;refine B 5 ?_;obtain⟨bo,oo,cs0,GX,fC,eZ,fE,bW,aS⟩:=hwe.get aa;obtain⟨x,hx⟩:=ng p.c.wes j aa;rw[eZ];have Bd:¬(dD hM V (hI pre V)).X bo:=CC V bo hV (.inr (.inr (.inr (.inr ⟨λh=>by rw[h]at hx;simp at hx,oo,eZ⟩)))) aa;refine B 2 ?_;refine zle ?_;refine bH 1 ?_;intro Vo yS BU;refine B 6 ?_;refine zad ?_;refine ni (t:=129) rfl (λib=>?_) (λib=>?_)
    ·replace ib:=ya ib;exact z8f
    replace ib:=ya ib;exact z2g
   intro je;exact zpg
  intro V2 tW dI;have lK:∀k,V2 k->W.heap.size<=k:=λk hk=>(dI W A2 k hk).elim (hV k) id;have mN:∀k,k<wk.heap.size->(M k\/V2 k)->(M k\/V k):=λk hk h=>(h.imp id λh=>(dI wk A1 k h).resolve_right aa);have G8:¬(M vJ\/V2 vJ):=λh=>Ta (h.imp id λh=>(dI xt A0 _ h).resolve_right aa);refine B 6 ?_;exact zHg
 refine B 1 ?_;refine JA ?_;refine zre ?_;refine L5 ?_;refine yW ?_;intro vJ akl akm;refine B 5 ?_;refine zMe ?_;refine aE 2 (.bool p.fst) ?_;refine rq bZ (kq rfl) (vb (by simp[qT])) ?_;refine aE 7 (.agg (dg p.c.par)) ?_;refine z8d ?_;refine L5 ?_;refine yW ?_;intro b99 apF apG;refine apR (b:=vJ) (cap:=1) (sp:=[]) (xs:=[nj (dk p.x.g.last) 9]) (zs:=[aT (dk p.c.par)]) (enc:=er) (m:=35) (H0:=[(b99,oC (seA (aT (dk p.c.par))) 35)]) (H1:=[(b3,oC (dg p.x.g.last) 33),(b2,oC #[yv l] 145)]) rfl WH nz rfl rfl rfl rfl (cD.one (z:=aT (dk p.c.par)) nz Pe underlying38 (bE.own (i:=0) rfl)) ⟨aj _,rfl⟩ (.inr zC) zJ ?_;intro kO oI aoM G9 Bf;replace G9:=yb G9;have aoN:wk.heap.size<=kO/\W.heap.size<=kO:=by rcases G9 with h|h;(subst h;omega);omega
 refine B 5 ?_;refine CJ.resnap (L':=[wk,W]) (i:=0) rfl zC zJ (λw16 apH=>?_);refine CJ.resnap (L':=[wk,W]) (i:=0) rfl zC zJ (λxt G7=>?_);have pG:=G7.own (kO,_) A0;have Ha:¬(M kO\/V kO):=λh=>h.elim (λh=>by have:=(hM _ h).1;omega) (λh=>G7.apart (kO,_) A0 (.inr h));have hzq:kO<xt.heap.size:=(bA.1 pG).1;refine B 2 ?_;refine z4f ?_;refine S5 (f:=167) (first:=[]) (cap:=[ptr b2 0]) (V:=V) (λV=>hI (pre++[(⟨[nj (dk p.x.g.last) 9,aT (dk p.c.par)],aT (dk p.x.g.last),some ⟨kO,0,none⟩,oI⟩:Dv)]) V) hX rfl call167 rfl rfl rfl (λW9 cC=>?_) ?_ ?_
 ·refine WQ (λV=>hI (pre++[(⟨[nj (dk p.x.g.last) 9,aT (dk p.c.par)],aT (dk p.x.g.last),some ⟨kO,0,none⟩,oI⟩:Dv)]) V) hX hV (⟨[nj (dk p.x.g.last) 9,aT (dk p.c.par)],aT (dk p.x.g.last),some ⟨kO,0,none⟩,oI⟩:Dv) b2 W9 cC.alone (cC.own (b2,_) A1) (λh=>h.elim (λh=>by have:=(hM _ h).1;omega) (λh=>cC.apart (b2,_) A1 (.inr h))) (λW1 o9 hv1 qD=>hy pre (⟨[nj (dk p.x.g.last) 9,aT (dk p.c.par)],aT (dk p.x.g.last),some ⟨kO,0,none⟩,oI⟩:Dv) V W1 ⟨by simp only[cO,dO,fO];omega,λd hd=>?_⟩ hv1 qD);rcases aY.1 hd with hd|hd
  ·exact zbg
  rw[gh.1 hd];exact fM.low (fM.up (fM.row (cp:=oI) pG Bf zJ Ha (K:=w0.heap.size) aa) (eE (cC.links xt A0).size o9.size) (λb off e_ jU cQ de=>(o9.block b (by have:=(cC.links xt A0).size;omega) de).trans ((cC.links xt A0).block b cQ (λhx=>hx.elim de (λhx=>by cases e_;first|(simp only[dx,ec,dL,ft,cd,dV,or_false]at hx;omega)|(simp at hx;omega)|(simp at hx))))) (λb _ _ h=>h)) (cY _)
 ·intro V2 tW dI;have lK:∀k,V2 k->W.heap.size<=k:=λk hk=>(dI W A2 k hk).elim (hV k) id;have mN:∀k,k<wk.heap.size->(M k\/V2 k)->(M k\/V k):=λk hk h=>(h.imp id λh=>(dI wk A1 k h).resolve_right aa);have Bg:¬(M kO\/V2 kO):=λh=>Ha (h.imp id λh=>(dI xt A0 _ h).resolve_right aa);refine B 7 ?_;have cK:¬(dD hM V2 (hI (pre++[(⟨[nj (dk p.x.g.last) 9,aT (dk p.c.par)],aT (dk p.x.g.last),some ⟨kO,0,none⟩,oI⟩:Dv)]) V2)).X b1:=CC V2 b1 lK (.inl rfl) mw;refine B 3 ?_;refine zKe ?_;refine B 5 ?_;refine CJ.resnap0 (L':=[wk,W]) zJ (λW9 cC=>?_);have cF:∀d∈(pre++[(⟨[nj (dk p.x.g.last) 9,aT (dk p.c.par)],aT (dk p.x.g.last),some ⟨kO,0,none⟩,oI⟩:Dv)]),fM (λk=>M k\/V2 k) w0.heap.size W9.heap.size W9 d:=by
   intro d hd;rcases aY.1 hd with hd|hd
   ·exact zdg
   rw[gh.1 hd];exact fM.up (fM.row (cp:=oI) pG Bf zJ Bg (K:=w0.heap.size) aa) (cC.links xt A0).size (λb off e_ jU cQ de=>(cC.links xt A0).block b cQ (λhx=>hx.elim de (λhx=>by cases e_;first|(simp only[dx,ec,dL,ft,cd,dV,or_false]at hx;omega)|(simp at hx;omega)|(simp at hx)))) (λb _ _ h=>h)
  refine CJ.loop (α:=(List Dv×aI)×World×Nat) (λp9=>[(1,ptr b1 0),(3,ptr b3 0),(4,.func (.func 167) #[] #[ptr b2 0]),(109,.slice p.c.wa p.c.wes.length p.c.wc),(110,ab (p.c.wes.length:Int)),(111,ab (p9.2.2:Int))]) (λp9=>[(b3,oC (dg p.x.g.last) 33),(b2,oC #[yv l] 145)]) (λp9=>[p9.2.1,W]) (λp9=>dD hM p9.1.2 (hI p9.1.1 p9.1.2)) (λp9=>p9.2.2<=p.c.wes.length/\(∀k,p9.1.2 k->W.heap.size<=k)/\w0.heap.size<=p9.2.1.heap.size/\p9.1.1.map hJ=(aV p).1.bxs.flatMap (CB (aV p))++mf (aV p) (aV p).1.path.length++[(Md (aV p),aT (dk p.x.g.last))]++((aV p).1.wes.take p9.2.2).flatMap (GS (aV p))/\p9.1.1.length<=p.c.bxs.length+2*p.c.path.length+1+p9.2.2/\∀d∈p9.1.1,fM (λk=>M k\/p9.1.2 k) w0.heap.size p9.2.1.heap.size p9.2.1 d) (λp9=>p.c.wes.length-p9.2.2) ((pre++[(⟨[nj (dk p.x.g.last) 9,aT (dk p.c.par)],aT (dk p.x.g.last),some ⟨kO,0,none⟩,oI⟩:Dv)],V2),W9,0) ⟨cY _,lK,eE tJ (cC.links wk A1).size,by dsimp only;rw[gL,aW];simp[hJ,aV,Md,qT],by dsimp only;simp only[cO,dO,fO];omega,cF⟩ zR rfl rfl zJ ?_;rintro⟨⟨pre,V⟩,wk,j⟩ ⟨hj,hV,tJ,aW,gj,eK⟩;dsimp only at hj hV tJ aW gj eK ⊢;have cK:¬(dD hM V (hI pre V)).X b1:=CC V b1 hV (.inl rfl) mw;refine aG 6 ?_ ?_
  ·intro kX;refine B 5 ?_;obtain⟨bo,oo,cs0,GX,fC,eZ,fE,bW,aS⟩:=hwe.get aa;obtain⟨x,hx⟩:=ng p.c.wes j aa;rw[eZ];have Bd:¬(dD hM V (hI pre V)).X bo:=CC V bo hV (.inr (.inr (.inr (.inr ⟨λh=>by rw[h]at hx;simp at hx,oo,eZ⟩)))) aa;refine B 2 ?_;refine zle ?_;refine bH 1 ?_;intro Vo yS BU;refine B 6 ?_;refine zad ?_;refine ni (t:=129) rfl (λjW=>?_) (λjW=>?_)
   ·replace jW:=ya jW;exact z8f
   replace jW:=ya jW;exact z2g
  intro kX;exact zpg
 intro V2 tW dI;have lK:∀k,V2 k->W.heap.size<=k:=λk hk=>(dI W A2 k hk).elim (hV k) id;have mN:∀k,k<wk.heap.size->(M k\/V2 k)->(M k\/V k):=λk hk h=>(h.imp id λh=>(dI wk A1 k h).resolve_right aa);have Bg:¬(M kO\/V2 kO):=λh=>Ha (h.imp id λh=>(dI xt A0 _ h).resolve_right aa);refine B 6 ?_;exact zHg
theorem sC.fin{P:Program}{f:Nat}{cap:List Value}{α:Type}{enc:α->List Value}{Pre Fin aaP:List α->aI->World->Prop}{MI RO:aI}(h:sC P f cap enc Pre Fin MI RO W)(hf:∀xs Z w,Fin xs Z w->aaP xs Z w):sC P f cap enc Pre aaP MI RO W:=
 λl M I X h1 h2 h3 h4 h5=>(h l M I X h1 h2 h3 h4 h5).mono λe w' ⟨a,b,V,c⟩=>⟨a,b,V,c.imp (λ⟨xs,p,q⟩=>⟨xs,hf _ _ _ p,q⟩) id⟩
section
variable {α:Type}{enc:α->List Value}
include α enc
theorem Hb{xs:List α}(h:r.At enc t xs w):St (Gh.lent (λk=>r.isAt k)) [w] (r.hp enc t xs) w:=by
 cases r with
 |nil=>exact⟨trivial,λ_ h=>h.elim,λ_ h=>h.elim,λw' hw=>by rw[gh.1 hw];exact aQ.refl _ _,λp hp=>by simp[Rw.hp]at hp,λi j p q hi=>by simp[Rw.hp]at hi,λp hp=>by simp[Rw.hp]at hp⟩
 |row b c sp=>
  refine⟨trivial,λ_ h=>h.elim,λk hk=>?_,λw' hw=>by rw[gh.1 hw];exact aQ.refl _ _,λp hp=>?_,?_,λp hp h=>h.elim⟩
  ·obtain rfl:b=k:=hk;exact(bA.1 (show w.heap[b]? =some _ from h)).1
  ·simp only[Rw.hp,gh]at hp;subst hp;exact h
  exact EE _
theorem Rw.isAt_lt{k:Nat}{xs:List α}(h:r.At enc t xs w)(hk:r.isAt k):k<w.heap.size:=by
 cases r with
 |nil=>exact hk.elim
 |row b c sp=>obtain rfl:b=k:=hk;exact(bA.1 (show w.heap[b]? =some _ from h)).1
theorem Rw.mem_is{k:Nat}{xs:List α}(h:k∈(r.hp enc t xs).map (·.1)):r.isAt k:=by
 cases r with
 |nil=>simp[Rw.hp]at h
 |row b c sp=>simp[Rw.hp]at h;exact h.symm
theorem St.belowR{b2:Nat}{o:Obj}{xs:List α}(fJ:r.At enc t xs w)(hS:St (Gh.lent (λk=>r.isAt k)) [w] ((b2,o)::r.hp enc t xs) W)(hb:w.heap.size<=b2):Below w.heap.size w W:=by
 have hk:=hS.links w A0;refine⟨hk.os,hk.tape,hk.output,hk.drawn,hk.size,λk JT=>?_⟩;by_cases h:r.isAt k
 ·cases r with
  |nil=>exact h.elim
  |row b c sp=>
   obtain rfl:b=k:=h;exact(hS.own (b,_) oV).trans (show w.heap[b]? =some _ from fJ).symm
 refine hk.block k JT λhx=>hx.elim h λhm=>?_;rcases cd.1 hm with h2|h2
 ·have h3:k=b2:=h2;omega
 exact h (Rw.mem_is h2)
end
structure yq (F:ad) (d:Dv):Prop where
 ne:d.fr≠ []
 sl:iK seA 35 F d.fa d.fr
theorem yq.mono{F':ad}{d:Dv}(h:yq F d)(hF:∀q∈F,q∈F'):yq F' d:=⟨h.ne,h.sl.mono hF⟩
theorem Hd{Z:aI}{K:Nat}{w:World}:∀(xs:List Dv),(∀d∈xs,fM Z K w.heap.size w d)->∃F:ad,(∀p∈F,K<=p.1/\w.heap[p.1]? =some p.2/\¬Z p.1)/\∀d∈xs,yq F d
 | [],_=>⟨[],by simp,by simp⟩
 |d::xs,h=>by
  obtain⟨F,h1,h2⟩:=Hd xs λx hx=>h x (.tail _ hx);have hd:=h d A0;rcases hd.sl with h3|⟨b,off,cs,t,fr,e1,e2,e3,e4⟩
  ·exact absurd h3 hd.ne
  have h5:=hd.out _ e1;refine⟨(b,.cells cs t fr)::F,λp hp=>?_,λx hx=>?_⟩
  ·rcases cd.1 hp with rfl|hp
   ·exact⟨h5.2,e3,h5.1⟩
   exact h1 p hp
  rcases cd.1 hx with rfl|hx
  ·exact⟨hd.ne,.inr ⟨b,off,cs,t,fr,e1,.head _,e4⟩⟩
  exact(h2 x hx).mono λq hq=>.tail _ hq
section
variable {C:Cx} {Q:bC} {E:Env} {D:List Deferred} {L:List World} {H H0 H1 F:ad} {ops:Array Oper} {l:List Oper}
variable {d ty f:Nat} {pos:String} {aC:Array Edge} {g:Option (Nat×Bool)} {x:Operand} {xo:List Operand} {vs first cap:List Value} {eJ:Array Nat}
theorem nIn{α γ:Type}{enc:α->List Value}{m:Nat}{xs:List α}{ys:γ->List α}{v:γ->Rw->Value}{Φ:ad->γ->Prop}(hH:H=H0++(r.hp enc t xs++H1))(jY:r.Fr (dF F) L)(hx:ev E x=some (.func (.func f) first.toArray cap.toArray))(aA:eU C.P f)(hw:nr ops E g=some true)(hN:Nat.blt d C.N=true)(ha:jy E xo=some vs)(hc:∀W,St (dF F) L H W->Calls C.P f (first++vs++cap).toArray W (λe w'=>∃z r' F',e= .returned (v z r')/\aQ (λk=>r.isAt k) W w'/\(∀k,r'.isAt k->r.isAt k\/W.heap.size<=k)/\r'.Fit m (ys z)/\r'.At enc t (ys z) w'/\(∀p∈F',W.heap.size<=p.1/\w'.heap[p.1]? =some p.2/\¬r'.isAt p.1)/\Φ F' z))(k:∀z r' F',Φ F' z->r'.Fit m (ys z)->r'.Fr (dF (F'++F)) L->(∀p∈F',ah L p.1)->OJ C ops Q l ((d,v z r')::E) D (dF (F'++F)) L (H0++(r'.hp enc t (ys z)++H1))):OJ C ops Q (⟨some d,.call ⟨.value x,xo.toArray,eJ⟩,ty,pos,aC,g⟩::l) E D (dF F) L H:=
 nK rfl hw hx ha zJ aA λa W jz hD hF hS=>(hc W hS).mono (by
  rintro ed W' ⟨z,r',F',rfl,hk,jI,bP,fJ,wD,hΦ⟩;have hP:=hS;rw[hH]at hP;have hP1:St (dF F) L (r.hp enc t xs++(H0++H1)) W:=hP.perm (List.perm_append_comm_assoc _ _ _);have hFA:qu (dF F) L (r.hp enc t xs):=by
   cases r with
   |nil=>trivial
   |row b c sp=>exact⟨jY,trivial⟩
  have hP2:St (dF F) L (r'.hp enc t (ys z)++(H0++H1)) W':=by
   refine hP1.swapZ (hk.mono λk _ h=>Rw.mem_at h) hFA (λp hp=>?_) ?_
   ·have h8:p.1∈(r'.hp enc t (ys z)).map (·.1):=bT.2 ⟨p,hp,rfl⟩;refine⟨?_,(jI _ (Rw.mem_is h8)).imp (λh=>Rw.mem_at h) id⟩;cases r' with
    |nil=>simp[Rw.hp]at hp
    |row b c sp=>simp only[Rw.hp,gh]at hp;subst hp;exact fJ
   cases r' with
   |nil=>exact λi j p q hi=>by simp[Rw.hp]at hi
   |row b c sp=>exact EE _
  have hP3:St (dF F) L (H0++(r'.hp enc t (ys z)++H1)) W':=hP2.perm (List.perm_append_comm_assoc _ _ _);have hP4:=hP3.fzB (F':=F') (λp hp=>⟨(wD p hp).2.1,λhm=>by
   rw[gL,gL]at hm;rcases aY.1 hm with hm|hm
   ·obtain⟨q,hq,e⟩:=bT.1 hm;have:=hP.lt q (aY.2 (.inl hq));have:=(wD p hp).1;omega
   rcases aY.1 hm with hm|hm
   ·exact(wD p hp).2.2 (Rw.mem_is hm)
   obtain⟨q,hq,e⟩:=bT.1 hm;have:=hP.lt q (aY.2 (.inr (aY.2 (.inr hq))));have:=(wD p hp).1;omega⟩)
  refine k z r' F' hΦ bP ?_ (λp hp=>CD hS (wD p hp).1) (a.put (some d) (v z r')) W' z8 z6 (hF.put _ z7) hP4;cases r' with
  |nil=>trivial
  |row b c sp=>
   rcases jI b rfl with h|h
   ·exact(Rw.Fr_at jY h).elim (λh=>h.elim) .inr
   exact .inr (CD hS h))
end
theorem nCm{f:Nat}{cap:List Value}{a:Ap}{RO:Nat->Prop}(aA:eU prog f)(r:Rw)(ds:List Dv)(w:World)(ako:r.Fit 36 ds)(uQ:ds.length<=30000)(fJ:r.At iD 142 ds w)(pB:∀k,RO k->k<w.heap.size/\¬r.isAt k)(qG:∀W2,Below w.heap.size w W2->sC prog f cap (λd:Dv=>[.agg (vG d)]) GU (GV w.heap.size a) (λ_=>False) RO W2):Calls prog 95 #[r.val ds.length,.func (.func f) #[] cap.toArray] w (λe w'=>∃(xs:List Dv) (r':Rw),e= .returned (r'.val (ds++xs).length)/\aQ (λk=>r.isAt k) w w'/\(∀k,r'.isAt k->r.isAt k\/w.heap.size<=k)/\r'.Fit 36 (ds++xs)/\r'.At iD 142 (ds++xs) w'/\(xs.map hJ=iL a/\xs.length<=200)/\∀d∈xs,fM (λk=>r'.isAt k) w.heap.size w'.heap.size w' d):=by
 refine Qk (Gh.lent (λk=>r.isAt k)) (r.hp iD 142 ds) (vs:=[_,_]) func95 rfl ntmps95 rfl (Hb fJ) ?_;refine OI ?_;refine yW ?_;intro b2 dJ dH;refine B 10 ?_;have akp:r.Fr (Gh.lent (λk=>r.isAt k)) [w]:=by
  cases r with
  |nil=>trivial
  |row b c sp=>exact .inl rfl
 refine nPp (f:=f) (cap:=cap) (α:=Dv) (enc:=(λd:Dv=>[.agg (vG d)])) (Pre:=GU) (Fin:=GV w.heap.size a) (RO:=RO) (MI:=λ_=>False) rfl aA (λW W2 hS hB=>qG W2 ((hS.belowR fJ aa).trans (hB.mono (hS.links w A0).size))) (λ_ _ _ hk=>hk.elim) (λW hS k hk=>by have h1:=pB k hk;have h2:=(hS.links w A0).size;exact⟨by omega,λhm=>by rcases cd.1 hm with h|h;(have h3:k=b2:=h;omega);exact h1.2 (Rw.mem_is h),h1.2⟩) (λ_=>rfl) (λpre G' Hc=>G'=(Gh.lent (λk=>r.isAt k))/\∃r1:Rw,r1.Fr (Gh.lent (λk=>r.isAt k)) [w]/\r1.Fit 36 (ds++pre)/\Hc=[(b2,oC #[r1.val (ds++pre).length] 138)]++(r1.hp iD 142 (ds++pre)++[])) (λ_ _ _=>False) ⟨rfl,r,akp,by rw[ee];exact ako,by simp[Rw.val_cells]⟩ zA ?_ ?_ ?_
 ·rintro pre x G' Hc l Dk rec W1 M V Wy p7 xN eK ⟨rfl,r1,aM,ae,rfl⟩ jf mm Qm yG dK DS;simp only[ah]at jf yG;have gj:=eK.1;simp only[cO,dO,fO]at gj;have EF:∀p∈r1.hp iD 142 (ds++pre),M p.1\/V p.1:=λp hp=>dK.loc.h p VC;refine bH 2 ?_;intro b5 rF rG;refine B 2 ?_;refine PJ.reH (H':=book ([(b5,oC (vG x) 142)]++([(b2,oC #[r1.val (ds++pre).length] 138)]++(r1.hp iD 142 (ds++pre)++[]))) l rec (ji Dk)) rfl ?_;refine Om p7 ?_;refine aE 3 (.agg (vG x)) ?_;refine zue ?_;refine yW ?_;intro gd lT pC;refine kz (r:=r1) (xs:=(ds++pre)) (zs:=[x]) (enc:=iD) (m:=36) (H0:=[(gd,oC (vG x) 142),(b5,oC (vG x) 142),(b2,oC #[r1.val (ds++pre).length] 138)]) (H1:=(l,.loop {rec with state:=.busy})::ji Dk) zX nEl GQ rfl rfl rfl rfl (cD.one (z:=x) GQ nxh underlying138 (bE.own (i:=0) rfl)) ae (Rw.Fr_ext EF) zJ BV ?_;intro gB pD pE jL lk;replace jL:=yb jL;refine B 3 ?_;refine vC ?_;refine JW (G2:=(Gh.lent (λk=>r.isAt k))) (Hc2:=[(b2,oC #[(Rw.row gB pD pE).val (ds++pre++[x]).length] 138)]++((Rw.row gB pD pE).hp iD 142 (ds++pre++[x])++[])) dK mm ⟨λ_ h=>h,λ_ h=>.inl h,λ_ h=>.inl h,(VD rfl (jL.imp id (λh=>h.1))),(by intro p hp;rcases cd.1 hp with h|hp;(subst h;exact .inl zJ);exact .inr (.inl (Rw.mem_is (bT.2 ⟨p,hp,rfl⟩))))⟩ (JX p7 xN) ?_
  exact⟨rfl,.row gB pD pE,jL.elim (λh=>Rw.Fr_at aM h) (λh=>.inr h.2),by rw[<-jh];exact lk,by rw[<-jh ds pre [x]]⟩
 ·rintro qB l Dk rec G' Hc Zf Wd dW hZf jf mm ⟨rfl,r1,aM,ae,rfl⟩;replace jf:=yb jf;refine QZ λWd2 yF=>?_;have mX:=VE yF;refine B 9 ?_;refine PJ.reH (H':=(b2,oC #[r1.val (ds++qB).length] 138)::(r1.hp iD 142 (ds++qB)++(l,.loop rec)::ji Dk)) VF ?_;refine B3 (.inl rfl) zJ λa W H' hF hS eV aW=>?_;have Da:∀k,k∈H'.map (·.1)->k=b2\/r1.isAt k\/k=l\/k=Dk:=by
   intro k hk;rw[aW]at hk;simp only[gL,dL,ft,aY,cd,dV,or_false]at hk;rcases hk with hk|hk|hk|hk
   ·exact .inl hk
   ·exact .inr (.inl (Rw.mem_is hk))
   ·exact .inr (.inr (.inl hk))
   exact .inr (.inr (.inr hk))
  have hZb:∀k,k∈H'.map (·.1)->Zf k:=by
   intro k hk;have h8:k∈(book ([(b2,oC #[r1.val (ds++qB).length] 138)]++(r1.hp iD 142 (ds++qB)++[])) l rec (ji Dk)).map (·.1):=by
    rw[aW]at hk;simpa[book,Rw.val_cells]using hk
   obtain⟨p,hp,rfl⟩:=bT.1 h8;exact hZf p hp
  have aaQ:∀k,r1.isAt k->r.isAt k\/w.heap.size<=k:=λk hk=>(Rw.Fr_at aM hk).imp id (λh=>h.1);refine⟨_,by rw[results_tmp results95];exact congrArg (λu=>Result.ok u W) (hF 4 _ rfl),qB,r1,rfl,?_,aaQ,ae,?_,dW.1,λd hd=>?_⟩
  ·refine(hS.links w A1).mono λk hk hx=>hx.elim id λhx=>?_;rcases Da k hx with h|h|h|h
   ·omega
   ·exact(aaQ k h).resolve_right aa
   ·omega
   omega
  ·cases r1 with
   |nil=>trivial
   |row b cap sp=>exact hS.own _ (eV (b,bj iD 142 (ds++qB) sp) oV (mX _ oV).1)
  refine(dW.2 d hd).up (hS.links Wd A0).size (λb off _ hb1 dw dA=>(hS.links Wd A0).block b dw (λhx=>hx.elim (λh=>?_) (λh=>dA (hZb b h)))) (λb _ _ h=>?_)
  ·have:=Rw.isAt_lt fJ h;omega
  have h8:b∈(book ([(b2,oC #[r1.val (ds++qB).length] 138)]++(r1.hp iD 142 (ds++qB)++[])) l rec (ji Dk)).map (·.1):=by
   simp only[book,gL,aY];exact .inl (.inr (.inl (Rw.mem_at h)))
  obtain⟨p,hp,rfl⟩:=bT.1 h8;exact hZf p hp
 exact Qo
theorem nDj(p:Pl)(w:World):Calls prog 96 #[.agg (kU p)] w (cZ w (λb:Nat=>.func (.func 166) #[] #[ptr b 0]) (λb w1=>w.heap.size<=b/\w1.heap[b]? =some (oC (kU p) 92))):=by
 refine eN func96 ntmps96 ?_;refine cH 2 ?_;intro b1 w1 hb1 cK gS fX jK;refine B 10 ?_;refine sQ b1 results96 rfl A1 rfl ?_;exact zLh
theorem Tb(p:Pl)(f:Nat->Int)(b:Nat)(w:World)(hb1:w.heap[b]? =some (oC (dg f) 33)):Calls prog 94 #[.agg (kU p),ptr b 0] w (aP w (.bool (iA p.x.g.last f))):=by
 have cK:¬Gh.no.X b:=λh=>h;have mw:=(bA.1 hb1).1;refine eN func94 ntmps94 ?_;refine cH 2 ?_;intro b2 w2 dw bX fB dJ dH;refine B 7 ?_;refine JA ?_;refine dp (.agg (dg f)) ?_;refine rv rfl rfl rfl (gG nO zA nF rfl rfl rfl) ?_;refine B 4 ?_;refine aK results94 rfl A1 ?_;rfl
theorem nnm(p:Pl->Bool)(f:Nat)(cap:List Value)(aA:eU prog f)(xs:List Pl)(hxl:xs.length<=1000000)(N:Nat)(a:Option Addr)(cp:Nat)(w:World)(hN:N<=w.heap.size)(aH:ai kU 111 N w a xs)(hp:∀(j:Nat) (x:Pl),xs[j]? =some x->∀W,Below w.heap.size w W->Calls prog f (.agg (kU x)::cap).toArray W (aP W (.bool (p x)))):Calls prog 93 #[.slice a xs.length cp,.func (.func f) #[] cap.toArray] w (cZ w (λi:Int=>ab i) (λi _=>fF p xs i)):=by
 refine eN func93 ntmps93 ?_;refine VO ?_;rintro j ⟨hj,dP⟩;refine aG 6 ?_ ?_
 ·intro av;refine B 11 ?_;obtain⟨bo,oo,cs0,to,fC,rfl,fE,bW,aS⟩:=aH.get aa;obtain⟨x,hx⟩:=ng xs j aa;refine aE 5 (.agg (kU x)) ?_;refine VP ?_;refine uh ?_ ?_
  ·intro aR;refine B 12 ?_;refine sQ (j:Int) results93 rfl A0 rfl ?_;exact VQ
  exact VR
 intro av;refine B 11 ?_;refine sQ (-1:Int) results93 rfl A0 rfl ?_;exact VS
def zCm:Cm:=⟨0,0,λ_=>0,0,[],none,0,[],none,0,[],none,0,[],none,0,λ_=>0,0,0⟩
def Bh:Pl:=⟨zCm,false,[],none,0,gf⟩
def gJ (pls:List Pl) (f:Nat->Int):Option Pl:=pls.find? λp=>iA p.x.g.last f
def fnV (o:Option Pl):Value:=.tuple #[.agg (kU (o.getD Bh)),.bool o.isSome]
theorem nSj(pls:List Pl)(gj:pls.length<=1000)(f:Nat->Int)(N:Nat)(a:Option Addr)(c b:Nat)(w:World)(hN:N<=w.heap.size)(hb1:w.heap[b]? =some (oC #[.slice a pls.length c] 89))(aH:ai kU 111 N w a pls):Calls prog 92 #[.agg (dg f),ptr b 0] w (aP w (fnV (gJ pls f))):=by
 have cK:¬Gh.no.X b:=λh=>h;have mw:=(bA.1 hb1).1;refine eN func92 ntmps92 ?_;refine cH 2 ?_;intro b2 w2 dw bX fB dJ dH;refine bH 1 ?_;intro b3 eC ff;refine B 7 ?_;refine nv (α:=Int) (v:=λi:Int=>ab i) (Φ:=λ_ i _=>fF (λy:Pl=>iA y.x.g.last f) pls i) call93 rfl rfl rfl (λW hS=>nnm (λy=>iA y.x.g.last f) 94 [ptr b2 0] call94 pls aa N a c W cJ (aH.up (aj _) (hS.same A1 hN zH C2)) (λj x hx W2 hB=>Tb x f b2 W2 (by have h9:=hS.old A0 dw bX zz;rw[hB.block b2 (bA.1 h9).1];exact h9))) ?_;intro Wi ix wi Fa Fb Dw;refine aG 10 ?_ ?_
 ·intro av;refine B 9 ?_;refine cu (.inl rfl) results92 bB A2 z0b ?_;rw[show gJ pls f=none from((WM Dw).resolve_right (λ⟨j,x,h,_⟩=>by omega)).2];rfl
 intro av;refine B 3 ?_;obtain⟨n,x,rfl,hx,hfx⟩:=(WM Dw).resolve_left (λh=>by have:=h.1;omega);obtain⟨bp,op,cs0,tp,fC,rfl,BL,bW,aS⟩:=aH.get VJ;have hnx:=nq hx;refine aE 4 (.agg (kU x)) ?_;refine B 5 ?_;refine cu (.inl rfl) results92 bB A2 z0b ?_;rw[show gJ pls f=(some x)from hfx];rfl
section
open Go.Extern.Stop Go.Stop Go.Extern
def Tc:Array Value->Sem Value:=Extern.ReflectliteType.method λt=>do Rtype.noPackHeld "Comparable" t;pure (.bool (<-typeInfo t).comparable)
theorem nbm(v:Value)(w:World):(Extern.ReflectliteType.typeOf #[.iface 472 v]).run prog w= .ok (.iface 318 (.agg #[.pointer (some ⟨10,472,none⟩)])) w:=by kernel_rfl
theorem n5g(w:World):(Tc #[.agg #[.pointer (some ⟨10,472,none⟩)]]).run prog w= .ok (bZ) w:=by kernel_rfl
theorem nce(v:Value)(w:World):(Go.method 244 318 v "Comparable").run prog w= .ok (360,v) w:=by kernel_rfl
theorem He:(prog.info? 472).map (·.comparable)=some true:=by kernel_rfl
theorem Hf:(prog.info? 505).map (·.size)=some 1:=by kernel_rfl
theorem aaS(v:Value)(xT:TypeId)(w:World):(Instr.typeAssert (.iface 472 v) xT 320 true).run prog w= .ok (.tuple #[.nilIface,bG]) w:=run_typeAssert_lacksB underlying320 zO zO v xT w
theorem nBp(v:Value)(xT:TypeId)(w:World):(Instr.typeAssert (.iface 472 v) xT 323 true).run prog w= .ok (.tuple #[.nilIface,bG]) w:=run_typeAssert_lacksB underlying323 zO zO v xT w
theorem nNo(v:Value)(xT:TypeId)(w:World):(Instr.typeAssert (.iface 472 v) xT 325 true).run prog w= .ok (.tuple #[.nilIface,bG]) w:=run_typeAssert_lacksB underlying325 zO zO v xT w
theorem nPn(a:Addr)(w:World):Calls prog 69 #[.iface 472 (.pointer (some a)),.iface 472 (.pointer (some a))] w λe w'=>e= .returned (bZ)/\w'=w:=by
 obtain⟨i,hi,Td⟩:=wv.1 He;obtain⟨j,hj,qd⟩:=wv.1 Hf;have h8:=@run_callFunc_extern prog 120 _ Extern.ReflectliteType.typeOf func120 zO zO zO zO;have h32:=@run_callFunc_extern prog 360 _ Tc func360 zO zO zO zO;have tT:=nbm;have cT:=n5g;have mR:=nce;have heq:=run_eql_iface_ptr_same (P:=prog) w a underlying173 underlying472 hi Td hj
 go_enter func69,ntmps69
 go_wp2
 refine wp_loop_rounds 1 ?_;rw[rounds_succ]
 go_wp2
 go_ret
 exact⟨rfl,rfl⟩
theorem Te(b:Addr)(w:World):Calls prog 69 #[.nilIface,.iface 472 (.pointer (some b))] w λe w'=>e= .returned (bG)/\w'=w:=by
 have hn:=run_eql_iface_nil_left (P:=prog) w 472 (.pointer (some b)) underlying173
 go_enter func69,ntmps69
 go_wp2
 go_ret
 exact⟨rfl,rfl⟩
theorem nhm(a b:Addr)(ca cb:Array Value)(ta tb:TypeId)(w:World)(hne:a≠b)(ha:w.heap[a.block]? =some (oC ca ta))(hb:w.heap[b.block]? =some (oC cb tb)):Calls prog 69 #[.iface 472 (.pointer (some a)),.iface 472 (.pointer (some b))] w λe w'=>e= .returned (bG)/\w'=w:=by
 obtain⟨i,hi,Td⟩:=wv.1 He;obtain⟨j,hj,qd⟩:=wv.1 Hf;have h8:=@run_callFunc_extern prog 120 _ Extern.ReflectliteType.typeOf func120 zO zO zO zO;have h32:=@run_callFunc_extern prog 360 _ Tc func360 zO zO zO zO;have tT:=nbm;have cT:=n5g;have mR:=nce;have nE:=aaS;have uE:=nBp;have vE:=nNo;have heq:=run_eql_iface_ptr_other (P:=prog) w underlying173 underlying472 hi Td hj (by rw[qd];decide) hne ha hb
 go_enter func69,ntmps69
 go_wp2
 refine wp_loop_rounds 1 ?_;rw[rounds_succ]
 go_wp2
 go_ret
 exact⟨rfl,rfl⟩
end
section
variable {C:Cx} {Q:bC} {E:Env} {D:List Deferred} {G:Gh} {L:List World} {H:ad} {ops:Array Oper} {l:List Oper}
theorem Tf{d ty f:Nat}{pos:String}{aC:Array Edge}{g:Option (Nat×Bool)}{xs:List Operand}{vs:List Value}{eJ:Array Nat}{α:Type}{v:α->Value}{Φ:α->Prop}(aA:eU C.P f)(hw:nr ops E g=some true)(hN:Nat.blt d C.N=true)(ha:jy E xs=some vs)(hc:∀W,St G L H W->Calls C.P f vs.toArray W (cZ W v (λx _=>Φ x)))(k:∀x,Φ x->OJ C ops Q l ((d,v x)::E) D G L H):OJ C ops Q (⟨some d,.call ⟨.value (.func f),xs.toArray,eJ⟩,ty,pos,aC,g⟩::l) E D G L H:=
 nK rfl hw rfl ha zJ aA λa W jz hD hF hS=>(hc W hS).mono (by
  rintro e W' ⟨x,rfl,hb,hx⟩;exact k x hx (a.put (some d) (v x)) W' z8 z6 (hF.put _ z7) (hS.step hb))
end
structure Ol where
 f:Nat->Int
 w:Dh
def vK (x:Ol):Array Value:=(lJ x.f [ab x.w.u,.slice x.w.ba x.w.body.length x.w.bc]).toArray
structure Gr where
 folder:Int
 by_:Int
 device:Int
 pub:Int
 f:Nat->Int
 oa:Option Addr
 olds:List Ol
 oc:Nat
 sr:Int
 ss:Int
def tX (x:Gr):Array Value:=(ab x.folder::ab x.by_::ab x.device::ab x.pub::lJ x.f [.slice x.oa x.olds.length x.oc,ab x.sr,ab x.ss]).toArray
structure Ir where
 f:Nat->Int
 g:Nat->Int
 by_:Int
 ba:Option Addr
 body:List UInt8
 bc:Nat
 sr:Int
 ss:Int
def Bi (x:Ir):Array Value:=(lJ x.f (lJ x.g [ab x.by_,.slice x.ba x.body.length x.bc,ab x.sr,ab x.ss])).toArray
structure sE (N:Nat) (w:World) (x:Gr):Prop where
 ol:ai vK 34 N w x.oa x.olds
 bb:∀o∈x.olds,gF N w o.w.ba o.w.body
theorem sE.up{N N':Nat}{w':World}{x:Gr}(h:sE N w x)(hN:N<=N')(hw:∀k,k<N->w'.heap[k]? =w.heap[k]?):sE N' w' x:=⟨h.ol.up hN hw,λo ho=>(h.bb o ho).up hN hw⟩
structure pR (x:Gr):Prop where
 few:x.olds.length<=6
 bf:eu x.f
 bo:∀o∈x.olds,eu o.f
 i:kK x.folder/\kK x.by_/\kK x.device/\kK x.pub
 io:∀o∈x.olds,kK o.w.u
structure ku (x:Ir):Prop where
 bf:eu x.f
 bg:eu x.g
 i:kK x.by_
theorem n6j:jP []=true:=OS.2 ⟨λi x _ h=>by simp at h,by simp⟩
theorem nqm(hv:dX g=true):lU g (-1) []=false:=by
 have h:=zk.1 hv;have hm:gD g.ms (-1)=false:=by
  unfold gD;rw[decide_eq_false_iff_not];intro he;cases hx:g.ms[pH g.ms (-1)]? with
  |none=>rw[hx]at he;cases he
  |some x=>
   rw[hx]at he;have e1:x.dev= -1:=by simpa using he
   have h2:x.dev∈ei g.ns:=by rw[<-h.2.2.1];exact bT.2 ⟨x,cA hx,rfl⟩
   have:=(nLj h2).1;omega
 have he:0<=g.epoch:=h.1.2.1;all_goals grind [lU]
theorem Hg(G:Gv)(N:Nat)(w:World)(hN:N<=w.heap.size)(hG:cj N w G):Calls prog 117 #[.agg (bF G)] w (aP w (.bool (dX G.g))):=by
 refine eN func117 ntmps117 ?_;refine cH 2 ?_;intro b1 w1 hb1 cK gS fX jK;refine Y7 ?_;obtain⟨e,he⟩:∃e,fk G.g (-1) []=e:=⟨_,rfl⟩;refine nH (enc:=tK) (m:=4) (t:=110) (xs:=[]) (v:=λs=>.tuple #[s,ab e]) (first:=[]) (cap:=[]) rfl call134 rfl rfl rfl VY (λW hS=>?_) ?_
 ·have hG2:=hG.up (aj _) hS.sm;have hN2:=eE hN (hS.links w A1).size;cases hv:dX G.g with
  |false=>rw[<-he,show fk G.g (-1) []=1 by simp[fk,hv]];exact nkj G N W hN2 hG2 [] zJ none 0 (.inl rfl) (-1) hv
  |true=>rw[<-he,show fk G.g (-1) []=221 by simp[fk,xZ,hv,nqm hv,n6j]];exact nai G N W hN2 hG2 [] zJ none 0 (.inl rfl) (-1) hv n6j (nqm hv)
 intro W9 a9 Fg Jo cC xY jQ kC;refine aE 1 (.slice a9 0 Fg) ?_;refine B 13 ?_;refine aK results117 rfl A2 ?_;subst he;cases hv:dX G.g with
 |false=>exact vb (by simp[fk,hv])
 |true=>exact vb (by simp[fk,xZ,hv,nqm hv,n6j])
theorem Hh(x:Mb)(d:Int)(b:Nat)(w:World)(hb1:w.heap[b]? =some (oC #[ab d] 3)):Calls prog 119 #[.agg (qJ x),ptr b 0] w (aP w (.bool (decide (x.dev=d)))):=by
 have cK:¬Gh.no.X b:=λh=>h;have mw:=(bA.1 hb1).1;refine eN func119 ntmps119 ?_;refine cH 2 ?_;intro b2 w2 dw bX fB dJ dH;refine B 13 ?_;refine aK results119 rfl A1 ?_;rfl
abbrev Mm:=Int×Int
def Bj (x:Mm):List Value:=[ab x.1,ab x.2]
theorem nSh(x:Mm):(Bj x).length=2:=rfl
theorem Mh(x:Mm):∀u∈Bj x,u.oneCell'=true:=LC rfl
theorem Mi:prog.info? 180=some Tryz.t180:=by kernel_rfl
theorem Tg:jN prog 171 180 2:=⟨underlying171,Tryz.t180,.agg #[ab 0,ab 0],Mi,rfl,rfl,rfl,by decide⟩
structure Sen (w:World) (a0 a1:Addr):Prop where
 g0:∃t fr,w.heap[0]? =some (.cells #[.iface 472 (.pointer (some a0))] t fr)
 g1:∃t fr,w.heap[1]? =some (.cells #[.iface 472 (.pointer (some a1))] t fr)
 h0:∃c t,w.heap[a0.block]? =some (oC c t)
 h1:∃c t,w.heap[a1.block]? =some (oC c t)
 ne:a0≠a1
noncomputable def yr (g:Gp) (d:Int):Option Mm:=(g.ms.find? λx=>decide (x.dev=d)).map λx=>(x.ver,(cP g.ns (512+d)).getD 0)
noncomputable def Dz (g:Gp) (l:List Int):List Mm:=l.filterMap (yr g)
noncomputable def qU (g:Gp) (l:List Int):Nat:=if dX g=false then 1 else if l.all (λd=>(yr g d).isSome)then 0 else 2
noncomputable def Hj (g:Gp) (l:List Int):List Mm:=if qU g l=0 then Dz g l else[]
theorem nni{d:Int}{m:Mm}(hd:l[j]? =some d)(hm:yr g d=some m):Dz g (l.take (j+1))=Dz g (l.take j)++[m]:=by unfold Dz;rw[np hd,List.filterMap_append];simp[hm]
theorem Th(g:Gp)(l:List Int):(Dz g l).length<=l.length:=List.length_filterMap_le _ _
theorem aaT(h:dX g=false):qU g l=1:=by unfold qU;rw[if_pos h]
theorem aaU{d:Int}(h:dX g=true)(hd:d∈l)(hn:yr g d=none):qU g l=2:=by grind [qU]
theorem aaV(h:dX g=true)(ha:l.all (λd=>(yr g d).isSome)=true):qU g l=0:=by unfold qU;rw[if_neg (by rw[h];decide),if_pos ha]
theorem Tj{d:Int}{i:Int}(h:fF (λx:Mb=>decide (x.dev=d)) g.ms i)(hi:i<0):yr g d=none:=by grind [yr,WM]
theorem Mj{d:Int}{x:Mb}(h:g.ms.find? (λx=>decide (x.dev=d))=some x):yr g d=some (x.ver,(cP g.ns (512+d)).getD 0):=by unfold yr;rw[h];rfl
def erV (a0 a1:Addr):Nat->Value
 |0=>.nilIface
 |1=>.iface 472 (.pointer (some a0))
 |_=>.iface 472 (.pointer (some a1))
theorem nFo(G:Gv)(N:Nat)(w:World)(hN:N<=w.heap.size)(hG:cj N w G)(l:List Int)(hl:l.length<=100)(a:Option Addr)(cp:Nat)(aH:ai encI 1 N w a l)(a0 a1:Addr)(hse:Sen w a0 a1):Calls prog 68 #[.agg (bF G),.slice a l.length cp] w (aD w Bj 2 180 (Hj G.g l) (λs=>.tuple #[s,erV a0 a1 (qU G.g l)])):=by
 obtain⟨tg0,fg0,hg0⟩:=hse.g0;obtain⟨tg1,fg1,hg1⟩:=hse.g1;have DL:=(bA.1 hg0).1;have mw:=(bA.1 hg1).1;refine eN func68 ntmps68 ?_;refine cH 2 ?_;intro b2 w2 dw bX fB dJ dH;refine aE 7 (.agg (bF G)) ?_;refine call (v:=.bool (dX G.g)) call117 rfl rfl rfl (λW hS=>Hg G N W cJ (hG.up (aj _) hS.sm)) ?_;refine aG 3 ?_ ?_
 ·intro av;refine B 1 ?_;refine eA 2 (pb:=by exact aJ (X.v (ar (v:=.iface 472 (.pointer (some a0))) isAgg173 rfl A1 hg0 zI zz rfl)) zT) (k:=?_);refine B 5 ?_;have e1:qU G.g l=1:=aaT AR;exact zeh
 intro av;refine B 11 ?_;have hv:dX G.g=true:=by simp_all
 refine CJ.loop (α:=Rw×Nat) (λp=>[(2,ptr b2 0),(4,p.1.val (Dz G.g (l.take p.2)).length),(15,.slice a l.length cp),(16,ab (l.length:Int)),(17,ab (p.2:Int))]) (λp=>p.1.hp Bj 180 (Dz G.g (l.take p.2))++[]) (λp=>[w2,w]) (λp=>Gh.no) (λp=>p.2<=l.length/\p.1.Fr Gh.no [w2,w]/\p.1.Fit 2 (Dz G.g (l.take p.2))/\(l.take p.2).all (λd=>(yr G.g d).isSome)=true) (λp=>l.length-p.2) (.nil,0) ⟨cY _,True.intro,rfl,rfl⟩ zR rfl rfl zJ ?_;rintro⟨r,j⟩ ⟨hj,aM,ae,hal⟩;dsimp only at hj aM ae hal ⊢;have bJ:r.ge w2.heap.size:=Rw.ge_of aM A0;refine aG 6 ?_ ?_
 ·intro aR;refine B 5 ?_;obtain⟨bo,oo,cs0,to,fC,rfl,fE,bW,aS⟩:=aH.get aa;obtain⟨d,hd⟩:=ng l j aa;refine B 2 ?_;refine rv rfl rfl rfl (ar (v:=ab d) isAgg3 rfl A1 bW zI zz (by have:=nJ aS hd rfl zA;simpa[encI]using this)) ?_;refine bH 1 ?_;intro b7 kh v7;refine aE 6 (.slice G.ma G.g.ms.length G.mc) ?_;refine B 1 ?_;refine Tf (α:=Int) (v:=λi:Int=>ab i) (Φ:=λi=>fF (λy:Mb=>decide (y.dev=d)) G.g.ms i) call118 rfl rfl rfl (λW hS=>?_) ?_
  ·have zw:=hS.own (b7,_) A0;exact nvd (λy:Mb=>decide (y.dev=d)) 119 [ptr b7 0] call119 G.g.ms (by have:=hG.mn;omega) N G.ma G.mc W cJ (hG.ms.up (aj _) (hS.same A1 hN zH zD)) (λj x hx W2 hB=>Hh x d b7 W2 (by rw[hB.block b7 (bA.1 zw).1];exact zw))
  intro ix Dw;refine aG 10 ?_ ?_
  ·intro dm;refine B 1 ?_;refine eA 2 (pb:=by exact aJ (X.v (ar (v:=.iface 472 (.pointer (some a1))) isAgg173 rfl A1 hg1 zI zz rfl)) zT) (k:=?_);refine B 10 ?_;have e1:qU G.g l=2:=aaU hv (cA hd) (Tj Dw aa);exact zeh
  intro dm;refine B 3 ?_;obtain⟨n,x,rfl,hx,hfx⟩:=(WM Dw).resolve_left (λh=>by have:=h.1;omega);have lq:dd d:=by have h1:=(zk.1 hv).2.2.1;have h2:=List.find?_some hfx;simp only[decide_eq_true_eq]at h2;exact nLj (by rw[<-h1,<-h2];exact bT.2 ⟨x,cA hx,rfl⟩)
  have hd1:=lq.1;have hd2:=lq.2;have uH:=Mj hfx;obtain⟨bm,om,csm,tm,frm,lQ,oW,Rf,Rg⟩:=hG.ms.get VJ;have hnx:=nq hx;refine aE 2 (.agg #[.slice G.na G.g.ns.length G.nc]) ?_;refine aE 1 (ab (512+d)) ?_;refine call (v:=.tuple #[ab ((cP G.g.ns (512+d)).getD 0),.bool (cP G.g.ns (512+d)).isSome]) call36 rfl rfl rfl (λW hS=>nTb G.g.ns (by have:=hG.nn;omega) N G.na G.nc W cJ (hG.ns.up (aj _) (hS.same A1 hN zH zD)) (512+d)) ?_;refine B 10 ?_;refine rq (.slice (some ⟨bm,om,none⟩) G.g.ms.length G.mc) (ar isAgg48 rfl A0 dw bX zz rfl) (congrArg (λq=>Value.slice q G.g.ms.length G.mc) lQ) ?_;refine B 3 ?_;refine rv rfl rfl rfl (ar (v:=ab x.ver) isAgg3 rfl A1 Rf zI zz (by have:=vh Rg hx rfl 2 zA;simpa[qJ]using this)) ?_;refine B 2 ?_;refine kp underlying171 sizeOf180 zeroValue180 rfl rfl rfl rfl rfl rfl rfl ?_;refine yW ?_;intro b45 apI apJ;refine kz (r:=r) (xs:=(Dz G.g (l.take j))) (zs:=[((x.ver,(cP G.g.ns (512+d)).getD 0):Mm)]) (enc:=Bj) (m:=2) (H0:=[(b45,oC #[ab x.ver,ab ((cP G.g.ns (512+d)).getD 0)] 180),(b7,oC #[ab d] 3)]) (H1:=[]) zX Tg nSh rfl rfl rfl rfl (cD.one (z:=((x.ver,(cP G.g.ns (512+d)).getD 0):Mm)) nSh Mh underlying171 (bE.own (i:=0) rfl)) ae aM zJ (by have h9:=Th G.g (l.take j);rw[jM]at h9;simp only[dO,fO];omega) ?_
  intro b46 akz akA Tk Tl;replace Tk:=yb Tk;refine zc ?_;refine PJ.again (Rw.row b46 akz akA,j+1) ⟨by dsimp only;omega,Tk.elim (λh=>Rw.Fr_at aM h) (λh=>.inr h),by rw[nni hd uH];exact Tl,by dsimp only;rw[np hd,List.all_append,hal];simp[uH]⟩ zW ⟨rfl,by rw[nni hd uH];rfl,rfl,rfl,rfl,trivial⟩ (by rw[nni hd uH];rfl) rfl zJ
 intro aR;refine B 13 ?_;have zy:j=l.length:=by omega
 rw[zy,uw]at hal ae ⊢;have e1:qU G.g l=0:=aaV hv hal;have e2:Hj G.g l=Dz G.g l:=by unfold Hj;rw[e1];rfl
 rw[e1,e2];exact nQ (H0:=[]) (H1:=[]) (r:=r) (.inl rfl) results68 bB A1 (by rw[ee];exact Rw.over (Rw.ge_mono bJ aa)) rfl ae (Rw.ge_mono bJ aa) zJ
theorem WR(n:Int)(w:World):Calls prog 130 #[ab n] w (aP w (vI n)):=by
 refine eN func130 ntmps130 ?_;refine bH 3 ?_;intro b2 dJ dH;refine B 10 ?_;refine cu (.inl rfl) results130 bB A0 zB ?_;rfl
theorem JD(l:List UInt8)(N:Nat)(a:Option Addr)(c:Nat)(w:World)(hN:N<=w.heap.size)(hb:gF N w a l):Calls prog 129 #[.slice a l.length c] w (aP w (vT (qM l))):=by
 refine eN func129 ntmps129 ?_;refine bH 3 ?_;intro b2 dJ dH;refine B 5 ?_;refine zpe ?_;refine B 5 ?_;refine cu (.inl rfl) results129 bB A0 zB ?_;rfl
theorem nKj(base:Option Addr)(n c:Nat)(w:World):Calls prog 128 #[.slice base n c] w (aP w (vL base n c)):=by
 refine eN func128 ntmps128 ?_;refine bH 3 ?_;intro b2 dJ dH;refine B 10 ?_;refine cu (.inl rfl) results128 bB A0 zB ?_;rfl
def xu (o:Ol):List V:=[.text (qM (cI o.f)),.int o.w.u,.text (qM o.w.body)]
def xv (x:Gr):List V:=[.int x.folder,.int x.by_,.int x.device,.int x.pub,.text (qM (cI x.f)),.list ((x.olds.map xu).map V.list)]
def JE (x:Ir):List V:=[.text (qM (cI x.f)),.text (qM (cI x.g)),.int x.by_,.text (qM x.body)]
def CE (Z:Fx) (x:Gr):Nat->Int:=Z.tg (⟨#[103,114,97,110,116,32,115,105,103,110]⟩:ByteArray) (V.list (xv x)).enc
def CF (Z:Fx) (x:Ir):Nat->Int:=Z.tg (⟨#[105,110,104,101,114,105,116,32,115,105,103,110]⟩:ByteArray) (V.list (JE x)).enc
theorem nMk:∀{l:List V},(∀v∈l,v.fine)->V.fineL l
 | [],_=>by simp[V.fineL]
 |v::l,h=>by simp only[V.fineL];exact⟨h v A0,nMk λu hu=>h u (.tail _ hu)⟩
theorem Ml(x:Gr)(hx:pR x)(hb:∀o∈x.olds,o.w.body.length<=65552):(V.list (xv x)).fine/\(V.list (xv x)).depth<=16/\(V.list (xv x)).enc.length<=800000000000:=by
 have hf:=hx.few;have hl:V.fineL ((x.olds.map xu).map V.list):=nMk λv hv=>by
  obtain⟨l,hl,rfl⟩:=bT.1 hv;obtain⟨o,ho,rfl⟩:=bT.1 hl;have h1:=hb o ho;simp only[V.fine,xu,V.fineL,V.depthL,V.depth];exact⟨by simp,by simp,by rw[Fj,nI];decide,hx.io o ho,by rw[Fj];omega,trivial⟩
 have e5:=Zy 3 zA (x.olds.map xu) (λl hl=>by obtain⟨o,_,rfl⟩:=bT.1 hl;exact⟨rfl,aj 3⟩) hl;have n5:=C4 (u:=((x.olds.map xu).map V.list).length) mV;have m5:(x.olds.map xu).length*(3*1000000020+11)<=6*(3*1000000020+11):=w6 _ (by rw[eO];exact hf);have l5:(V.list ((x.olds.map xu).map V.list)).enc.length<=11+(V.encL ((x.olds.map xu).map V.list)).length:=by simp only[V.enc,dO,cO];omega
 have jl:V.fineL (xv x):=by
  simp only[xv,V.fineL,V.fine];exact⟨hx.i.1,hx.i.2.1,hx.i.2.2.1,hx.i.2.2.2,by rw[Fj,nI];decide,⟨by simp;omega,by have:=e5.2;omega,hl⟩,trivial⟩
 simp only[xv,V.fineL]at jl;obtain⟨g1,g2,g3,g4,g5,g6,_⟩:=jl;have i1:=B0 _ rfl g1;have i2:=B0 _ rfl g2;have i3:=B0 _ rfl g3;have i4:=B0 _ rfl g4;have i5:=B0 _ rfl g5;have n6:=C4 (u:=(xv x).length) (by simp[xv]);have d5:=e5.2;have dl:V.depthL (xv x)<=2:=by simp only[xv,V.depthL,V.depth];omega
 have el:(V.encL (xv x)).length<=700000000000:=by
  unfold xv;simp only[V.encL,cO,fO];omega
 refine⟨?_,?_,?_⟩
 ·simp only[V.fine];exact⟨by simp[xv],by omega,by simp only[xv,V.fineL];exact⟨g1,g2,g3,g4,g5,g6,trivial⟩⟩
 ·simp only[V.depth];omega
 simp only[V.enc,dO,cO];omega
theorem Mn(x:Ir)(hx:ku x)(hb:x.body.length<=65552):(V.list (JE x)).fine/\(V.list (JE x)).depth<=16/\(V.list (JE x)).enc.length<=800000000000:=by
 have jl:V.fineL (JE x):=by
  simp only[JE,V.fineL,V.fine];exact⟨by rw[Fj,nI];decide,by rw[Fj,nI];decide,hx.i,by rw[Fj];omega,trivial⟩
 have h5:=ntf (JE x) rfl jl;all_goals grind [C4,JE,V.fine,V.depth,V.enc]
theorem nxk(hZ:FxOk Z)(s:ByteArray)(hs0:s.size<1000)(l:List V)(dW:(V.list l).fine)(hd:(V.list l).depth<=16)(ju:(V.list l).enc.length<=800000000000)(N bl lc:Nat)(w:World)(hN:N<=w.heap.size)(xS:fu N w (.list l) (vL (ao bl) l.length lc))(hg:Glb w):Calls prog 131 #[.string s,.slice (ao bl) l.length lc] w (cZ w (λb:Nat=>.slice (ao b) 32 32) (λb w1=>w.heap.size<=b/\w1.heap[b]? =some (oC (dg (Z.tg s (V.list l).enc)) 33))):=by
 have hg4:=hg.lt;obtain⟨df,lz⟩:∃df,Z.tg s (V.list l).enc=df:=⟨_,rfl⟩;refine ef 8 func131 ntmps131 ?_;refine call call128 rfl rfl rfl (λW hS=>nKj _ _ _ W) ?_;refine zje ?_;intro gd Je Kj lT pC aiM yY;replace lT:=yb lT;replace pC:=yd pC;refine B 11 ?_;refine z7d ?_;refine bH 1 ?_;intro b7 kh v7;refine B 5 ?_;refine zye ?_;refine B 4 ?_;exact bQ (.inl rfl) results131 bB (λW hS=>⟨b7,rfl,hS.base A0 zB,by omega,by rw[lz];exact hS.own _ A0⟩)
theorem nLo(hZ:FxOk Z)(x:Gr)(hx:pR x)(jr:∀o∈x.olds,o.w.body.length<=65552)(N:Nat)(w:World)(hN:N<=w.heap.size)(hG:sE N w x)(hg:Glb w):Calls prog 76 #[.agg (tX x)] w (cZ w (λb:Nat=>.slice (ao b) 32 32) (λb w1=>w.heap.size<=b/\w1.heap[b]? =some (oC (dg (CE Z x)) 33))):=by
 have AN:=hx.few;have hg4:=hg.lt;have Hk:=hG.ol;obtain⟨df,lz⟩:∃df,CE Z x=df:=⟨_,rfl⟩;have vr:=Ml x hx jr;refine nB (dF []) [] (vs:=[_]) func76 rfl ntmps76 rfl (Lm w) ?_;refine cH 2 ?_;intro b1 w1 hb1 cK gS fX jK;refine B 5 ?_;refine call call128 rfl rfl rfl (λW hS=>nKj _ _ _ W) ?_;refine bH 1 ?_;intro b3 eC ff;refine aE 7 (.slice x.oa x.olds.length x.oc) ?_;refine B 5 ?_;refine CJ.loop (α:=((Rw×List El)×ad)×Nat) (λp=>[(1,ptr b1 0),(3,ptr b3 0),(8,.slice x.oa x.olds.length x.oc),(9,ab (x.olds.length:Int)),(10,ab (p.2:Int))]) (λp=>[(b3,oC (dQ (p.1.1.1.val p.1.1.2.length)) 200)]++(p.1.1.1.hp (jX 3) 200 p.1.1.2++[])) (λp=>[w1,w]) (λp=>dF p.1.2) (λp=>p.2<=x.olds.length/\p.1.1.1.Fr (dF p.1.2) [w1,w]/\p.1.1.1.Fit 4 p.1.1.2/\iX p.1.2 3 p.1.1.2 ((x.olds.take p.2).map xu)) (λp=>x.olds.length-p.2) (((.nil,[]),[]),0) ⟨cY _,True.intro,rfl,iX.nil⟩ zR rfl rfl zJ ?_;rintro⟨⟨⟨r1,jk⟩,F1⟩,j1⟩ ⟨hj,aM,ae,pK⟩;dsimp only at hj aM ae pK ⊢;have bJ:r1.ge w1.heap.size:=Rw.ge_fz aM A0;have hel:jk.length<=50:=by rw[pK.1,eO,jM];omega
 refine aG 6 ?_ ?_
 ·intro av;refine B 5 ?_;obtain⟨bo,oo,cs0,to,fC,eZ,fE,bW,aS⟩:=Hk.get aa;obtain⟨y,hy⟩:=ng x.olds j1 aa;rw[eZ];have hq:=λ(k:Nat)=>Rw.mem_ge (enc:=jX 3) (t:=200) (xs:=jk) (k:=k) bJ;have rk:gF N w y.w.ba y.w.body:=hG.bb y (cA hy);have fE:eu y.f:=hx.bo y (cA hy);refine aE 2 (.agg (vK y)) ?_;refine bH 1 ?_;intro b5 rF rG;refine B 3 ?_;refine CJ.less (E':=[(1,_),(3,_),(5,_),(8,_),(9,_),(10,_),(11,_),(12,_),(13,_)]) zR ?_;refine CJ.chn 16 [13,14,15] [_,_,_,_,some (vT (qM (cI y.f))),_,_,_,_,_,_,_,some (vT (qM y.w.body)),none,none,none] (λcv L' H'=>let eo:ad:=[(b5,oC (vK y) 119),(b3,oC (dQ (r1.val jk.length)) 200)]++(r1.hp (jX 3) 200 jk++[]);match cv with| []=>L'=[w1,w]/\H'=eo| [v1]=>∃(bn:Nat),v1= .slice (ao bn) 3 3/\L'=[w1,w]/\H'=(bn,oC (nM (xu y)++[]).toArray 200)::eo/\ah [w1,w] bn| [v1,v2]=>∃(bn:Nat),v1= .slice (ao bn) 3 3/\v2=vL (ao bn) 3 3/\L'=[w1,w]/\H'=(bn,oC (nM (xu y)++[]).toArray 200)::eo/\ah [w1,w] bn| [v1,v2,v3]=>∃(bn:Nat) (ov:Nat),v1= .slice (ao bn) 3 3/\v2=vL (ao bn) 3 3/\v3= .slice (ao ov) 1 1/\L'=[w1,w]/\H'=(ov,oC (dQ (.slice (ao bn) 3 3)) 200)::(bn,oC (nM (xu y)++[]).toArray 200)::eo/\ah [w1,w] bn/\ah [w1,w] ov|_=>False) (pc X9 (pc yh (pc (by exact λcv L' H' hd hP=>X.v (cR underlying119 rfl sizeOf33 rfl)) (pc zYb (pc yh (pc (by exact λcv L' H' hd hP=>X.v (cR underlying119 rfl sizeOf108 rfl)) (pc zac (pc yh (pc (by exact λcv L' H' hd hP=>nf call130 rfl rfl (λW hS _=>WR _ W) (λ_=>rfl)) (pc (by exact λcv L' H' hd hP=>X.v (cR underlying119 rfl sizeOf108 rfl)) (pc z7b (pc yh (pc yh (pk (pk (pk (pn))))))))))))))))) ?_ ?_
  ·refine ss rfl ?_ ?_
   ·exact zGg
   refine ss rfl ?_ ?_
   ·intro cv L' H' hl hP F Q' hk;obtain⟨v1,rfl⟩:=jv hl;obtain⟨bn,rfl,rfl,rfl,hfn⟩:=hP;refine call call128 rfl rfl rfl (λW hS=>nKj (ao bn) 3 3 W) ?_;exact z5h
   exact zwg
  intro cv L' H' hl hP;obtain⟨v1,v2,v3,rfl⟩:=py hl;obtain⟨bn,ov,rfl,rfl,rfl,rfl,rfl,hfn,sY⟩:=hP;refine kz (r:=r1) (xs:=jk) (zs:=[((bn,3):El)]) (enc:=jX 3) (m:=4) (H0:=[(ov,oC (dQ (.slice (ao bn) 3 3)) 200),(bn,oC (nM (xu y)++[]).toArray 200),(b5,oC (vK y) 119),(b3,oC (dQ (r1.val jk.length)) 200)]) (H1:=[]) rfl Zr (OW 3) rfl rfl rfl rfl (cD.one (z:=((bn,3):El)) (OW 3) (nph 3) underlying134 (bE.own (i:=0) rfl)) ae aM zJ y9 ?_;intro br cr sr jY rY;refine B 1 ?_;refine kT (i:=3) rfl sizeOf134 rfl rfl rfl rfl (eh rfl) rfl ?_;refine B 7 ?_;refine PJ.reH (H':=[(ov,oC (dQ (.slice (ao bn) 3 3)) 200),(bn,oC (nM (xu y)++[]).toArray 200),(b5,oC (vK y) 119),(b3,oC (dQ ((Rw.row br cr sr).val (jk++[((bn,3):El)]).length)) 200)]++((br,bj (jX 3) 200 (jk++[((bn,3):El)]) sr)::[])) rfl ?_;refine V9 ?_;refine PJ.fz [(bn,oC (nM (xu y)++[]).toArray 200)] (H':=[(b5,oC (vK y) 119),(b3,oC (dQ ((Rw.row br cr sr).val (jk++[((bn,3):El)]).length)) 200)]++((br,bj (jX 3) 200 (jk++[((bn,3):El)]) sr)::[])) (List.Perm.refl _) zec ?_;refine qF ?_;refine ag (((Rw.row br cr sr,(jk++[((bn,3):El)])),(bn,oC (nM (xu y)++[]).toArray 200)::F1),j1+1) ⟨by dsimp only;omega,jY.elim (λh=>Rw.Fr_at aM h) (λh=>.inr h),rY,by dsimp only;rw[njg xu hy];exact pK.snoc (λp hp=>.tail _ hp) rfl rfl (aj _) A0⟩
 intro av;refine B 6 ?_;have Fs:x.olds.take j1=x.olds:=iz aa;rw[Fs]at pK;have iI:=ae;refine CJ.fz (r1.hp (jX 3) 200 jk) (H':=[(b3,oC (dQ (r1.val jk.length)) 200)]) Zt (Rw.fz_above aM) ?_;refine eA 16 (pb:=by exact zU 2 (k:=by exact aJ (nf call130 rfl rfl (λW hS _=>WR _ W) (λ_=>rfl)) (zU 2 (k:=by exact aJ (nf call130 rfl rfl (λW hS _=>WR _ W) (λ_=>rfl)) (zU 2 (k:=by exact aJ (nf call130 rfl rfl (λW hS _=>WR _ W) (λ_=>rfl)) (zU 2 (k:=by exact aJ (nf call130 rfl rfl (λW hS _=>WR _ W) (λ_=>rfl)) (zU 1 (k:=by exact aJ (X.v (fY underlying33 sizeOf5 rfl rfl aa)) (aJ (nf call129 rfl rfl (λW hS _=>by have h1:=hS.old A0 hb1 cK zz;have h2:=JD (cI x.f) W.heap.size (some ⟨b1,4,none⟩) 32 W (aj _) (.inr ⟨b1,4,rfl,(bA.1 h1).1,cx.dgo h1 rfl (eh rfl) hx.bf⟩);rw[nS]at h2;exact h2) (λ_=>rfl)) zT))))))))))) (sp:=[_,some (ab x.folder),_,_,some (ab x.by_),_,_,some (ab x.device),_,_,some (ab x.pub),_,_,_,some (vT (qM (cI x.f))),some (.agg (dQ (r1.val jk.length)))]) (k:=?_);refine zve ?_;refine yV ?_;intro b49 w49 akD akE apK apL apM;refine nv (α:=Nat) (v:=λb:Nat=>.slice (ao b) 32 32) (Φ:=λ(W:World) (b:Nat) (w1:World)=>W.heap.size<=b/\w1.heap[b]? =some (oC (dg df) 33)) call131 rfl rfl rfl (λW hS=>?_) ?_
 ·have hF:∀p∈(r1.hp (jX 3) 200 jk++F1),p.1<W.heap.size/\W.heap[p.1]? =some p.2:=λp hp=>⟨(bA.1 (hS.fzAt p hp)).1,hS.fzAt p hp⟩;have v1:=iX.vat (t:=200) (pK.up (λp hp=>aY.2 (.inr hp))) hF (λp hp=>aY.2 (.inl hp)) iI;have sF:=hS.old A0 akD akE zz;rw[<-lz];exact nxk hZ (⟨#[103,114,97,110,116,32,115,105,103,110]⟩:ByteArray) zA (xv x) vr.1 vr.2.1 vr.2.2 W.heap.size b49 6 W (aj _) (n6l (xv x) (aj 6) sF (bA.1 sF).1 (tO (eh rfl) (Jr _ _ _) (tO (eh rfl) (Jr _ _ _) (tO (eh rfl) (Jr _ _ _) (tO (eh rfl) (Jr _ _ _) (tO (eh rfl) (V6 _ _ _) (tO (eh rfl) v1 (nNl)))))))) (hg.old hS A2 zH zF)
 rintro Wm bm wm wU KW ⟨Tm,oW⟩;refine B 4 ?_;refine bQ (.inl rfl) results76 bB λW hS=>⟨bm,rfl,(hS.links w A3).below (λk hk hx=>by rcases hx with hx|hx;(exact hx);simp at hx;try omega),eE (wU.links w A2).size Tm,by rw[lz];exact hS.old A0 oW zI (by have h3:=wU.lt (b3,_) A0;dsimp only at h3;simp only[bM,and_true];omega)⟩
theorem nWp(hZ:FxOk Z)(x:Ir)(hx:ku x)(jr:x.body.length<=65552)(N:Nat)(w:World)(hN:N<=w.heap.size)(rk:gF N w x.ba x.body)(hg:Glb w):Calls prog 77 #[.agg (Bi x)] w (cZ w (λb:Nat=>.slice (ao b) 32 32) (λb w1=>w.heap.size<=b/\w1.heap[b]? =some (oC (dg (CF Z x)) 33))):=by
 have hg4:=hg.lt;obtain⟨df,lz⟩:∃df,CF Z x=df:=⟨_,rfl⟩;have vr:=Mn x hx jr;refine eN func77 ntmps77 ?_;refine cH 2 ?_;intro b1 w1 hb1 cK gS fX jK;refine B 4 ?_;refine eA 11 (pb:=by exact zU 1 (k:=by exact aJ (X.v (fY underlying33 sizeOf5 rfl rfl aa)) (aJ (nf call129 rfl rfl (λW hS _=>by have h1:=hS.old A0 hb1 cK trivial;have h2:=JD (cI x.f) W.heap.size (ao b1) 32 W (aj _) (.inr ⟨b1,0,rfl,(bA.1 h1).1,cx.dgo h1 rfl (eh rfl) hx.bf⟩);rw[nS]at h2;exact h2) (λ_=>rfl)) (zU 1 (k:=by exact aJ (X.v (fY underlying33 sizeOf5 rfl rfl aa)) (aJ (nf call129 rfl rfl (λW hS _=>by have h1:=hS.old A0 hb1 cK trivial;have h2:=JD (cI x.g) W.heap.size (some ⟨b1,32,none⟩) 32 W (aj _) (.inr ⟨b1,32,rfl,(bA.1 h1).1,cx.dgo h1 rfl (eh rfl) hx.bg⟩);rw[nS]at h2;exact h2) (λ_=>rfl)) (zU 2 (k:=by exact aJ (nf call130 rfl rfl (λW hS _=>WR _ W) (λ_=>rfl)) zT)))))))) (sp:=[_,_,some (vT (qM (cI x.f))),_,_,some (vT (qM (cI x.g))),_,some (ab x.by_),_,_,some (.slice x.ba x.body.length x.bc)]) (k:=?_);refine call call129 rfl rfl rfl (λW hS=>JD x.body N x.ba x.bc W cJ (gF.up rk (aj _) hS.sm)) (v:=vT (qM x.body)) ?_;refine zve ?_;refine yV ?_;intro dS w15 Tn To akG Fk Ll;refine nv (α:=Nat) (v:=λb:Nat=>.slice (ao b) 32 32) (Φ:=λ(W:World) (b:Nat) (w1:World)=>W.heap.size<=b/\w1.heap[b]? =some (oC (dg df) 33)) call131 rfl rfl rfl (λW hS=>?_) ?_
 ·skip
  have sF:=hS.old A0 Tn To trivial;rw[<-lz];exact nxk hZ (⟨#[105,110,104,101,114,105,116,32,115,105,103,110]⟩:ByteArray) zA (JE x) vr.1 vr.2.1 vr.2.2 W.heap.size dS 4 W (aj _) (n6l (JE x) (aj 4) sF (bA.1 sF).1 (tO (eh rfl) (V6 _ _ _) (tO (eh rfl) (V6 _ _ _) (tO (eh rfl) (Jr _ _ _) (tO (eh rfl) (V6 _ _ _) (nNl)))))) (hg.old hS A2 zH zF)
 rintro Wm bm wm wU KW ⟨Tm,oW⟩;refine B 4 ?_;refine bQ (.inl rfl) results77 bB λW hS=>⟨bm,rfl,(hS.links w A3).below (λk hk hx=>by rcases hx with hx|hx;(exact hx);simp at hx;try omega),eE (wU.links w A2).size Tm,by rw[lz];exact hS.old A0 oW zI trivial⟩
def JF (x:Gr):List Dk:=x.olds.map λo=>dk o.f
theorem nCi(x:Gr){o:Ol}(h:x.olds[j]? =some o):(x.olds.take (j+1)).map (λo=>dk o.f)=(x.olds.take j).map (λo=>dk o.f)++[dk o.f]:=by rw[np h];simp
def WS (l:List Dk):List (Dk×Bool):=l.foldl (λs k=>fZ s k true) []
theorem nLl(l:List Dk)(x:Dk):WS (l++[x])=fZ (WS l) x true:=by unfold WS;rw[Jk];rfl
def Hl (l:List Dk):Bool:=decide (0<l.length)&&decide (l.length<=4096)&&decide ((WS l).length=l.length)
theorem nOe(x:Gr)(apP:x.olds.length<=6)(N:Nat)(w:World)(hN:N<=w.heap.size)(hG:sE N w x):Calls prog 73 #[.agg (tX x)] w (aD w cW 32 33 (JF x) id):=by
 refine eN func73 ntmps73 ?_;refine cH 2 ?_;intro b1 w1 hb1 cK gS fX jK;refine aE 7 (.slice x.oa x.olds.length x.oc) ?_;refine B 5 ?_;refine CJ.loop (α:=Rw×Nat) (λp=>[(1,ptr b1 0),(2,p.1.val ((x.olds.take p.2).map (λo=>dk o.f)).length),(6,.slice x.oa x.olds.length x.oc),(7,ab (x.olds.length:Int)),(8,ab (p.2:Int))]) (λp=>p.1.hp cW 33 ((x.olds.take p.2).map (λo=>dk o.f))++[]) (λp=>[w1,w]) (λp=>Gh.no) (λp=>p.2<=x.olds.length/\p.1.Fr Gh.no [w1,w]/\p.1.Fit 32 ((x.olds.take p.2).map (λo=>dk o.f))) (λp=>x.olds.length-p.2) (.nil,0) ⟨cY _,True.intro,rfl⟩ zR rfl rfl zJ ?_;rintro⟨r,j⟩ ⟨hj,aM,ae⟩;dsimp only at hj aM ae ⊢;have bJ:r.ge w1.heap.size:=Rw.ge_of aM A0;refine aG 6 ?_ ?_
 ·intro av;refine B 5 ?_;have Hk:=hG.ol;obtain⟨bo,oo,cs0,to,fC,eZ,fE,bW,aS⟩:=Hk.get aa;obtain⟨o,ho⟩:=ng x.olds j aa;rw[eZ];refine aE 2 (.agg (vK o)) ?_;refine bH 1 ?_;intro b4 iT iU;refine aE 6 (.agg (dg o.f)) ?_;refine z2d ?_;refine yW ?_;intro dS Fk Ll;refine kz (r:=r) (xs:=((x.olds.take j).map (λo=>dk o.f))) (zs:=[(dk o.f)]) (enc:=cW) (m:=32) (H0:=[(dS,oC (dg o.f) 33),(b4,oC (vK o) 119)]) (H1:=[]) zX nbj yk rfl rfl rfl rfl (cD.one (z:=dk o.f) yk WA underlying72 (bE.own (i:=0) rfl)) ae aM zJ (by simp only[eO,jM,dO,fO];omega) ?_;intro V5 RU RW zt zu;replace zt:=yb zt;refine zc ?_;refine PJ.again (Rw.row V5 RU RW,j+1) ⟨by dsimp only;omega,zt.elim (λh=>Rw.Fr_at aM h) (λh=>.inr h),by rw[nCi x ho];exact zu⟩ zW ⟨rfl,by rw[nCi x ho];rfl,rfl,rfl,rfl,trivial⟩ (by rw[nCi x ho];rfl) rfl zJ
 intro av;refine B 6 ?_;have cF:(x.olds.take j).map (λo=>dk o.f)=JF x:=by rw[iz aa];rfl
 rw[cF]at ae ⊢;refine B 6 ?_;exact nQ (H0:=[]) (H1:=[]) (r:=r) (.inl rfl) results73 bB A1 (by rw[ee];exact Rw.over (Rw.ge_mono bJ aa)) rfl ae (Rw.ge_mono bJ aa) zJ
theorem nzf(l:List Dk)(hl:l.length<=1000000)(N:Nat)(a:Option Addr)(c:Nat)(w:World)(hN:N<=w.heap.size)(aH:ai vA 32 N w a l):Calls prog 72 #[.slice a l.length c] w (aP w (.bool (Hl l))):=by
 refine ef 7 func72 ntmps72 ?_;refine LH vz Value.bool rfl rfl ?_;intro b6 ky ri;replace ky:=yb ky;try simp only[bM,and_true,ne_eq]at ri
 refine B 12 ?_;refine CJ.lp (α:=Mq×Nat) [0,3,7,8] (λp=>[(9,ab (p.2:Int))]) (λp=>[(b6,p.1.obj vz Value.bool (WS (l.take p.2)))]) (λp=>p.2<=l.length/\p.1.Ok (WS (l.take p.2))) (λp=>l.length-p.2) (Mq.mk [] 0,0) ⟨cY _,Mq.nil⟩ ?_;rintro⟨m,j⟩ ⟨hj,hm⟩;dsimp only at hj hm ⊢;refine aG 6 ?_ ?_
 ·intro av;refine B 5 ?_;obtain⟨bl,ol,csl,tl,frl,rfl,jr,tS,mI⟩:=aH.get aa;obtain⟨x,hx⟩:=ng l j aa;obtain⟨f,rfl⟩:∃f,dk f=x:=⟨_,Dp x⟩;refine aE 2 (.agg (dg f)) ?_;refine bH 1 ?_;intro b5 rF rG;refine B 6 ?_;refine Z2 (i:=1) (k:=dk f) (v:=true) rfl hm underlying223 FX rfl rfl rfl rfl ?_;intro m2 bX;refine xW ?_;refine PJ.again (m2,j+1) ⟨by dsimp only;omega,by dsimp only;rw[np hx,nLl];exact bX⟩ zW zR (by dsimp only;rw[np hx,nLl];rfl) rfl zJ
 intro av;refine B 6 ?_;have cF:l.take j=l:=iz aa;rw[cF]at hm ⊢;refine B 5 ?_;refine ni (t:=19) rfl (λaR=>?_) (λaR=>?_)
 ·replace aR:=ya aR;refine B 5 ?_;refine ni (t:=24) rfl (λdm=>?_) (λdm=>?_)
  ·replace dm:=ya dm;refine B 1 ?_;refine rv rfl rfl rfl (Bk underlying223 hm (bE.own (i:=0) rfl) rfl) ?_;refine B 8 ?_;exact z1g
  replace dm:=ya dm;refine B 10 ?_;exact z1g
 replace aR:=ya aR;refine B 15 ?_;exact z1g
theorem nam(o:Ol)(w:World):Calls prog 70 #[.agg (vK o)] w (aP w (.bool (!decide (zo o.w=0)))):=by
 refine eN func70 ntmps70 ?_;refine cH 2 ?_;intro b1 w1 hb1 cK gS fX jK;refine aE 6 (.agg (wrA o.w)) ?_;refine call call71 rfl rfl rfl (λW hS=>nBe o.w W) ?_;refine B 5 ?_;refine aK results70 rfl A1 ?_;rfl
section
variable (p:Ol->Bool)(f:Nat)(cap:List Value)(aA:eU prog f)(xs:List Ol)(hxl:xs.length<=1000000)(N:Nat)(a:Option Addr)(cp:Nat)(w:World)(hN:N<=w.heap.size)(aH:ai vK 34 N w a xs)(hp:∀(j:Nat) (x:Ol),xs[j]? =some x->∀W,Below w.heap.size w W->Calls prog f (.agg (vK x)::cap).toArray W (aP W (.bool (p x))))
include aA xs hxl N cp hN aH hp
theorem nym:Calls prog 122 #[.slice a xs.length cp,.func (.func f) #[] cap.toArray] w (cZ w (λi:Int=>ab i) (λi _=>fF p xs i)):=by
 refine eN func122 ntmps122 ?_;refine VO ?_;rintro j ⟨hj,dP⟩;refine aG 6 ?_ ?_
 ·intro av;refine B 11 ?_;obtain⟨bo,oo,cs0,to,fC,rfl,fE,bW,aS⟩:=aH.get aa;obtain⟨x,hx⟩:=ng xs j aa;refine aE 5 (.agg (vK x)) ?_;refine VP ?_;refine uh ?_ ?_
  ·intro aR;refine B 12 ?_;refine sQ (j:Int) results122 rfl A0 rfl ?_;exact VQ
  exact VR
 intro av;refine B 11 ?_;refine sQ (-1:Int) results122 rfl A0 rfl ?_;exact VS
theorem nqf:Calls prog 74 #[.slice a xs.length cp,.func (.func f) #[] cap.toArray] w (aP w (.bool (xs.any p))):=by
 refine ef 9 func74 ntmps74 ?_;refine nv (α:=Int) (v:=λi:Int=>ab i) (Φ:=λ_ i _=>fF p xs i) call122 rfl rfl rfl (λW hS=>nym p f cap aA xs hxl N a cp W cJ (aH.up (aj _) hS.sm) (λj x hx W2 hB=>hp j x hx W2 (((hS.links w A0).below KP).trans (hB.mono (hS.links w A0).size)))) ?_;intro Wi i wi Fa Fb hi;refine B 5 ?_;refine aK results74 rfl A1 ?_;exact vb hi.any
end
section
variable {C:Cx} {G:Gh} {L:List World} {H:ad} {E:Env} {x y:Operand}
theorem Hm{T U tp:Nat}{v:Value}{ms:Array (String×TypeId)}(hU:C.P.underlying T=some (.interface ms))(hx:ev E x=some (.iface tp v))(hy:ev E y=some .nilIface):RV C G L H E (.binOp .neq T x y U) (bZ):=λd ty pos aC g a W hF _=>by
 have h:∀d:Nat,(Op.equalIn (d+1) T (.iface tp v) .nilIface).run C.P W= .ok false W:=λd=>by simp[Op.equalIn,run_underlying hU]
 have h2:(binOp .neq T (.iface tp v) .nilIface).run C.P W= .ok (bZ) W:=by simp only[binOp];simp[Op.equal,Op.maxDepth,h 9999]
 have h1:(eqGuard .neq T x y (.iface tp v) .nilIface).run C.P W= .ok () W:=by simp[eqGuard]
 simp only[execOp,hF.ev hx,hF.ev hy,Sem.run_bind,h1,h2,Result.andThen];rfl
theorem Tp{T U:Nat}{ms:Array (String×TypeId)}(hU:C.P.underlying T=some (.interface ms))(hx:ev E x=some .nilIface)(hy:ev E (.const .nilIface)=some .nilIface):RV C G L H E (.binOp .neq T x (.const .nilIface) U) (bG):=λd ty pos aC g a W hF _=>by
 have h:∀d:Nat,(Op.equalIn (d+1) T .nilIface .nilIface).run C.P W= .ok true W:=λd=>by simp[Op.equalIn,run_underlying hU]
 have h2:(binOp .neq T .nilIface .nilIface).run C.P W= .ok (bG) W:=by simp only[binOp];simp[Op.equal,Op.maxDepth,h 9999]
 have h1:(eqGuard .neq T x (.const .nilIface) .nilIface .nilIface).run C.P W= .ok () W:=by simp[eqGuard]
 simp only[execOp,hF.ev hx,hF.ev hy,Sem.run_bind,h1,h2,Result.andThen];rfl
end
theorem Tq{f:Nat}{us:Array Value}{v:Value}(h:Calls prog f us w λe w'=>e= .returned v/\w'=w):Calls prog f us w (aP w v):=h.mono λ_ _ h=>⟨h.1,h.2▸Below.refl _ _⟩
noncomputable def wF (Z:Fx) (g:Gp) (x:Gr):Int:=
 if qU g [x.by_,x.device]=1 then 1
 else if qU g [x.by_,x.device]≠0\/x.folder≠g.folder\/iA x.f g.last=false\/x.pub≠((yr g x.device).getD (0,0)).2\/Hl (JF x)=false\/x.olds.any (λo=> !decide (zo o.w=0))=true then 260
 else if pA Z ((yr g x.by_).getD (0,0)).1 (cI (CE Z x)) x.sr x.ss=true then 0 else 222
noncomputable def Bl (Z:Fx) (g:Gp) (x:Ir):Int:=
 if qU g [x.by_]=1 then 1
 else if qU g [x.by_]≠0\/iA x.g g.last=false\/x.body.length≠48 then 260
 else if pA Z ((yr g x.by_).getD (0,0)).1 (cI (CF Z x)) x.sr x.ss=true then 0 else 222
theorem Tr{b:Int}(h:qU g [a,b]=0):∃m1 m2,yr g a=some m1/\yr g b=some m2/\Hj g [a,b]=[m1,m2]:=by
 have h2:=h;unfold qU at h2;split at h2
 ·cases h2
 split at h2
 ·rename_i ha;simp only[List.all_cons,List.all_nil,Bool.and_true,mO,Option.isSome_iff_exists]at ha;obtain⟨⟨m1,h3⟩,m2,h4⟩:=ha;exact⟨m1,m2,h3,h4,by unfold Hj Dz;rw[if_pos h];simp[h3,h4]⟩
 cases h2
theorem Ts(h:qU g [a]=0):∃m1,yr g a=some m1/\Hj g [a]=[m1]:=by
 have h2:=h;unfold qU at h2;split at h2
 ·cases h2
 split at h2
 ·rename_i ha;simp only[List.all_cons,List.all_nil,Bool.and_true,Option.isSome_iff_exists]at ha;obtain⟨m1,h3⟩:=ha;exact⟨m1,h3,by unfold Hj Dz;rw[if_pos h];simp[h3]⟩
 cases h2
theorem Po(g:Gp)(l:List Int):qU g l=1\/qU g l=2\/qU g l=0:=by unfold qU;split;(simp);split<;>simp
theorem noo{b:Nat}{fr:Nat×Nat}{xs:List Int}{cs:Array Value}(h:W.heap[b]? =some (.cells cs t fr))(he:cs=(xs.map ab).toArray):ai encI 1 W.heap.size W (ao b) xs:=by subst he;exact Fp h
theorem Sen.old{a0 a1:Addr}(h:Sen w a0 a1)(hS:St Gh.no L [] W)(hw:w∈L):Sen W a0 a1:=by
 obtain⟨⟨t,fr,h1⟩,⟨t',C7,h2⟩,⟨c,t2,h3⟩,⟨c',t3,h4⟩,h5⟩:=h;exact⟨⟨t,fr,hS.old hw h1 zI trivial⟩,⟨t',C7,hS.old hw h2 zI trivial⟩,⟨c,t2,hS.old hw h3 zI trivial⟩,⟨c',t3,hS.old hw h4 zI trivial⟩,h5⟩
theorem nyl(hZ:FxOk Z)(G:Gv)(x:Gr)(hx:pR x)(N:Nat)(w:World)(hN:N<=w.heap.size)(hG:cj N w G)(hA:sE N w x)(hg:Glb w)(a0 a1:Addr)(hse:Sen w a0 a1):Calls prog 39 #[.agg (bF G),.agg (tX x)] w (aP w (ab (wF Z G.g x))):=by
 have hg4:=hg.lt;obtain⟨tg0,fg0,hg0⟩:=hse.g0;refine eN func39 ntmps39 ?_;refine cH 2 ?_;intro b2 w2 dw bX fB dJ dH;refine yX ?_;intro b3 w3 dA cX fT eC ff;refine Y7 ?_;refine aE 1 (ab x.by_) ?_;refine aE 1 (ab x.device) ?_;refine Jb ?_;refine yV ?_;intro eI w14 akJ akK apQ aaW akL;refine nH (enc:=Bj) (m:=2) (t:=180) (xs:=Hj G.g [x.by_,x.device]) (v:=λs=>.tuple #[s,erV a0 a1 (qU G.g [x.by_,x.device])]) (first:=[]) (cap:=[]) rfl call68 rfl rfl rfl nSh (λW hS=>?_) ?_
 ·have sF:=hS.old A0 akJ akK trivial;exact nFo G W.heap.size W (aj _) (hG.up cJ hS.sm) [x.by_,x.device] zJ (ao eI) 2 (noo sF rfl) a0 a1 (hse.old hS A3)
 intro W9 a9 Fg Jo cC xY jQ kC;refine B 9 ?_;rcases Po G.g [x.by_,x.device]with hE|hE|hE
 ·rw[hE];refine B 2 ?_;refine zhf ?_;refine aK results39 rfl A4 ?_;exact congrArg ab (Eq.symm (by unfold wF;rw[if_pos hE]))
 ·rw[hE];refine z0f ?_;refine B 12 ?_;refine CJ.dj zO ?_;refine fA 0 27 (pb:=by exact zU 1 (k:=by exact aJ (X.v (Hm underlying173 rfl rfl)) zT)) (k:=?_);refine zHf ?_;refine fA 32 35 (k:=?_);refine zAf ?_;refine zef ?_;exact congrArg ab (Eq.symm (by unfold wF;rw[if_neg aa,if_pos (.inl aa)]))
 rw[hE];obtain⟨m1,m2,Tt,aaY,hfd⟩:=Tr hE;rw[hfd]at jQ ⊢;obtain⟨bo,oo,cs0,to,fC,rfl,fE,bW,aS⟩:=jQ.get zJ;refine zWf ?_;refine B 12 ?_;by_cases k1:x.folder≠G.g.folder
 ·refine CJ.dj zO ?_;refine fA 0 27 (pb:=by exact zU 7 (k:=by exact aJ (X.v (RV.re (v':=bZ) (dz rfl rfl) (vb DA))) zT)) (sp:=(_::_::_::_::(some (ab x.folder))::_::(some (ab G.g.folder))::_)) (k:=?_);refine zHf ?_;refine fA 32 35 (k:=?_);refine zAf ?_;refine zef ?_;exact congrArg ab (Eq.symm (by unfold wF;rw[if_neg aa,if_pos (.inr (.inl k1))]))
 by_cases k2:iA x.f G.g.last=false
 ·refine CJ.dj zO ?_;refine fA 0 27 (pb:=by exact zU 7 (k:=by exact aJ (X.v (RV.re (v':=bG) (dz rfl rfl) (vb DA))) (zU 6 (k:=by exact aJ (X.v (RV.re (v':=bZ) (dT nO zA nF rfl rfl rfl) (congrArg (λb=>Value.bool (!b)) k2))) zT)))) (sp:=[_,_,_,_,some (ab x.folder),_,some (ab G.g.folder),_,_,_,_,some (.agg (dg x.f)),_,some (.agg (dg G.g.last)),_,_,_,_,_,_,_,_,_,_,_,_,_]) (k:=?_);refine zHf ?_;refine fA 32 35 (k:=?_);refine zAf ?_;refine zef ?_;exact congrArg ab (Eq.symm (by unfold wF;rw[if_neg aa,if_pos (.inr (.inr (.inl k2)))]))
 by_cases k3:x.pub≠m2.2
 ·refine CJ.dj zO ?_;refine fA 0 27 (pb:=by exact zU 7 (k:=by exact aJ (X.v (RV.re (v':=bG) (dz rfl rfl) (vb DA))) (zU 6 (k:=by exact aJ (X.v (RV.re (v':=bG) (dT nO zA nF rfl rfl rfl) (congrArg (λb=>Value.bool (!b)) (by simpa using k2)))) (zU 5 (k:=by exact aJ (X.v (bK underlying171 sizeOf180 rfl rfl zJ zJ)) (zU 1 (k:=by exact aJ (X.v (ar (v:=ab m2.2) isAgg3 rfl A0 bW zI trivial zKc)) (aJ (X.v (RV.re (v':=bZ) (dz rfl rfl) (vb DA))) zT))))))))) (sp:=[_,_,_,_,some (ab x.folder),_,some (ab G.g.folder),_,_,_,_,some (.agg (dg x.f)),_,some (.agg (dg G.g.last)),_,_,_,_,some (ab x.pub),_,_,_,_,_,_,_,_]) (k:=?_);refine zHf ?_;refine fA 32 35 (k:=?_);refine zAf ?_;refine zef ?_;exact congrArg ab (Eq.symm (by unfold wF;rw[if_neg aa,if_pos (.inr (.inr (.inr (.inl (by rw[aaY];exact k3)))))]))
 by_cases k4:Hl (JF x)=false
 ·refine CJ.dj zO ?_;refine fA 0 27 (pb:=by exact zU 7 (k:=by exact aJ (X.v (RV.re (v':=bG) (dz rfl rfl) (vb DA))) (zU 6 (k:=by exact aJ (X.v (RV.re (v':=bG) (dT nO zA nF rfl rfl rfl) (congrArg (λb=>Value.bool (!b)) (by simpa using k2)))) (zU 5 (k:=by exact aJ (X.v (bK underlying171 sizeOf180 rfl rfl zJ zJ)) (zU 1 (k:=by exact aJ (X.v (ar (v:=ab m2.2) isAgg3 rfl A0 bW zI trivial zKc)) (aJ (X.v (RV.re (v':=bG) (dz rfl rfl) (vb DA))) zT))))))))) (sp:=[_,_,_,_,some (ab x.folder),_,some (ab G.g.folder),_,_,_,_,some (.agg (dg x.f)),_,some (.agg (dg G.g.last)),_,_,_,_,some (ab x.pub),_,_,_,_,_,_,_,some (.agg (tX x))]) (k:=?_);refine zrd ?_;intro W7 a7 Dc wk7 CG Pp ko od;refine B 1 ?_;refine PJ.dj ?_;refine DJ.one (n:=28) rfl zO ?_;refine call (v:=.bool false) call72 rfl rfl rfl (λW hS=>by have h9:=nzf (JF x) (by have:=hx.few;unfold JF;rw[eO];omega) W.heap.size a7 Dc W (aj _) (ko.up (hS.links wk7 A0).size (hS.same A0 (aj _) zH trivial));rw[k4]at h9;exact h9) ?_;refine B 1 ?_;refine z6e ?_;refine fA 32 35 (k:=?_);refine zAf ?_;refine DJ.done ?_;refine B 9 ?_;refine aK results39 rfl A5 ?_;exact congrArg ab (Eq.symm (by unfold wF;rw[if_neg aa,if_pos (.inr (.inr (.inr (.inr (.inl k4)))))]))
 by_cases k5:x.olds.any (λo=> !decide (zo o.w=0))=true
 ·refine CJ.dj zO ?_;refine fA 0 27 (pb:=by exact zU 7 (k:=by exact aJ (X.v (RV.re (v':=bG) (dz rfl rfl) (vb DA))) (zU 6 (k:=by exact aJ (X.v (RV.re (v':=bG) (dT nO zA nF rfl rfl rfl) (congrArg (λb=>Value.bool (!b)) (by simpa using k2)))) (zU 5 (k:=by exact aJ (X.v (bK underlying171 sizeOf180 rfl rfl zJ zJ)) (zU 1 (k:=by exact aJ (X.v (ar (v:=ab m2.2) isAgg3 rfl A0 bW zI trivial zKc)) (aJ (X.v (RV.re (v':=bG) (dz rfl rfl) (vb DA))) zT))))))))) (sp:=[_,_,_,_,some (ab x.folder),_,some (ab G.g.folder),_,_,_,_,some (.agg (dg x.f)),_,some (.agg (dg G.g.last)),_,_,_,_,some (ab x.pub),_,_,_,_,_,_,_,some (.agg (tX x))]) (k:=?_);refine zrd ?_;intro W7 a7 Dc wk7 CG Pp ko od;refine B 1 ?_;refine zxd ?_;refine B 1 ?_;refine z6e ?_;refine fA 32 35 (sp:=[_,some (.slice x.oa x.olds.length x.oc),_]) (k:=?_);refine DJ.one (n:=35) rfl zO ?_;refine call (v:=.bool true) call74 rfl rfl rfl (λW hS=>by have h9:=nqf (λo=> !decide (zo o.w=0)) 70 [] call70 x.olds (by have:=hx.few;omega) N x.oa x.oc W cJ (hA.ol.up (aj _) hS.sm) (λj y hy W2 hB=>nam y W2);rw[k5]at h9;exact h9) ?_;refine z5f ?_;refine B 9 ?_;refine aK results39 rfl A5 ?_;exact congrArg ab (Eq.symm (by unfold wF;rw[if_neg aa,if_pos (.inr (.inr (.inr (.inr (.inr k5)))))]))
 refine CJ.dj zO ?_;refine fA 0 27 (pb:=by exact zU 7 (k:=by exact aJ (X.v (RV.re (v':=bG) (dz rfl rfl) (vb DA))) (zU 6 (k:=by exact aJ (X.v (RV.re (v':=bG) (dT nO zA nF rfl rfl rfl) (congrArg (λb=>Value.bool (!b)) (by simpa using k2)))) (zU 5 (k:=by exact aJ (X.v (bK underlying171 sizeOf180 rfl rfl zJ zJ)) (zU 1 (k:=by exact aJ (X.v (ar (v:=ab m2.2) isAgg3 rfl A0 bW zI trivial zKc)) (aJ (X.v (RV.re (v':=bG) (dz rfl rfl) (vb DA))) zT))))))))) (sp:=[_,_,_,_,some (ab x.folder),_,some (ab G.g.folder),_,_,_,_,some (.agg (dg x.f)),_,some (.agg (dg G.g.last)),_,_,_,_,some (ab x.pub),_,_,_,_,_,_,_,some (.agg (tX x))]) (k:=?_);refine zrd ?_;intro W7 a7 Dc wk7 CG Pp ko od;refine B 1 ?_;refine zxd ?_;refine B 1 ?_;refine z6e ?_;refine fA 32 35 (sp:=[_,some (.slice x.oa x.olds.length x.oc),_]) (k:=?_);refine DJ.one (n:=35) rfl zO ?_;refine call (v:=.bool false) call74 rfl rfl rfl (λW hS=>by have h9:=nqf (λo=> !decide (zo o.w=0)) 70 [] call70 x.olds (by have:=hx.few;omega) N x.oa x.oc W cJ (hA.ol.up (aj _) hS.sm) (λj y hy W2 hB=>nam y W2);rw[show x.olds.any (λo=> !decide (zo o.w=0))=false by simpa using k5]at h9;exact h9) ?_;refine z5f ?_;refine B 6 ?_;have jr:∀o∈x.olds,o.w.body.length<=65552:=λo ho=>by
  have h8:x.olds.any (λo=> !decide (zo o.w=0))=false:=by simpa using k5
  have h9:=List.any_eq_false.1 h8 o ho;exact(nw.1 (by simpa using h9)).2.2
 refine eS 8 5 [] (pb:=by exact zU 1 (k:=by exact aJ (X.v (bK underlying171 sizeOf180 rfl rfl zJ zJ)) (zU 1 (k:=by exact aJ (X.v (ar (v:=ab m1.1) isAgg3 rfl A1 bW zI trivial (by have:=vh (enc:=λx:Mm=>(Bj x).toArray) (n:=2) aS (i:=0) (show[m1,m2][0]? =some m1 from rfl) rfl 0 zA;simpa[Bj]using this))) zT)))) (sp:=[_,_,_,_,some (.agg (tX x)),_,_,some (.agg #[ab x.sr,ab x.ss])]) (h:=?_);intro _ _ hk;refine nv (α:=Nat) (v:=λb=>.slice (ao b) 32 32) (Φ:=λW b w1=>W.heap.size<=b/\w1.heap[b]? =some (oC (dg (CE Z x)) 33)) call76 rfl rfl rfl (λW hS=>nLo hZ x hx jr N W cJ (hA.up (aj _) hS.sm) (hg.old hS A5 zH trivial)) ?_;rintro Wm bm wm wU KW ⟨hq0,oW⟩;refine zE ?_;refine call (v:=.bool (pA Z m1.1 (cI (CE Z x)) x.sr x.ss)) call75 rfl rfl rfl (λW hS=>by have h9:=n1c hZ m1.1 x.sr x.ss (cI (CE Z x)) bm 0 32 (by rw[nS];decide) W (cx.dg (hS.old A0 oW zI trivial) (hZ.byt _ _)) (hg.old hS A6 zH trivial);rw[nS]at h9;exact h9) ?_;refine aG 3 ?_ ?_
 ·intro av;refine B 7 ?_;refine aK results39 rfl A6 ?_;exact congrArg ab (Eq.symm zRb)
 intro av;refine B 8 ?_;refine aK results39 rfl A6 ?_;exact congrArg ab (Eq.symm zRb)
theorem nuk(hZ:FxOk Z)(G:Gv)(x:Ir)(hx:ku x)(N:Nat)(w:World)(hN:N<=w.heap.size)(hG:cj N w G)(rk:gF N w x.ba x.body)(hg:Glb w)(a0 a1:Addr)(hse:Sen w a0 a1):Calls prog 40 #[.agg (bF G),.agg (Bi x)] w (aP w (ab (Bl Z G.g x))):=by
 have hg4:=hg.lt;obtain⟨tg0,fg0,hg0⟩:=hse.g0;refine eN func40 ntmps40 ?_;refine cH 2 ?_;intro b2 w2 dw bX fB dJ dH;refine yX ?_;intro b3 w3 dA cX fT eC ff;refine Y7 ?_;refine aE 1 (ab x.by_) ?_;refine Jb ?_;refine yV ?_;intro gB XT Ka Kb XU uZ yQ;refine nH (enc:=Bj) (m:=2) (t:=180) (xs:=Hj G.g [x.by_]) (v:=λs=>.tuple #[s,erV a0 a1 (qU G.g [x.by_])]) (first:=[]) (cap:=[]) rfl call68 rfl rfl rfl nSh (λW hS=>?_) ?_
 ·have sF:=hS.old A0 Ka Kb trivial;exact nFo G W.heap.size W (aj _) (hG.up cJ hS.sm) [x.by_] zJ (ao gB) 1 (noo sF rfl) a0 a1 (hse.old hS A3)
 intro W9 a9 Fg Jo cC xY jQ kC;refine B 9 ?_;rcases Po G.g [x.by_]with hE|hE|hE
 ·rw[hE];refine B 2 ?_;refine zhf ?_;refine aK results40 rfl A4 ?_;exact congrArg ab (Eq.symm (by unfold Bl;rw[if_pos hE]))
 ·rw[hE];refine z0f ?_;refine B 9 ?_;refine rv rfl rfl rfl (Hm underlying173 rfl rfl) ?_;refine B 23 ?_;refine aK results40 rfl A4 ?_;exact congrArg ab (Eq.symm (by unfold Bl;rw[if_neg aa,if_pos (.inl aa)]))
 rw[hE];obtain⟨m1,Tt,hfd⟩:=Ts hE;rw[hfd]at jQ ⊢;obtain⟨bo,oo,cs0,to,fC,rfl,fE,bW,aS⟩:=jQ.get zJ;refine zWf ?_;refine B 7 ?_;by_cases k2:iA x.g G.g.last=false
 ·refine aE 5 (.agg (dg x.g)) ?_;refine aE 1 (.agg (dg G.g.last)) ?_;refine rq bZ (dT nO zA nF rfl rfl rfl) (congrArg (λb=>Value.bool (!b)) k2) ?_;refine B 17 ?_;refine aK results40 rfl A4 ?_;exact congrArg ab (Eq.symm (by unfold Bl;rw[if_neg aa,if_pos (.inr (.inl k2))]))
 by_cases k3:x.body.length≠48
 ·refine zRf ?_;refine rq bZ (dz rfl rfl) (vb DA) ?_;refine B 11 ?_;refine aK results40 rfl A4 ?_;exact congrArg ab (Eq.symm (by unfold Bl;rw[if_neg aa,if_pos (.inr (.inr k3))]))
 refine zRf ?_;refine rq bG (dz rfl rfl) (vb DA) ?_;refine B 8 ?_;refine eS 8 5 [] (pb:=by exact zU 1 (k:=by exact aJ (X.v (bK underlying171 sizeOf180 rfl rfl zJ zJ)) (zU 1 (k:=by exact aJ (X.v (ar (v:=ab m1.1) isAgg3 rfl A0 bW zI trivial (by have:=vh (enc:=λx:Mm=>(Bj x).toArray) (n:=2) aS (i:=0) (show[m1][0]? =some m1 from rfl) rfl 0 zA;simpa[Bj]using this))) zT)))) (sp:=[_,_,_,_,some (.agg (Bi x)),_,_,some (.agg #[ab x.sr,ab x.ss])]) (h:=?_);intro _ _ hk;refine nv (α:=Nat) (v:=λb=>.slice (ao b) 32 32) (Φ:=λW b w1=>W.heap.size<=b/\w1.heap[b]? =some (oC (dg (CF Z x)) 33)) call77 rfl rfl rfl (λW hS=>nWp hZ x hx (by have h9:=Classical.not_not.1 k3;omega) N W cJ (rk.up (aj _) hS.sm) (hg.old hS A4 zH trivial)) ?_;rintro Wm bm wm wU KW ⟨hq0,oW⟩;refine zE ?_;refine call (v:=.bool (pA Z m1.1 (cI (CF Z x)) x.sr x.ss)) call75 rfl rfl rfl (λW hS=>by have h9:=n1c hZ m1.1 x.sr x.ss (cI (CF Z x)) bm 0 32 (by rw[nS];decide) W (cx.dg (hS.old A0 oW zI trivial) (hZ.byt _ _)) (hg.old hS A5 zH trivial);rw[nS]at h9;exact h9) ?_;refine aG 3 ?_ ?_
 ·intro av;refine B 7 ?_;refine aK results40 rfl A5 ?_;exact congrArg ab (Eq.symm znc)
 intro av;refine B 8 ?_;refine aK results40 rfl A5 ?_;exact congrArg ab (Eq.symm znc)
theorem Sen.oldG{a0 a1:Addr}{G:Gh}{H:ad}(h:Sen w a0 a1)(hS:St G L H W)(hw:w∈L)(hX:∀k,k<w.heap.size->¬G.X k)(hO:Over w.heap.size H):Sen W a0 a1:=by
 have hs:=hS.same hw (aj _) hX hO;have key:∀{b:Nat} {o:Obj},w.heap[b]? =some o->W.heap[b]? =some o:=λ{b o} hb=>(hs b (bA.1 hb).1).trans hb;obtain⟨⟨t,fr,h1⟩,⟨t',C7,h2⟩,⟨c,t2,h3⟩,⟨c',t3,h4⟩,h5⟩:=h;exact⟨⟨t,fr,key h1⟩,⟨t',C7,key h2⟩,⟨c,t2,key h3⟩,⟨c',t3,key h4⟩,h5⟩
def fnA (ps:List Ap) (f:Nat->Int):Option Ap:=ps.find? λp=>iA p.2.2.2.last f
theorem Ho(pls:List Pl)(f:Nat->Int):fnA (pls.map aV) f=(gJ pls f).map aV:=by
 unfold fnA gJ;rw[List.find?_map];rfl
noncomputable def Hp (ps:List Ap) (pub:Int) (o:Ol):List (List Se×Se):=if(fnA ps o.f).isSome=true then[([aO pub],aT (dk o.f))]else[]
noncomputable def Bm (Z:Fx) (ps:List Ap) (x:Gr):List (List Se×Se):=match fnA ps x.f with|some p=>if wF Z p.2.2.2 x=0 then x.olds.flatMap (Hp ps x.pub)else[]|none=>[]
noncomputable def DB (Z:Fx) (ps:List Ap) (x:Ir):List (List Se×Se):=match fnA ps x.g with|some p=>if Bl Z p.2.2.2 x=0 then[([aT (dk x.f)],aT (dk x.g))]else[]|none=>[]
noncomputable def oJ (Z:Fx) (cs:List Cm) (fos:List Fo) (gs:List Gr) (xs:List Ir):List (List Se×Se):=
 (eQ Z cs fos).flatMap iL++gs.flatMap (Bm Z (eQ Z cs fos))++xs.flatMap (DB Z (eQ Z cs fos))
theorem Tu{x:Gr}(h:gJ pls x.f=none):Bm Z (pls.map aV) x=[]:=by unfold Bm;rw[Ho,h];rfl
theorem npo{x:Gr}(h:gJ pls x.f=some p)(hc:wF Z p.x.g x≠0):Bm Z (pls.map aV) x=[]:=by unfold Bm;rw[Ho,h];exact if_neg hc
theorem Tv{x:Gr}(h:gJ pls x.f=some p)(hc:wF Z p.x.g x=0):Bm Z (pls.map aV) x=x.olds.flatMap (Hp (pls.map aV) x.pub):=by unfold Bm;rw[Ho,h];exact if_pos hc
theorem Tw{x:Ir}(h:gJ pls x.g=none):DB Z (pls.map aV) x=[]:=by unfold DB;rw[Ho,h];rfl
theorem Mo{x:Ir}(h:gJ pls x.g=some p)(hc:Bl Z p.x.g x≠0):DB Z (pls.map aV) x=[]:=by unfold DB;rw[Ho,h];exact if_neg hc
theorem Tx{x:Ir}(h:gJ pls x.g=some p)(hc:Bl Z p.x.g x=0):DB Z (pls.map aV) x=[([aT (dk x.f)],aT (dk x.g))]:=by unfold DB;rw[Ho,h];exact if_pos hc
theorem Mr{pub:Int}{o:Ol}(h:(gJ pls o.f).isSome=true):Hp (pls.map aV) pub o=[([aO pub],aT (dk o.f))]:=by unfold Hp;rw[Ho,Option.isSome_map,if_pos h]
theorem Ty{pub:Int}{o:Ol}(h:(gJ pls o.f).isSome=false):Hp (pls.map aV) pub o=[]:=by unfold Hp;rw[Ho,Option.isSome_map,h];rfl
theorem nRm{ds:List Dv}{s to:Se}{b c:Nat}(h:∀d∈ds,yq F d):∀d∈ds++[(⟨[s],to,some ⟨b,0,none⟩,c⟩:Dv)],yq ((b,oC (seA s) t)::F) d:=by
 intro d hd;rcases aY.1 hd with hd|hd
 ·exact(h d hd).mono λq hq=>.tail _ hq
 rw[gh.1 hd];refine⟨by simp,.inr ⟨b,0,_,_,_,rfl,.head _,λi hi=>?_⟩⟩;have h0:i=0:=by simp only[dO,fO]at hi;omega
 subst h0;exact⟨aj _,rfl⟩
theorem Tz(hZ:FxOk Z)(cs:List Cm)(bW:cs.length<=1000)(dE:∀c∈cs,bN c)(N:Nat)(la:Option Addr)(lc:Nat)(w:World)(hN:N<=w.heap.size)(aH:ai cM 73 N w la cs)(hC:∀c∈cs,dB N w c)(fa:Option Addr)(fos:List Fo)(fc:Nat)(jl:fos.length<=10)(mA:cs.length<=10)(qT:ai qR 33 N w fa fos)(ga:Option Addr)(gs:List Gr)(gc:Nat)(Qs:gs.length<=10)(hgs:ai tX 39 N w ga gs)(Ms:∀g∈gs,pR g)(hgA:∀g∈gs,sE N w g)(ia:Option Addr)(xs:List Ir)(ic:Nat)(lM:xs.length<=10)(his:ai Bi 68 N w ia xs)(hii:∀x∈xs,ku x)(xw:∀x∈xs,gF N w x.ba x.body)(o1 o5 o6 o7:Value)(hg:Glb w)(a0 a1:Addr)(hse:Sen w a0 a1):Calls prog 47 #[.agg #[.slice fa fos.length fc,o1,.slice la cs.length lc,.slice ga gs.length gc,.slice ia xs.length ic,o5,o6,o7]] w (λe w'=>∃(ds:List Dv) (r:Rw) (F':ad),e= .returned (r.val ds.length)/\Below w.heap.size w w'/\r.ge w.heap.size/\r.Fit 36 ds/\r.At iD 142 ds w'/\(∀p∈F',w.heap.size<=p.1/\w'.heap[p.1]? =some p.2/\¬r.isAt p.1)/\ds.map hJ=oJ Z cs fos gs xs/\(∀d∈ds,yq F' d)/\ds.length<=21000):=by
 have hg4:=hg.lt;refine nB (dF []) [] (vs:=[_]) func47 rfl ntmps47 rfl (Lm w) ?_;refine cH 2 ?_;intro b1 w1 hb1 cK gS fX jK;refine B 5 ?_;refine zHe ?_;refine Pd (γ:=(Option Addr×Nat)×List Pl) (v:=λq=>.slice q.1.1 q.2.length q.1.2) (Φ:=λF' q=>q.2.map aV=eQ Z cs fos/\(∀p∈q.2,Du F' p/\p.c∈cs)/\q.2.length<=100/\iK (λx=>(Ak x).toArray) 111 F' q.1.1 q.2) call30 rfl rfl rfl (λW hS=>nbi hZ cs bW dE N la lc W cJ (aH.up (aj _) hS.sm) (λc hc=>(hC c hc).up (aj _) hS.sm) fa fos fc jl mA (qT.up (aj _) hS.sm) o1 _ _ o5 o6 o7 (hg.old hS A1 zH trivial)) ?_;rintro⟨⟨pa,yt⟩,pls⟩ F1 ⟨lQ,DC,gj,yu⟩ wB;dsimp only at lQ DC gj yu ⊢;have yu:iK kU 111 F1 pa pls:=yu;obtain⟨F0,WK⟩:∃F0,F1++[]=F0:=⟨_,rfl⟩;rw[WK];have yu:iK kU 111 F0 pa pls:=yu.mono (λq hq=>WK▸aY.2 (.inl hq));have DC:∀p∈pls,Du F0 p/\p.c∈cs:=λp hp=>⟨(DC p hp).1.mono (λq hq=>WK▸aY.2 (.inl hq)),(DC p hp).2⟩;have akR:∀q∈F0,w.heap.size<=q.1:=λq hq=>by rw[<-WK,ee]at hq;exact(wB q hq).mem w A1
 refine bH 1 ?_;intro b3 eC ff;refine B 18 ?_;refine CJ.loop (α:=((Rw×List Dv)×ad)×Nat) (λp9=>[(1,ptr b1 0),(2,p9.1.1.1.val p9.1.1.2.length),(4,.func (.func 92) #[] #[ptr b3 0]),(22,.slice pa pls.length yt),(23,ab (pls.length:Int)),(24,ab (p9.2:Int))]) (λp9=>[(b3,oC #[.slice pa pls.length yt] 89)]++(p9.1.1.1.hp iD 142 p9.1.1.2++[])) (λp9=>[w1,w]) (λp9=>dF p9.1.2) (λp9=>p9.2<=pls.length/\p9.1.1.1.Fr (dF p9.1.2) [w1,w]/\p9.1.1.1.Fit 36 p9.1.1.2/\p9.1.1.2.map hJ=(pls.take p9.2).flatMap (λp=>iL (aV p))/\(∀d∈p9.1.1.2,yq p9.1.2 d)/\p9.1.1.2.length<=p9.2*200/\(∀q∈p9.1.2,w.heap.size<=q.1)/\∀q∈F0,q∈p9.1.2) (λp9=>pls.length-p9.2) (((.nil,[]),F0),0) ⟨cY _,True.intro,rfl,rfl,by simp,aj _,akR,λq hq=>hq⟩ zR rfl rfl zJ ?_;rintro⟨⟨⟨r,ds⟩,F⟩,i⟩ ⟨hi,aM,ae,aW,iP,uQ,dC,jb⟩;dsimp only at hi aM ae aW iP uQ dC jb ⊢;have bJ:r.ge w1.heap.size:=Rw.ge_fz aM A0;refine aG 6 ?_ ?_
 ·intro av;refine B 5 ?_;obtain⟨bp,op,csp,tp,frp,WT,BL,hcp⟩:=(yu.mono jb).get aa;obtain⟨p,hp⟩:=ng pls i aa;refine B 1 ?_;refine zMd ?_;refine bH 1 ?_;intro b6 ky ri;refine aE 5 (.agg (kU p)) ?_;refine Qx (α:=Nat) (v:=λb:Nat=>.func (.func 166) #[] #[ptr b 0]) (bo:=λb=>(b,oC (kU p) 92)) (Φ:=λ_=>True) call96 rfl rfl rfl (λW hS=>(nDj p W).mono (λe w1 h=>?_)) ?_
  ·obtain⟨b,h1,h2,h3,h4⟩:=h;exact⟨b,h1,h2,h3,trivial,h4⟩
  intro bd had hod _;dsimp only at had hod ⊢;replace had:=yb had;refine nIn (H0:=[(bd,oC (kU p) 92),(b6,oC (kU p) 92),(b3,oC #[.slice pa pls.length yt] 89)]) (H1:=[]) (r:=r) (xs:=ds) (enc:=iD) (m:=36) (t:=142) (γ:=List Dv) (ys:=λz=>ds++z) (v:=λz r'=>r'.val (ds++z).length) (Φ:=λF' z=>z.map hJ=iL (aV p)/\z.length<=200/\∀d∈z,yq F' d) (first:=[]) (cap:=[]) rfl aM rfl call95 rfl rfl rfl (λW hS=>?_) ?_
  ·have fJ:r.At iD 142 ds W:=by
    cases r with
    |nil=>trivial
    |row b c sp=>exact hS.own (b,_) oV
   have JV:=hS.own (bd,_) A0;have hwW:=(hS.links w A1).size;have Hq:=DC p (cA hp);have wo:=(hC p.c Hq.2).up (aj _) (hS.same A1 hN zH zD);have hFl:∀q∈F,q.1<W.heap.size/\W.heap[q.1]? =some q.2:=hS.fzLies;have L7:=(Hq.1.ns.mono jb).at hFl;have sV:∀k,k∈F.map (·.1)->¬r.isAt k:=λk hk hr=>by
    have h8:=Rw.mem_at (enc:=iD) (t:=142) (xs:=ds) hr;obtain⟨q,hq,rfl⟩:=bT.1 h8;exact hS.apart q (by simp[hq]) hk
   have I6:∀k,k<N->k<W.heap.size/\¬r.isAt k:=λk hk=>⟨by omega,λhr=>by have:=Rw.ge_at bJ hr;omega⟩;have TA:∀{α:Type} {enc:α->Array Value} {n:Nat} {a:Option Addr} {ys:List α} {k:Nat},ai enc n N W a ys->(ys≠ []/\∃off,a=some ⟨k,off,none⟩)->k<W.heap.size/\¬r.isAt k:=λ{α enc n a ys k} h hk=>by
    obtain⟨h1,off,h2⟩:=hk;rcases h with h|⟨b,off',eG,t',C7,e1,e2,_⟩
    ·exact absurd h h1
    rw[h2]at e1;cases e1;exact I6 _ e2
   refine(nCm (a:=aV p) (f:=166) (cap:=[ptr bd 0]) (RO:=SY bd p) call166 r ds W ae aa fJ (λk hk=>?_) (λW2 hB=>?_)).mono ?_
   ·rcases hk with rfl|⟨h1,off,h2⟩|hk|hk|hk
    ·exact⟨(bA.1 JV).1,λhr=>by
      have h8:=Rw.mem_at (enc:=iD) (t:=142) (xs:=ds) hr;simp only[bM,iu,im,eX,ee]at hod;exact(bM.mem hod.2.2) h8⟩
    ·rcases Hq.1.ns.mono jb with h|⟨b,off',eG,t',C7,e1,e2,_⟩
     ·exact absurd h h1
     rw[h2]at e1;cases e1;exact⟨(hFl _ e2).1,sV _ (bT.2 ⟨_,e2,rfl⟩)⟩
    ·exact TA wo.bxs hk
    ·exact TA wo.path hk
    exact TA wo.wes hk
   ·have up:∀{α:Type} {enc:α->Array Value} {n:Nat} {a:Option Addr} {ys:List α},ai enc n N W a ys->ai enc n W.heap.size W2 a ys:=λh=>h.up aa (λk hk=>hB.block k aa);exact(Mg p bd W.heap.size W2 hB.size (by rw[hB.block bd (bA.1 JV).1];exact JV) (L7.up (aj _) (λk hk=>hB.block k hk)) Hq.1.nn (up wo.bxs) (up wo.path) (up wo.wes) (dE p.c Hq.2).few).fin λys Z v h=>⟨h.1,λd hd=>(h.2 d hd).low hB.size⟩
   rintro e w' ⟨z,r',rfl,hk,jI,bP,akV,hz,B7⟩;obtain⟨F',h1,h2⟩:=Hd z B7;exact⟨z,r',F',rfl,hk,jI,bP,akV,λq hq=>⟨(h1 q hq).1,(h1 q hq).2.1,(h1 q hq).2.2⟩,hz.1,hz.2,h2⟩
  rintro z r' F' ⟨gS,fB,fT⟩ aa0 akW wD;refine zc ?_;refine ag (((r',ds++z),F'++F),i+1) ⟨by dsimp only;omega,akW,aa0,by dsimp only;rw[Dx hp,gL,aW,gS],λd hd=>(aY.1 hd).elim (λh=>(iP d h).mono (λq hq=>aY.2 (.inr hq))) (λh=>(fT d h).mono (λq hq=>aY.2 (.inl hq))),by dsimp only;rw[cO];omega,λq hq=>(aY.1 hq).elim (λh=>(wD q h).mem w A1) (dC q),λq hq=>aY.2 (.inr (jb q hq))⟩
 intro av;refine aE 9 (.slice ga gs.length gc) ?_;refine B 5 ?_;have hi0:i=pls.length:=by omega
 rw[hi0,uw]at aW;refine CJ.loop (α:=((Rw×List Dv)×ad)×Nat) (λp9=>[(1,ptr b1 0),(2,p9.1.1.1.val p9.1.1.2.length),(4,.func (.func 92) #[] #[ptr b3 0]),(34,.slice ga gs.length gc),(35,ab (gs.length:Int)),(36,ab (p9.2:Int))]) (λp9=>[(b3,oC #[.slice pa pls.length yt] 89)]++(p9.1.1.1.hp iD 142 p9.1.1.2++[])) (λp9=>[w1,w]) (λp9=>dF p9.1.2) (λp9=>p9.2<=gs.length/\p9.1.1.1.Fr (dF p9.1.2) [w1,w]/\p9.1.1.1.Fit 36 p9.1.1.2/\p9.1.1.2.map hJ=pls.flatMap (λp=>iL (aV p))++(gs.take p9.2).flatMap (Bm Z (pls.map aV))/\(∀d∈p9.1.1.2,yq p9.1.2 d)/\p9.1.1.2.length<=20000+p9.2*6/\(∀q∈p9.1.2,w.heap.size<=q.1)/\∀q∈F0,q∈p9.1.2) (λp9=>gs.length-p9.2) (((r,ds),F),0) ⟨cY _,aM,ae,by dsimp only;rw[aW];simp,iP,by dsimp only;omega,dC,jb⟩ zR rfl rfl zJ ?_;rintro⟨⟨⟨r,ds⟩,F⟩,i⟩ ⟨hi,aM,ae,aW,iP,uQ,dC,jb⟩;dsimp only at hi aM ae aW iP uQ dC jb ⊢;have bJ:r.ge w1.heap.size:=Rw.ge_fz aM A0;refine aG 6 ?_ ?_
 ·intro aR;refine B 5 ?_;obtain⟨bg,og,csg,tg,frg,rfl,Cy,aa1,kN⟩:=hgs.get aa;obtain⟨g,hgi⟩:=ng gs i aa;have qk:=cA hgi;have Pq:=Ms g qk;have hgf:=Pq.few;refine aE 2 (.agg (tX g)) ?_;refine bH 1 ?_;intro b8 CZ Jc;refine aE 7 (.agg (dg g.f)) ?_;refine CY (f:=92) (cap:=[ptr b3 0]) (v:=fnV (gJ pls g.f)) rfl call92 rfl rfl rfl (λW hS=>nSj pls aa g.f W.heap.size pa yt b3 W (aj _) (hS.own (b3,_) A1) ((yu.mono jb).at hS.fzLies)) ?_;refine aE 1 (.agg (kU ((gJ pls g.f).getD Bh))) ?_;refine dp (.bool (gJ pls g.f).isSome) ?_;refine bH 1 ?_;intro b9 xP uj;refine B 6 ?_;cases Mt:gJ pls g.f with
  |none=>
   refine aE 2 bZ ?_;refine B 18 ?_;refine vC ?_;refine ag (((r,ds),F),i+1) ⟨by dsimp only;omega,aM,ae,by dsimp only;rw[Dx hgi,aW];rw[Tu Mt];simp,iP,by dsimp only;omega,dC,jb⟩
  |some p=>
   have Hq:=DC p (WU Mt);refine Ji ?_;refine aE 2 (.agg (bF p.x)) ?_;refine dp (.agg (tX g)) ?_;refine call (v:=ab (wF Z p.x.g g)) call39 rfl rfl rfl (λW hS=>nyl hZ p.x g (Pq) W.heap.size W (aj _) ((Hq.1.x.mono jb).lies hS.fzLies) ((hgA g qk).up (by have:=(hS.links w A1).size;omega) (hS.same A1 hN zH zD)) (hg.old hS A1 zH zD) a0 a1 (hse.oldG hS A1 zH zD)) ?_;refine aG 4 ?_ ?_
   ·intro dm;refine zc ?_;exact zYg
   intro dm;refine B 3 ?_;have kD:wF Z p.x.g g=0:=by first|assumption|simp_all
   refine aE 2 (.slice g.oa g.olds.length g.oc) ?_;refine B 5 ?_;refine CJ.loop (α:=((Rw×List Dv)×ad)×Nat) (λp8=>[(1,ptr b1 0),(2,p8.1.1.1.val p8.1.1.2.length),(4,.func (.func 92) #[] #[ptr b3 0]),(8,ptr b8 0),(34,.slice (some ⟨bg,og,none⟩) gs.length gc),(35,ab (gs.length:Int)),(36,ab (i:Int)),(57,.slice g.oa g.olds.length g.oc),(58,ab (g.olds.length:Int)),(59,ab (p8.2:Int))]) (λp8=>[(b9,oC (kU p) 92),(b8,oC (tX g) 87),(b3,oC #[.slice pa pls.length yt] 89)]++(p8.1.1.1.hp iD 142 p8.1.1.2++[])) (λp8=>[w1,w]) (λp8=>dF p8.1.2) (λp8=>p8.2<=g.olds.length/\p8.1.1.1.Fr (dF p8.1.2) [w1,w]/\p8.1.1.1.Fit 36 p8.1.1.2/\p8.1.1.2.map hJ=pls.flatMap (λp=>iL (aV p))++(gs.take i).flatMap (Bm Z (pls.map aV))++(g.olds.take p8.2).flatMap (Hp (pls.map aV) g.pub)/\(∀d∈p8.1.1.2,yq p8.1.2 d)/\p8.1.1.2.length<=20000+i*6+p8.2/\(∀q∈p8.1.2,w.heap.size<=q.1)/\∀q∈F0,q∈p8.1.2) (λp8=>g.olds.length-p8.2) (((r,ds),F),0) ⟨cY _,aM,ae,by dsimp only;rw[aW];simp,iP,by dsimp only;omega,dC,jb⟩ zR rfl rfl zJ ?_;rintro⟨⟨⟨r,ds⟩,F⟩,j⟩ ⟨hj,aM,ae,aW,iP,uQ,dC,jb⟩;dsimp only at hj aM ae aW iP uQ dC jb ⊢;have bJ:r.ge w1.heap.size:=Rw.ge_fz aM A0;refine aG 6 ?_ ?_
   ·intro je;refine B 5 ?_;obtain⟨bq,oq,Ri,tq,Rj,eZ,pG,zf,qI⟩:=(hgA g qk).ol.get aa;obtain⟨o,ho⟩:=ng g.olds j aa;rw[eZ];refine aE 2 (.agg (vK o)) ?_;refine bH 1 ?_;intro iF EV EW;refine aE 7 (.agg (dg o.f)) ?_;refine CY (f:=92) (cap:=[ptr b3 0]) (v:=fnV (gJ pls o.f)) rfl call92 rfl rfl rfl (λW hS=>nSj pls aa o.f W.heap.size pa yt b3 W (aj _) (hS.own (b3,_) A3) ((yu.mono jb).at hS.fzLies)) ?_;refine aE 1 (.agg (kU ((gJ pls o.f).getD Bh))) ?_;refine dp (.bool (gJ pls o.f).isSome) ?_;refine bH 1 ?_;intro Vo yS BU;refine aG 9 ?_ ?_
    ·intro ib;refine eS 10 4 [8,9] (pb:=by exact zU 3 (k:=by exact aJ (nf call29 rfl rfl (λW hS _=>nMe _ W) (λ_=>rfl)) (zU 3 (k:=by exact aJ (nf call97 rfl rfl (λW hS _=>nKc _ W) (λ_=>rfl)) zT)))) (sp:=[_,_,some (ab g.pub),_,_,_,some (.agg (dg o.f)),_,_,_]) (h:=?_);intro _ _ hk;refine L5 ?_;intro bs qT iw;refine zG ?_;intro _ _ hk;refine dp (.agg (vG (⟨[(aO g.pub)],(aT (dk o.f)),some ⟨bs,0,none⟩,1⟩:Dv))) ?_;refine zG ?_;intro _ _ hk;refine zue ?_;intro bo sY iw;refine zE ?_;refine kz (r:=r) (xs:=ds) (zs:=[(⟨[(aO g.pub)],(aT (dk o.f)),some ⟨bs,0,none⟩,1⟩:Dv)]) (enc:=iD) (m:=36) (H0:=[(bo,oC (vG (⟨[(aO g.pub)],(aT (dk o.f)),some ⟨bs,0,none⟩,1⟩:Dv)) 142),(bs,oC (seA (aO g.pub)) 35),(Vo,oC (kU ((gJ pls o.f).getD Bh)) 92),(iF,oC (vK o) 119),(b9,oC (kU p) 92),(b8,oC (tX g) 87),(b3,oC #[.slice pa pls.length yt] 89)]) (H1:=[]) zX nEl GQ rfl rfl rfl rfl (cD.one (z:=(⟨[(aO g.pub)],(aT (dk o.f)),some ⟨bs,0,none⟩,1⟩:Dv)) GQ nxh underlying138 (bE.own (i:=0) rfl)) ae aM zJ y9 ?_;intro b81 akY aa2 TB TC;replace TB:=yb TB;refine B 8 ?_;refine V9 ?_;refine PJ.fz [(bs,oC (seA (aO g.pub)) 35)] (H':=[(Vo,oC (kU ((gJ pls o.f).getD Bh)) 92),(iF,oC (vK o) 119),(b9,oC (kU p) 92),(b8,oC (tX g) 87),(b3,oC #[.slice pa pls.length yt] 89)]++((b81,bj iD 142 (ds++[(⟨[(aO g.pub)],(aT (dk o.f)),some ⟨bs,0,none⟩,1⟩:Dv)]) aa2)::[])) (List.Perm.refl _) (by intro p hp;simp at hp;subst hp;exact qT) ?_
     refine vC ?_;refine ag (((Rw.row b81 akY aa2,ds++[(⟨[(aO g.pub)],(aT (dk o.f)),some ⟨bs,0,none⟩,1⟩:Dv)]),(bs,oC (seA (aO g.pub)) 35)::F),j+1) ⟨by dsimp only;omega,TB.elim (λh=>Rw.Fr_at aM h) (λh=>.inr h),TC,by dsimp only;rw[gL,aW];rw[Dx ho,Mr cV];simp[hJ],by dsimp only;exact nRm iP,by dsimp only;simp only[cO,dO,fO];omega,λq hq=>by rcases cd.1 hq with rfl|hq;(exact qT.mem w A1);exact dC q hq,λq hq=>.tail _ (jb q hq)⟩
    intro ib;refine LB ?_;refine ag (((r,ds),F),j+1) ⟨by dsimp only;omega,aM,ae,by dsimp only;rw[Dx ho,aW,Ty cV];simp,iP,by dsimp only;omega,dC,jb⟩
   intro je;refine B 10 ?_;refine vC ?_;exact zYg
 intro aR;refine aE 9 (.slice ia xs.length ic) ?_;refine B 5 ?_;have qD:i=gs.length:=by omega
 rw[qD,uw]at aW;refine CJ.loop (α:=((Rw×List Dv)×ad)×Nat) (λp9=>[(2,p9.1.1.1.val p9.1.1.2.length),(4,.func (.func 92) #[] #[ptr b3 0]),(85,.slice ia xs.length ic),(86,ab (xs.length:Int)),(87,ab (p9.2:Int))]) (λp9=>[(b3,oC #[.slice pa pls.length yt] 89)]++(p9.1.1.1.hp iD 142 p9.1.1.2++[])) (λp9=>[w1,w]) (λp9=>dF p9.1.2) (λp9=>p9.2<=xs.length/\p9.1.1.1.Fr (dF p9.1.2) [w1,w]/\p9.1.1.1.Fit 36 p9.1.1.2/\p9.1.1.2.map hJ=pls.flatMap (λp=>iL (aV p))++gs.flatMap (Bm Z (pls.map aV))++(xs.take p9.2).flatMap (DB Z (pls.map aV))/\(∀d∈p9.1.1.2,yq p9.1.2 d)/\p9.1.1.2.length<=20060+p9.2/\(∀q∈p9.1.2,w.heap.size<=q.1)/\∀q∈F0,q∈p9.1.2) (λp9=>xs.length-p9.2) (((r,ds),F),0) ⟨cY _,aM,ae,by dsimp only;rw[aW];simp,iP,by dsimp only;omega,dC,jb⟩ zR rfl rfl zJ ?_;rintro⟨⟨⟨r,ds⟩,F⟩,i⟩ ⟨hi,aM,ae,aW,iP,uQ,dC,jb⟩;dsimp only at hi aM ae aW iP uQ dC jb ⊢;have bJ:r.ge w1.heap.size:=Rw.ge_fz aM A0;refine aG 6 ?_ ?_
 ·intro kX;refine B 5 ?_;obtain⟨bx,ox,csx,tx,frx,rfl,yl,apS,apU⟩:=his.get aa;obtain⟨x,hxi⟩:=ng xs i aa;have QX:=cA hxi;refine aE 2 (.agg (Bi x)) ?_;refine bH 1 ?_;intro V5 apV apW;refine aE 7 (.agg (dg x.g)) ?_;refine CY (f:=92) (cap:=[ptr b3 0]) (v:=fnV (gJ pls x.g)) rfl call92 rfl rfl rfl (λW hS=>nSj pls aa x.g W.heap.size pa yt b3 W (aj _) (hS.own (b3,_) A1) ((yu.mono jb).at hS.fzLies)) ?_;refine aE 1 (.agg (kU ((gJ pls x.g).getD Bh))) ?_;refine dp (.bool (gJ pls x.g).isSome) ?_;refine bH 1 ?_;intro qv akZ ak0;refine B 5 ?_;cases Mt:gJ pls x.g with
  |none=>
   refine Ji ?_;refine B 16 ?_;refine vC ?_;refine ag (((r,ds),F),i+1) ⟨by dsimp only;omega,aM,ae,by dsimp only;rw[Dx hxi,aW,Tw Mt];simp,iP,by dsimp only;omega,dC,jb⟩
  |some p=>
   have Hq:=DC p (WU Mt);refine aE 2 bZ ?_;refine aE 1 (.agg (bF p.x)) ?_;refine dp (.agg (Bi x)) ?_;refine call (v:=ab (Bl Z p.x.g x)) call40 rfl rfl rfl (λW hS=>nuk hZ p.x x (hii x QX) W.heap.size W (aj _) ((Hq.1.x.mono jb).lies hS.fzLies) ((xw x QX).up (by have:=(hS.links w A1).size;omega) (hS.same A1 hN zH zD)) (hg.old hS A1 zH zD) a0 a1 (hse.oldG hS A1 zH zD)) ?_;refine aG 4 ?_ ?_
   ·intro jW;refine eS 10 4 [8,9] (pb:=by exact zU 3 (k:=by exact aJ (nf call97 rfl rfl (λW hS _=>nKc _ W) (λ_=>rfl)) (zU 3 (k:=by exact aJ (nf call97 rfl rfl (λW hS _=>nKc _ W) (λ_=>rfl)) zT)))) (sp:=[_,_,some (.agg (dg x.f)),_,_,_,some (.agg (dg x.g)),_,_,_]) (h:=?_);intro _ _ hk;refine L5 ?_;intro bs qT iw;refine zG ?_;intro _ _ hk;refine dp (.agg (vG (⟨[(aT (dk x.f))],(aT (dk x.g)),some ⟨bs,0,none⟩,1⟩:Dv))) ?_;refine zG ?_;intro _ _ hk;refine zue ?_;intro bo sY iw;refine zE ?_;refine kz (r:=r) (xs:=ds) (zs:=[(⟨[(aT (dk x.f))],(aT (dk x.g)),some ⟨bs,0,none⟩,1⟩:Dv)]) (enc:=iD) (m:=36) (H0:=[(bo,oC (vG (⟨[(aT (dk x.f))],(aT (dk x.g)),some ⟨bs,0,none⟩,1⟩:Dv)) 142),(bs,oC (seA (aT (dk x.f))) 35),(qv,oC (kU p) 92),(V5,oC (Bi x) 121),(b3,oC #[.slice pa pls.length yt] 89)]) (H1:=[]) zX nEl GQ rfl rfl rfl rfl (cD.one (z:=(⟨[(aT (dk x.f))],(aT (dk x.g)),some ⟨bs,0,none⟩,1⟩:Dv)) GQ nxh underlying138 (bE.own (i:=0) rfl)) ae aM zJ y9 ?_;intro aa3 aa4 Pr Hr Mu;replace Hr:=yb Hr;refine B 8 ?_;refine V9 ?_;refine PJ.fz [(bs,oC (seA (aT (dk x.f))) 35)] (H':=[(qv,oC (kU p) 92),(V5,oC (Bi x) 121),(b3,oC #[.slice pa pls.length yt] 89)]++((aa3,bj iD 142 (ds++[(⟨[(aT (dk x.f))],(aT (dk x.g)),some ⟨bs,0,none⟩,1⟩:Dv)]) Pr)::[])) (List.Perm.refl _) (by intro p hp;simp at hp;subst hp;exact qT) ?_
    refine vC ?_;refine ag (((Rw.row aa3 aa4 Pr,ds++[(⟨[(aT (dk x.f))],(aT (dk x.g)),some ⟨bs,0,none⟩,1⟩:Dv)]),(bs,oC (seA (aT (dk x.f))) 35)::F),i+1) ⟨by dsimp only;omega,Hr.elim (λh=>Rw.Fr_at aM h) (λh=>.inr h),Mu,by dsimp only;rw[gL,aW];rw[Dx hxi,Tx Mt zFc];simp[hJ],by dsimp only;exact nRm iP,by dsimp only;simp only[cO,dO,fO];omega,λq hq=>by rcases cd.1 hq with rfl|hq;(exact qT.mem w A1);exact dC q hq,λq hq=>.tail _ (jb q hq)⟩
   intro jW;refine LB ?_;refine ag (((r,ds),F),i+1) ⟨by dsimp only;omega,aM,ae,by dsimp only;rw[Dx hxi,aW,Mo Mt zFc];simp,iP,by dsimp only;omega,dC,jb⟩
 intro kX;refine B 12 ?_;have hi9:i=xs.length:=by omega
 rw[hi9,uw]at aW;refine bQ (.inl rfl) results47 bB λW hS=>?_;refine⟨ds,r,F,rfl,(hS.links w A1).below (λk hk hx=>by rcases hx with hx|hx;(exact hx);simp only[gL,dL,ft,im,eX,ee,cd]at hx;rcases hx with hx|hx;(omega);have:=Rw.mem_ge bJ hx;omega),Rw.ge_mono bJ aa,ae,?_,λp hp=>⟨dC p hp,(hS.fzLies p hp).2,λhr=>?_⟩,?_,iP,by omega⟩
 ·cases r with
  |nil=>trivial
  |row b c sp=>exact hS.own (b,_) oV
 ·have h8:=Rw.mem_at (enc:=iD) (t:=142) (xs:=ds) hr;obtain⟨q,hq,e⟩:=bT.1 h8;exact hS.apart q (by simp[hq]) (bT.2 ⟨p,hp,e.symm⟩)
 rw[aW];unfold oJ;rw[<-lQ,List.flatMap_map]
section
variable {C:Cx} {Q:bC} {E:Env} {D:List Deferred} {G:Gh} {L:List World} {H:ad} {ops:Array Oper} {l:List Oper}
variable {d ty f:Nat} {pos:String} {aC:Array Edge} {g:Option (Nat×Bool)} {fx:Operand} {xo:List Operand} {vs first cap:List Value} {eJ:Array Nat}
theorem nij{α:Type}{v:α->Value}{ob:α->Obj}{Φ:α->Prop}{i b:Nat}{o:Obj}(hi:H[i]? =some (b,o))(hx:ev E fx=some (.func (.func f) first.toArray cap.toArray))(aA:eU C.P f)(hw:nr ops E g=some true)(hN:Nat.blt d C.N=true)(ha:jy E xo=some vs)(hc:∀W,St G L H W->W.heap[b]? =some o->Calls C.P f (first++vs++cap).toArray W (λe w'=>∃z,e= .returned (v z)/\aQ (· =b) W w'/\w'.heap[b]? =some (ob z)/\Φ z))(k:∀z,Φ z->OJ C ops Q l ((d,v z)::E) D G L (H.set i (b,ob z))):OJ C ops Q (⟨some d,.call ⟨.value fx,xo.toArray,eJ⟩,ty,pos,aC,g⟩::l) E D G L H:=
 nK rfl hw hx ha zJ aA λa W jz hD hF hS=>(hc W hS (hS.own _ (cA hi))).mono (by
  rintro e W' ⟨z,rfl,hk,hb,hΦ⟩;exact k z hΦ (a.put (some d) (v z)) W' z8 z6 (hF.put _ z7) (hS.put hi hk hb))
end
theorem Hs{b c:Nat}{o p:Obj}(h:w.heap[b]? =some o)(h2:w.heap[c]? =some p)(hne:b≠c):St (Gh.lent (λk=>k=b\/k=c)) [w] [(b,o),(c,p)] w where
 ghost:=trivial
 vlt:=λ_ h=>h.elim
 xlt:=λk hk=>by rcases hk with rfl|rfl;(exact(bA.1 h).1);exact(bA.1 h2).1
 links:=λw' hw=>by rw[gh.1 hw];exact aQ.refl _ _
 own:=λq hq=>by
  simp only[cd,dV,or_false]at hq;rcases hq with rfl|rfl
  ·exact h
  exact h2
 nodup:=WV hne
 apart:=λ_ _ h=>h.elim
abbrev Kv:=List (Se×Bool)
def kB (kn:Kv) (s:Se):Bool:=(gN kn s).getD false
def jc (kn:Kv) (d:Dv):Bool:=kB kn d.to|| !(d.fr.any λs=> !kB kn s)
def gP (kn gv:Kv) (d:Dv):Kv:=if kB kn d.to=true then gv else if(d.fr.any λs=> !kB kn s)=true then gv else fZ gv d.to true
theorem aa5{kn gv:Kv}{d:Dv}(h:kB kn d.to=true):true=jc kn d/\gv=gP kn gv d:=by unfold jc gP;rw[h];exact⟨rfl,(if_pos rfl).symm⟩
theorem aa6{kn gv:Kv}{d:Dv}(h:kB kn d.to=false)(h2:(d.fr.any λs=> !kB kn s)=true):false=jc kn d/\gv=gP kn gv d:=by
 unfold jc gP;rw[h,h2];exact⟨rfl,rfl⟩
theorem aa7{kn gv:Kv}{d:Dv}(h:kB kn d.to=false)(h2:(d.fr.any λs=> !kB kn s)=false):true=jc kn d/\fZ gv d.to true=gP kn gv d:=by
 unfold jc gP;rw[h,h2];exact⟨rfl,rfl⟩
theorem TD(kn:Kv)(mk b5:Nat)(km:Mq)(CH:km.Ok kn)(w:World)(AP:w.heap[b5]? =some (oC #[.map (some mk)] 137))(hmk:w.heap[mk]? =some (km.obj cB Value.bool kn))(s:Se):Calls prog 51 #[cB s,ptr b5 0] w (aP w (.bool (!kB kn s))):=by
 have cK:¬Gh.no.X b5:=λh=>h;have hb1:=AP;have mw:=(bA.1 AP).1;have Jm:=(bA.1 hmk).1;refine eN func51 ntmps51 ?_;refine cH 2 ?_;intro b2 w2 dw bX fB dJ dH;refine B 5 ?_;refine rv rfl rfl rfl (ar (v:=.map (some mk)) isAgg137 rfl A1 AP cK True.intro rfl) ?_;refine dp (cB s) ?_;refine rq (.bool (kB kn s)) (rl (m:=km) (k:=s) underlying137 LX zeroValue4 CH (bE.old A1 hmk zI True.intro) rfl rfl) (nQh _) ?_;refine B 5 ?_;refine aK results51 rfl A1 ?_;rfl
theorem TE(kn:Kv)(mk b5:Nat)(km:Mq)(CH:km.Ok kn)(gd mg:Nat)(gm:Mq)(gv:Kv)(qk:gm.Ok gv)(d:Dv)(N:Nat)(w:World)(hN:N<=w.heap.size)(rQ:∀b off,d.fa=some ⟨b,off,none⟩->b≠mg)(AP:w.heap[b5]? =some (oC #[.map (some mk)] 137))(hmk:w.heap[mk]? =some (km.obj cB Value.bool kn))(ak2:w.heap[gd]? =some (oC #[.map (some mg)] 137))(DD:w.heap[mg]? =some (gm.obj cB Value.bool gv))(aH:ai seA 35 N w d.fa d.fr)(jl:d.fr.length<=1000)(n5:mg≠b5)(nk:mg≠mk)(n10:mg≠gd):Calls prog 49 #[.agg (vG d),ptr b5 0,ptr gd 0] w (λe w'=>e= .returned (.bool (jc kn d))/\∃vM:Mq,vM.Ok (gP kn gv d)/\aQ (· =mg) w w'/\w'.heap[mg]? =some (vM.obj cB Value.bool (gP kn gv d))):=by
 have wg:=(bA.1 DD).1;refine nB (Gh.lent (· =mg)) [(mg,gm.obj cB Value.bool gv)] (vs:=[_,_,_]) func49 rfl ntmps49 rfl (Ef DD) ?_;refine cH 2 ?_;intro b3 w3 dA cX fT eC ff;refine B 6 ?_;refine rv rfl rfl rfl (ar (v:=.map (some mk)) isAgg137 rfl A1 AP (λh=>n5 h.symm) ⟨n5,trivial⟩ rfl) ?_;refine aE 1 (cB d.to) ?_;refine rq (.bool (kB kn d.to)) (rl (m:=km) (k:=d.to) underlying137 LX zeroValue4 CH (bE.old A1 hmk (λh=>nk h.symm) ⟨nk,trivial⟩) rfl rfl) (nQh _) ?_;refine aG 2 ?_ ?_
 ·intro av;refine B 7 ?_;have h9:=aa5 (gv:=gv) cV;exact zZg
 intro av;refine aE 6 (.slice d.fa d.fr.length d.fc) ?_;refine B 1 ?_;refine call (v:=.bool (d.fr.any λs=> !kB kn s)) call50 rfl rfl rfl (λW hS=>?_) ?_
 ·have u5:=hS.old A1 AP (λh=>n5 h.symm) ⟨n5,trivial⟩;have uk:=hS.old A1 hmk (λh=>nk h.symm) ⟨nk,trivial⟩;exact ndj (λs=> !kB kn s) 51 [ptr b5 0] call51 d.fr aa W.heap.size d.fa d.fc W (aj _) (aH.toG hS A1 hN (λb off e=>.inr (λ_=>⟨λh=>rQ b off e h,λh=>rQ b off e h.symm,trivial⟩))) (λj x hx W2 hB=>TD kn mk b5 km CH W2 (by rw[hB.block b5 (bA.1 u5).1];exact u5) (by rw[hB.block mk (bA.1 uk).1];exact uk) x)
 refine aG 2 ?_ ?_
 ·intro aR;refine B 7 ?_;have h9:=aa6 (gv:=gv) cV cV;exact zZg
 intro aR;refine B 4 ?_;refine rv rfl rfl rfl (ar (v:=.map (some mg)) isAgg137 rfl A1 ak2 (λh=>n10 h.symm) ⟨n10,trivial⟩ rfl) ?_;refine aE 1 (cB d.to) ?_;refine Z2 (i:=0) (k:=d.to) (v:=true) rfl qk underlying137 LX rfl rfl rfl rfl ?_;intro m2 bX;refine B 8 ?_;have h9:=aa7 (gv:=gv) cV cV;refine bQ (.inl rfl) results49 bB λW hS=>⟨by rw[<-h9.1];rfl,m2,by rw[<-h9.2];exact bX,(hS.links w A1).mono λk _ hk=>?_,by rw[<-h9.2];exact hS.own _ A0⟩;exact zfh
def kP (st:Kv->Dv->Kv) (gv:Kv) (xs:List Dv) (n:Nat):Kv:=(xs.take n).foldl st gv
variable {st:Kv->Dv->Kv}
theorem Ps{gv:Kv}{xs:List Dv}{x:Dv}(hx:xs[j]? =some x):kP st gv xs (j+1)=st (kP st gv xs j) x:=by unfold kP;rw[np hx,Jk];rfl
theorem nsg{gv:Kv}{xs:List Dv}{n:Nat}(h:xs.length<=n):kP st gv xs n=xs.foldl st gv:=by unfold kP;rw[iz h]
def Pst (f:Nat) (cap:List Value) (p:Dv->Bool) (st:Kv->Dv->Kv) (Z:Nat->Prop) (mg:Nat) (xs:List Dv) (w:World):Prop:=
 ∀(j:Nat) (x:Dv),xs[j]? =some x->∀(W:World) (gm:Mq) (gv:Kv),gm.Ok gv->aQ Z w W->W.heap[mg]? =some (gm.obj cB Value.bool gv)->Calls prog f (.agg (vG x)::cap).toArray W (λe w'=>e= .returned (.bool (p x))/\∃vM:Mq,vM.Ok (st gv x)/\aQ (· =mg) W w'/\w'.heap[mg]? =some (vM.obj cB Value.bool (st gv x)))
def IxS (p:Dv->Bool) (st:Kv->Dv->Kv) (gv:Kv) (xs:List Dv) (z:Int×Mq×Nat):Prop:=
 z.2.1.Ok (kP st gv xs z.2.2)/\((z.1= -1/\z.2.2=xs.length/\xs.any p=false)\/∃(j:Nat) (x:Dv),z.1=(j:Int)/\z.2.2=j+1/\xs[j]? =some x/\p x=true/\gC p xs j)
section
variable (p:Dv->Bool)(st:Kv->Dv->Kv)(f:Nat)(cap:List Value)(aA:eU prog f)(xs:List Dv)(hxl:xs.length<=100000)
include aA xs hxl
theorem nJg(N:Nat)(a:Option Addr)(c:Nat)(w:World)(hN:N<=w.heap.size)(aH:ai vG 36 N w a xs)(mg:Nat)(rQ:∀b off,a=some ⟨b,off,none⟩->b≠mg)(gm:Mq)(gv:Kv)(qk:gm.Ok gv)(DD:w.heap[mg]? =some (gm.obj cB Value.bool gv))(hp:Pst f cap p st (· =mg) mg xs w):Calls prog 98 #[.slice a xs.length c,.func (.func f) #[] cap.toArray] w (λe w'=>∃z:Int×Mq×Nat,e= .returned (ab z.1)/\aQ (· =mg) w w'/\w'.heap[mg]? =some (z.2.1.obj cB Value.bool (kP st gv xs z.2.2))/\IxS p st gv xs z):=by
 refine nB (Gh.lent (· =mg)) [(mg,gm.obj cB Value.bool gv)] (vs:=[_,_]) func98 rfl ntmps98 rfl (Ef DD) ?_;refine B 14 ?_;refine CJ.lp (α:=Mq×Nat) [0,1,7] (λq=>[(8,ab (q.2:Int))]) (λq=>[(mg,q.1.obj cB Value.bool (kP st gv xs q.2))]) (λq=>q.2<=xs.length/\q.1.Ok (kP st gv xs q.2)/\gC p xs q.2) (λq=>xs.length-q.2) (gm,0) ⟨cY _,qk,λi x hi=>absurd hi zW⟩ ?_;rintro⟨m1,j⟩ ⟨hj,cK,dP⟩;dsimp only at hj cK dP ⊢;refine aG 6 ?_ ?_
 ·intro av;refine B 11 ?_;obtain⟨bo,oo,cs0,to,fC,rfl,fE,bW,aS⟩:=aH.get aa;obtain⟨x,hx⟩:=ng xs j aa;refine B 5 ?_;refine rq (.agg (vG x)) (dy isAgg142 sizeOf142 rfl A0 bW (λh=>rQ bo oo rfl h) ⟨λh=>rQ bo oo rfl h.symm,trivial⟩ (dc aS hx rfl)) (va (dU aS hx rfl)) ?_;refine nij (i:=0) (b:=mg) (f:=f) (first:=[]) (cap:=cap) (α:=Mq) (v:=λ_=>.bool (p x)) (ob:=λz=>z.obj cB Value.bool (st (kP st gv xs j) x)) (Φ:=λz=>z.Ok (st (kP st gv xs j) x)) rfl rfl aA rfl rfl rfl (λW hS hW=>(hp j x hx W m1 _ cK ((hS.links w A0).mono (λk _ hk=>by rcases hk with hk|hk;(exact hk);simpa using hk)) hW).mono ?_) ?_
  ·rintro e w' ⟨rfl,vM,h1,h2,h3⟩;exact⟨vM,rfl,h2,h3,h1⟩
  intro m2 bX;refine aG 2 ?_ ?_
  ·intro aR;refine B 12 ?_;refine bQ (.inl rfl) results98 bB λW hS=>⟨((j:Int),m2,j+1),rfl,(hS.links w A0).mono λk _ hk=>?_,?_,?_,?_⟩
   ·exact zfh
   ·rw[Ps hx];exact hS.own _ A0
   ·dsimp only;rw[Ps hx];exact bX
   exact .inr ⟨j,x,rfl,rfl,hx,by assumption,dP⟩
  intro aR;refine B 7 ?_;refine PJ.again (m2,j+1) ⟨by dsimp only;omega,by dsimp only;rw[Ps hx];exact bX,dP.next hx AR⟩ zW zR (by dsimp only;rw[Ps hx];rfl) rfl zJ
 intro av;refine B 11 ?_;refine bQ (.inl rfl) results98 bB λW hS=>⟨(-1,m1,xs.length),rfl,(hS.links w A0).mono λk _ hk=>?_,?_,?_,?_⟩
 ·exact zfh
 ·rw[show xs.length=j by omega];exact hS.own _ A0
 ·dsimp only;rw[show xs.length=j by omega];exact cK
 exact .inl ⟨rfl,rfl,nxd dP aa⟩
theorem nRj(b cp:Nat)(sp:List Value)(w:World)(hb:w.heap[b]? =some (bj iD 142 xs sp))(bP:(Rw.row b cp sp).Fit 36 xs)(mg:Nat)(Cy:b≠mg)(gm:Mq)(gv:Kv)(qk:gm.Ok gv)(DD:w.heap[mg]? =some (gm.obj cB Value.bool gv))(hp:Pst f cap p st (λk=>k=b\/k=mg) mg xs w):Calls prog 48 #[.slice (ao b) xs.length cp,.func (.func f) #[] cap.toArray] w (λe w'=>∃(bY:List Value) (vM:Mq),e= .returned ((Rw.row b cp bY).val (xs.filter (λx=> !p x)).length)/\aQ (λk=>k=b\/k=mg) w w'/\(Rw.row b cp bY).Fit 36 (xs.filter (λx=> !p x))/\w'.heap[b]? =some (bj iD 142 (xs.filter (λx=> !p x)) bY)/\vM.Ok (xs.foldl st gv)/\w'.heap[mg]? =some (vM.obj cB Value.bool (xs.foldl st gv))):=by
 have iI:=bP.1;have eM:=bP.2;have jr:=(bA.1 hb).1;have wg:=(bA.1 DD).1;refine nB (Gh.lent (λk=>k=b\/k=mg)) [(b,bj iD 142 xs sp),(mg,gm.obj cB Value.bool gv)] (vs:=[_,_]) func48 rfl ntmps48 rfl (Hs hb DD Cy) ?_;refine B 9 ?_;refine nij (i:=1) (b:=mg) (f:=98) (first:=[]) (cap:=[]) (α:=Int×Mq×Nat) (v:=λz=>ab z.1) (ob:=λz=>z.2.1.obj cB Value.bool (kP st gv xs z.2.2)) (Φ:=IxS p st gv xs) rfl rfl call98 rfl rfl rfl (λW hS hW=>?_) ?_
 ·have zw:=hS.own (b,_) A0;have jQ:ai vG 36 W.heap.size W (ao b) xs:=by
   obtain⟨a9,c9,e9,h9⟩:=(Rw.row b cp sp).sl (enc:=iD) (t:=142) (N:=W.heap.size) (w:=W) GQ bP zw (aj _);exact zHh
  exact nJg p st f cap aA xs hxl W.heap.size (ao b) cp W (aj _) jQ mg (λb9 off e=>by cases e;exact Cy) gm gv qk hW (λj x hx W2 gm2 gv2 h1 h2 h3=>hp j x hx W2 gm2 gv2 h1 (((hS.links w A0).mono (λk _ hk=>by rcases hk with hk|hk;(exact hk);simpa using hk)).trans (h2.mono (λk _ hk=>.inr hk))) h3)
 intro z hi;refine B 5 ?_;rcases hi.2 with⟨gS,fB,sh⟩|⟨k,x0,gS,fB,tG,Wt,sV⟩
 ·obtain⟨zi,m1,zn⟩:=z;dsimp only at hi gS fB ⊢;subst gS;subst fB;have cK:=hi.1;dsimp only at cK;refine B 2 ?_;refine Lq ?_;exact bQ (.inl rfl) results48 bB λW hS=>⟨sp,m1,by rw[Lp sh];rfl,(hS.links w A0).mono (λk _ hk=>by rcases hk with hk|hk;(exact hk);simpa using hk),by rw[Lp sh];exact bP,by rw[Lp sh];exact hS.own _ A0,by rw[<-nsg (aj _)];exact cK,by rw[<-nsg (aj _)];exact hS.own _ A1⟩
 obtain⟨zi,m1,zn⟩:=z;dsimp only at hi gS fB ⊢;subst gS;subst fB;have cK:=hi.1;dsimp only at cK;refine B 2 ?_;refine wX ?_;have sU:=nq tG;refine B 7 ?_;refine CJ.lp (α:=((Nat×List Dv)×Mq)×Nat) [0,1] (λp9=>[(5,ab (p9.1.1.1:Int)),(6,ab (p9.2:Int))]) (λp9=>[(b,bj iD 142 p9.1.1.2 sp),(mg,p9.1.2.obj cB Value.bool (kP st gv xs p9.2))]) (λp9=>p9.1.1.1<p9.2/\p9.2<=xs.length/\p9.1.1.2.length=xs.length/\p9.1.1.2.take p9.1.1.1=(xs.take p9.2).filter (λx=> !p x)/\p9.1.1.2.drop p9.2=xs.drop p9.2/\p9.1.2.Ok (kP st gv xs p9.2)) (λp9=>xs.length-p9.2) (((k,xs),m1),k+1) ⟨by dsimp only;omega,by dsimp only;omega,rfl,by dsimp only;rw[R6 tG,if_pos Wt,nLg sV,ee],rfl,cK⟩ ?_;rintro⟨⟨⟨i2,cur⟩,m3⟩,j⟩ ⟨vf,tE,mA,xa,zx,cX⟩;dsimp only at vf tE mA xa zx cX ⊢;refine aG 9 ?_ ?_
 ·intro av;refine B 5 ?_;obtain⟨x,hx⟩:=ng xs j aa;obtain⟨wo,si⟩:=ZF zx hx;refine B 4 ?_;refine rq (.agg (vG x)) (fH (i:=0) rfl isAgg142 sizeOf142 rfl (R8 GQ aa)) (va (R7 (sp:=sp) GQ wo)) ?_;refine bH 1 ?_;intro b7 kh v7;refine B 7 ?_;refine nij (i:=2) (b:=mg) (f:=f) (first:=[]) (cap:=cap) (α:=Mq) (v:=λ_=>.bool (p x)) (ob:=λz=>z.obj cB Value.bool (st (kP st gv xs j) x)) (Φ:=λz=>z.Ok (st (kP st gv xs j) x)) rfl rfl aA rfl rfl rfl (λW hS hW=>(hp j x hx W m3 _ cX ((hS.links w A0).mono (λk JT hk=>by rcases hk with hk|hk;(exact hk);(simp at hk;first|exact hk|(rcases hk with hk|hk;(exfalso;omega);exact hk)))) hW).mono ?_) ?_
  ·rintro e w' ⟨rfl,vM,h1,h2,h3⟩;exact⟨vM,rfl,h2,h3,h1⟩
  intro m2 bX;refine aG 3 ?_ ?_
  ·intro aR;refine B 6 ?_;refine Lr (enc:=iD) (m:=36) (i:=1) (j:=i2) (z:=x) rfl GQ nxh sizeOf142 rfl rfl rfl zJ aa rfl rfl ?_;refine B 14 ?_;refine qF ?_;refine PJ.again (((i2+1,cur.set i2 x),m2),j+1) ⟨by dsimp only;omega,by dsimp only;omega,by dsimp only;rw[List.length_set];exact mA,by dsimp only;rw[n8c aa,xa,R6 hx,if_neg AR],by dsimp only;rw[n3d aa];exact si,by dsimp only;rw[Ps hx];exact bX⟩ zW zR (by dsimp only;rw[Ps hx];rfl) rfl zJ
  intro aR;refine B 8 ?_;refine qF ?_;refine PJ.again (((i2,cur),m2),j+1) ⟨by dsimp only;omega,by dsimp only;omega,mA,by dsimp only;rw[xa,R6 hx,if_pos AR,ee],si,by dsimp only;rw[Ps hx];exact bX⟩ zW zR (by dsimp only;rw[Ps hx];rfl) rfl zJ
 intro av;refine B 6 ?_;have zy:j=xs.length:=by omega
 have jl:cur.take i2=(xs.filter (λx=> !p x)):=by rw[xa,zy,uw]
 refine B 3 ?_;refine rq (.slice (some ⟨b,if cp=i2 then 0 else 0+i2*36,none⟩) (cur.drop i2).length (cp-i2)) (gu (l:=i2) (h:=xs.length) underlying138 sizeOf142 rfl ⟨_,_,rfl,rfl⟩ rfl aa aa rfl) (by rw[B8,mA]) ?_;refine OJ.reH (H':=[(b,bj iD 142 (cur.take i2++cur.drop i2) sp),(mg,m3.obj cB Value.bool (kP st gv xs j))]) (by rw[AV]) ?_;refine AW (i:=0) rfl GQ underlying138 zeroValue142 rfl (nsf rfl _) rfl rfl zrb ?_;intro R9 zV;refine B 6 ?_;refine rq (.slice (ao b) (cur.take i2).length cp) (eL (h:=i2) underlying138 sizeOf142 rfl ⟨_,_,rfl,rfl⟩ aa) ZG ?_;refine B 4 ?_;exact bQ (.inl rfl) results48 bB λW hS=>⟨R9,m3,by rw[<-jl];rfl,(hS.links w A0).mono (λk _ hk=>by rcases hk with hk|hk;(exact hk);simpa using hk),by rw[<-jl];exact⟨by rw[jM];omega,by rw[zV,B8,jM,eM,Nat.min_eq_left aa,mA,<-qh];congr 1;omega⟩,by rw[<-jl];exact hS.own _ A0,by rw[<-nsg (aj _),<-zy];exact cX,by rw[<-nsg (aj _),<-zy];exact hS.own _ A1⟩
end
theorem nbk(p:Dv->Bool)(st:Kv->Dv->Kv)(f:Nat)(cap:List Value)(aA:eU prog f)(w:World)(mg:Nat)(gm:Mq)(gv:Kv)(qk:gm.Ok gv)(DD:w.heap[mg]? =some (gm.obj cB Value.bool gv)):Calls prog 48 #[ak,.func (.func f) #[] cap.toArray] w (λe w'=>∃(vM:Mq),e= .returned (ak)/\aQ (λk=>k=mg) w w'/\vM.Ok gv/\w'.heap[mg]? =some (vM.obj cB Value.bool gv)):=by
 refine nB (Gh.lent (· =mg)) [(mg,gm.obj cB Value.bool gv)] (vs:=[_,_]) func48 rfl ntmps48 rfl (Ef DD) ?_;refine B 9 ?_;refine nij (i:=0) (b:=mg) (f:=98) (first:=[]) (cap:=[]) (α:=Int×Mq×Nat) (v:=λz=>ab z.1) (ob:=λz=>z.2.1.obj cB Value.bool (kP st gv [] z.2.2)) (Φ:=IxS p st gv []) rfl rfl call98 rfl rfl rfl (λW hS hW=>?_) ?_
 ·exact nJg p st f cap aA [] zJ 0 none 0 W (cY _) (.inl rfl) mg (λb off e=>by cases e) gm gv qk hW (λj x hx=>by simp at hx)
 intro z hi;obtain⟨zi,m1,zn⟩:=z;have hz:=hi.2.resolve_right (by rintro⟨j,x,_,_,h,_⟩;simp at h);dsimp only at hz ⊢;obtain⟨rfl,rfl,_⟩:=hz;have cK:=hi.1;dsimp only at cK;refine B 7 ?_;refine Lq ?_;exact bQ (.inl rfl) results48 bB λW hS=>⟨m1,rfl,(hS.links w A0).mono (λk _ hk=>by rcases hk with hk|hk;(exact hk);simpa using hk),cK,hS.own _ A0⟩
def Ht (D0:List (List Se×Se)) (L0 ls:List Se):Prop:=∀(i:Nat) (s:Se),ls[i]? =some s->s∈L0\/∃d∈D0,d.2=s/\∀f∈d.1,f∈ls.take i
def vN (s:Se):Prop:=eu (fw s.com)
structure pS (D0:List (List Se×Se)) (L0:List Se) (lim:Nat) (ls:List Se):Prop where
 ord:Ht D0 L0 ls
 nd:(∀s∈L0,vN s)->ls.Nodup
 l0:∀s∈L0,s∈ls
 cl:∀d∈D0,(∀f∈d.1,f∈ls)->d.2∈ls
 ln:ls.length<=lim
 pf:eF L0 <+:ls
structure Mv where
 lv:Value
 kn:Kv
 km:Mq
 r1:Rw
 acc:List Se
 r3:Rw
 mo:List Se
 r2:Rw
 ds:List Dv
structure Mw (D0:List (List Se×Se)) (L0:List Se) (v0:Value) (F:ad) (lim:Nat) (x:Mv):Prop where
 k:∀s,kB x.kn s=true↔s∈x.acc
 k0:x.kn=[]->x.acc=[]/\x.r1= .nil/\x.lv=v0/\x.mo=eF L0
 k1:x.kn≠ []->x.lv=x.r1.val x.acc.length
 ord:Ht D0 L0 (x.acc++x.mo)
 nd:(∀s∈L0,vN s)->(x.acc++x.mo).Nodup
 l0:∀s∈L0,s∈x.acc++x.mo
 dr:∀d∈D0,(∃y∈x.ds,hJ y=d)\/d.2∈x.acc++x.mo
 rs:∀y∈x.ds,hJ y∈D0/\¬∀f∈y.fr,f∈x.acc
 df:∀y∈x.ds,yq F y
 ln:x.acc.length+x.mo.length+x.ds.length<=lim
 pf:eF L0 <+:x.acc++x.mo
def Mv.mu (x:Mv):Nat:=x.ds.length+if x.mo=[]then 0 else 1
theorem Ht.app{a b:List Se}(h:Ht D0 L0 a)(hb:∀s∈b,s∈L0\/∃d∈D0,d.2=s/\∀f∈d.1,f∈a):Ht D0 L0 (a++b):=by
 intro i s hs;by_cases hi:i<a.length
 ·rw[TF hi]at hs;rcases h i s hs with h1|⟨d,h1,h2,h3⟩
  ·exact .inl h1
  refine .inr ⟨d,h1,h2,λf hf=>?_⟩;rw[List.take_append_of_le_length aa];exact h3 f hf
 rw[aur aa]at hs;rcases hb s (cA hs)with h1|⟨d,h1,h2,h3⟩
 ·exact .inl h1
 refine .inr ⟨d,h1,h2,λf hf=>?_⟩;rw[List.take_append];exact aY.2 (.inl (by rw[iz aa];exact h3 f hf))
def iM (kn:Kv) (mo:List Se):Kv:=mo.foldl (λk s=>fZ k s true) kn
theorem nIm{kn:Kv}{mo:List Se}{s:Se}(h:mo[j]? =some s):iM kn (mo.take (j+1))=fZ (iM kn (mo.take j)) s true:=by unfold iM;rw[np h,Jk];rfl
theorem ndk(s:Se):∀(mo:List Se) (kn:Kv),kB (iM kn mo) s=true↔s∈mo\/kB kn s=true
 | [],kn=>by simp[iM]
 |x::mo,kn=>by
  have ih:=ndk s mo (fZ kn x true);show kB (iM (fZ kn x true) mo) s=true↔_;rw[ih];unfold kB;rw[Hu];by_cases e:s=x
  ·simp[e]
  simp[e]
theorem TG{mo:List Se}{kn:Kv}(h:mo≠ []):iM kn mo≠ []:=by
 intro he;cases mo with
 |nil=>exact h rfl
 |cons x l=>
  have:=(ndk x (x::l) kn).2 (.inl A0);rw[he]at this;simp[kB,gN,fp]at this
theorem TH(kn:Kv)(s:Se):∀(xs:List Dv) (gv:Kv),s∈(xs.foldl (gP kn) gv).map (·.1)↔s∈gv.map (·.1)\/∃d∈xs,d.to=s/\kB kn d.to=false/\(d.fr.any λf=> !kB kn f)=false:=
 by intro x;induction x<;>(intros;grind [gP,kB,nvk])
theorem Hv(kn:Kv):∀(xs:List Dv) (gv:Kv),(gv.map (·.1)).Nodup->((xs.foldl (gP kn) gv).map (·.1)).Nodup:=
 by intro x;induction x<;>(intros;grind [gP,npg])
theorem Hw(l:Kv)(s:Se):(fZ l s true).length<=l.length+1:=by unfold fZ;split<;>simp
theorem Hx(kn:Kv):∀(xs:List Dv) (gv:Kv),(xs.foldl (gP kn) gv).length+(xs.filter (λd=> !jc kn d)).length<=gv.length+xs.length:=
 by intro x;induction x<;>(intros;grind [gP,jc,kB,Hw])
theorem Mw.step{v0:Value}{x:Mv}(h:Mw D0 L0 v0 F lim x)(hm:x.mo≠ []){km':Mq}{r1' r2' r3':Rw}{ys:List Se}(hy:ys.Perm ((x.ds.foldl (gP (iM x.kn x.mo)) []).map (·.1))):Mw D0 L0 v0 F lim ⟨r1'.val (x.acc++x.mo).length,iM x.kn x.mo,km',r1',x.acc++x.mo,r3',gO ys,r2',x.ds.filter (λd=> !jc (iM x.kn x.mo) d)⟩/\Mv.mu ⟨r1'.val (x.acc++x.mo).length,iM x.kn x.mo,km',r1',x.acc++x.mo,r3',gO ys,r2',x.ds.filter (λd=> !jc (iM x.kn x.mo) d)⟩<x.mu:=by
 have hk:∀s,kB (iM x.kn x.mo) s=true↔s∈x.acc++x.mo:=λs=>by rw[ndk,aY,h.k s];exact Or.comm
 have TI:∀s,kB (iM x.kn x.mo) s=false↔s∉x.acc++x.mo:=λs=>by rw[<-hk s];simp
 have xV:∀s,s∈gO ys↔∃d∈x.ds,d.to=s/\s∉x.acc++x.mo/\∀f∈d.fr,f∈x.acc++x.mo:=λs=>by
  rw[nsi,hy.mem_iff,TH];constructor
  ·rintro(h1|⟨d,h1,h2,h3,h4⟩)
   ·simp at h1
   refine⟨d,h1,h2,h2▸(TI _).1 h3,λf hf=>(hk f).1 ?_⟩;have:=List.any_eq_false.1 h4 f hf;simpa using this
  rintro⟨d,h1,h2,h3,h4⟩;refine .inr ⟨d,h1,h2,(TI _).2 (h2.symm▸h3),List.any_eq_false.2 λf hf=>?_⟩;simp[(hk f).2 (h4 f hf)]
 have Ko:(gO ys).length+(x.ds.filter (λd=> !jc (iM x.kn x.mo) d)).length<=x.ds.length:=by
  have h1:=Hx (iM x.kn x.mo) x.ds [];have h2:=hy.length_eq;rw[LZ];simp only[eO,fO]at h1 h2;omega
 have jl:∀y,y∈x.ds.filter (λd=> !jc (iM x.kn x.mo) d)↔y∈x.ds/\y.to∉x.acc++x.mo/\¬∀f∈y.fr,f∈x.acc++x.mo:=λy=>by
  rw[uK];unfold jc;refine and_congr_right λ_=>?_;rw[Bool.not_or,mO,Bool.not_not,List.any_eq_true,Bool.not_eq_true',TI];refine and_congr_right λ_=>?_;simp only[Bool.not_eq_true',TI];constructor
  ·rintro⟨f,h1,h2⟩ h3;exact h2 (h3 f h1)
  intro h3;apply Classical.byContradiction;intro h4;exact h3 λf hf=>Classical.byContradiction λh5=>h4 ⟨f,hf,h5⟩
 refine⟨⟨hk,λhe=>absurd he (TG hm),λ_=>rfl,?_,λhB=>?_,λs hs=>aY.2 (.inl (h.l0 s hs)),λd hd=>?_,λy hy=>?_,λy hy=>h.df y ((jl y).1 hy).1,?_,h.pf.trans (List.prefix_append _ _)⟩,?_⟩
 ·refine h.ord.app λs hs=>?_;obtain⟨d,h1,h2,h3,h4⟩:=(xV s).1 hs;exact .inr ⟨hJ d,(h.rs d h1).1,h2,h4⟩
 ·dsimp only;rw[List.nodup_append];refine⟨h.nd hB,((Wu CO.ord.swo ys).trans hy).nodup_iff.2 (Hv _ _ _ zJ),?_⟩;intro a ha b hb e;subst e;exact((xV a).1 hb).choose_spec.2.2.1 ha
 ·dsimp only;by_cases hc:d.2∈x.acc++x.mo
  ·exact .inr (aY.2 (.inl hc))
  rcases h.dr d hd with⟨y,h1,h2⟩|h1
  ·by_cases hp:∀f∈y.fr,f∈x.acc++x.mo
   ·refine .inr (aY.2 (.inr ((xV _).2 ⟨y,h1,by rw[<-h2];rfl,hc,hp⟩)))
   exact .inl ⟨y,(jl y).2 ⟨h1,by rw[show y.to=d.2 from(by rw[<-h2];rfl)];exact hc,hp⟩,h2⟩
  exact absurd h1 hc
 ·exact⟨(h.rs y ((jl y).1 hy).1).1,((jl y).1 hy).2.2⟩
 ·dsimp only;have:=h.ln;rw[cO];omega
 unfold Mv.mu;dsimp only;rw[if_neg hm];split<;>rename_i he
 ·omega
 have:0<(gO ys).length:=azr.2 he;omega
theorem Mw.end_{v0:Value}{x:Mv}(h:Mw D0 L0 v0 F lim x)(hm:x.mo=[]):pS D0 L0 lim x.acc:=by
 have e:x.acc++x.mo=x.acc:=by rw[hm,ee]
 have h1:=h.ord;have h2:=h.nd;have h3:=h.l0;have h4:=h.dr;have h5:=h.ln
 rw[e]at h1 h2 h3;refine⟨h1,h2,h3,λd hd hp=>?_,by omega,by have h6:=h.pf;rwa[e]at h6⟩;rcases h4 d hd with⟨y,g1,g2⟩|g
 ·exact absurd (by rw[<-g2]at hp;exact hp) (h.rs y g1).2
 rw[e]at g;exact g
theorem Hy(a:Ap):∀d∈iL a,d.1.length<=2:=by
 intro d hd;unfold iL at hd;have hT:∀j,∀d∈mf a j,d.1.length<=2:=by
  intro j;induction j with
  |zero=>intro d hd;simp[mf]at hd
  |succ j ih=>
   intro d hd;unfold mf at hd;split at hd
   ·exact ih d hd
   rcases aY.1 hd with hd|hd
   ·exact ih d hd
   unfold GR at hd;rcases cd.1 hd with rfl|hd
   ·simp
   split at hd
   ·rw[gh.1 hd];simp
   cases hd
 all_goals grind [CB,Md,GS]
theorem HA{cs:List Cm}{fos:List Fo}{gs:List Gr}{xs:List Ir}(d:List Se×Se)(hd:d∈oJ Z cs fos gs xs):d.1.length<=2:=by
 unfold oJ at hd;simp only[aY]at hd;all_goals grind [Hy,Bm,Hp,DB]
theorem HB:∀{l:List Int},xn l=0->∀x∈l,x=0:=
 by intro x;induction x<;>(intros;grind [xn])
theorem nQk:∀{a b:List UInt8},Go.Lib.compareBytes a b=0->a=b
 | [],[],_=>rfl
 | [],_::_,h=>by simp[Go.Lib.compareBytes]at h
 |_::_,[],h=>by simp[Go.Lib.compareBytes]at h
 |x::a,y::b,h=>by
  unfold Go.Lib.compareBytes at h;split at h
  ·cases h
  split at h
  ·cases h
  rename_i h1 h2;rw[nQk h];have:x=y:=UInt8.le_antisymm (UInt8.not_lt.1 h2) (UInt8.not_lt.1 h1);rw[this]
theorem TJ{f g:Nat->Int}(h:∀i,i<32->f i=g i):dk f=dk g:=by
 apply Subtype.ext;show[f 0,f 1,f 2,f 3,f 4,f 5,f 6,f 7,f 8,f 9,f 10,f 11,f 12,f 13,f 14,f 15,f 16,f 17,f 18,f 19,f 20,f 21,f 22,f 23,f 24,f 25,f 26,f 27,f 28,f 29,f 30,f 31]=[g 0,g 1,g 2,g 3,g 4,g 5,g 6,g 7,g 8,g 9,g 10,g 11,g 12,g 13,g 14,g 15,g 16,g 17,g 18,g 19,g 20,g 21,g 22,g 23,g 24,g 25,g 26,g 27,g 28,g 29,g 30,g 31];simp[h]
theorem nIk{x y:Se}(hx:vN x)(hy:vN y)(h:l9 x y=0):x=y:=by
 have h1:=HB h;have a:=h1 (du x.kind y.kind) zJ;have b:=h1 (du x.pub y.pub) zJ;have c:=nQk (h1 (Go.Lib.compareBytes (cI (fw x.com)) (cI (fw y.com))) zJ);have d:=h1 (du x.lev y.lev) zJ;have e:∀{p q:Int},du p q=0->p=q:=λ{p q} h=>by unfold du at h;split at h;(cases h);split at h;(cases h);omega
 have f:x.com=y.com:=by
  rw[<-Dp x.com,<-Dp y.com];exact TJ λi hi=>by rw[<-Vv _ hx i hi,<-Vv _ hy i hi,c]
 cases x;cases y
 all_goals grind
theorem n8h{α:Type}[Inhabited α]{cf:α->α->Int}(hO:CO cf)(xs:List α):∀(i j:Nat) (x y:α),i<j->(gU cf xs)[i]? =some x->(gU cf xs)[j]? =some y->cf x y<=0:=by
 intro i j x y vf hx hy;have h:=(Go.Sort.pdq_sorts (ltOf cf) hO.swo xs.toArray 0 xs.toArray.size (Lib.bitLen xs.toArray.size) true true (cY _) (aj _) (Or.inl rfl)).2;have BT:=nq hy;have hl:=(Wu hO.swo xs).length_eq;have h2:=h i j (cY _) vf (by rw[rh];omega);unfold gU at hx hy;rw[OZ]at hx hy;have e:∀{k:Nat} {z:α} {d:Array α},d[k]? =some z->d[k]! =z:=λ{k z d} hk=>by obtain⟨h3,h4⟩:=bA.1 hk;rw[getElem!_pos d k h3];exact h4
 rw[e hx,e hy]at h2;simp only[ltOf,decide_eq_false_iff_not]at h2;have:=hO.anti x y;omega
theorem nLk{xs:List Se}(hs:∀(i j:Nat) (x y:Se),i<j->xs[i]? =some x->xs[j]? =some y->l9 x y<=0)(hB:∀s∈xs,vN s):∀j,(mJ xs j).Nodup
 |0=>List.nodup_nil
 |j+1=>by
  have ih:=nLk hs hB j;unfold mJ;split
  ·exact ih
  rename_i x hx;split
  ·exact ih
  rename_i hn;rw[List.nodup_append];refine⟨ih,by simp,?_⟩;intro a ha b hb e;rw[gh]at hb;subst hb;subst e;rw[nzj]at ha;obtain⟨i,hi⟩:=jG.1 ha;have lM:=nq hi;rw[jM]at lM;rw[RX aa]at hi;have Pm:0<j:=by omega
  obtain⟨y,hy⟩:=ng xs (j-1) VJ;have h1:=hs (j-1) j y a aa hy hx;have h2:l9 a y<=0:=by
   by_cases e:i=j-1
   ·subst e;rw[hy]at hi;cases hi;have:=CO.ord.anti a a;omega
   exact hs i (j-1) a y aa hi hy
  have h3:=CO.ord.anti a y;have h4:=nIk (hB _ (cA hy)) (hB _ (cA hx)) (show l9 y a=0 by omega);exact hn ⟨Pm,by rw[hy,h4]⟩
theorem nae{l:List Se}(hB:∀s∈l,vN s):(eF l).Nodup:=nLk (λi j x y h1 h2 h3=>n8h CO.ord l i j x y h1 h2 h3) (λs hs=>hB s ((nsi l s).1 hs)) _
theorem Mw.init{v0:Value}{km:Mq}{r2 r3:Rw}{ds:List Dv}(hm:ds.map hJ=D0)(hd:∀d∈ds,yq F d)(hl:(eF L0).length+ds.length<=lim):Mw D0 L0 v0 F lim ⟨v0,[],km,.nil,[],r3,eF L0,r2,ds⟩:=by
 refine⟨λs=>by simp[kB,gN,fp],λ_=>⟨rfl,rfl,rfl,rfl⟩,λh=>absurd rfl h,λi s hs=>.inl ?_,λhB=>nae hB,λs hs=>(Dt _ _).2 hs,λd hd=>.inl ?_,λy hy=>⟨hm▸bT.2 ⟨y,hy,rfl⟩,λh=>?_⟩,hd,by simpa using hl,List.prefix_rfl⟩
 ·exact(Dt _ _).1 (cA (by simpa using hs))
 ·rw[<-hm]at hd;obtain⟨y,h1,h2⟩:=bT.1 hd;exact⟨y,h1,h2⟩
 cases hf:y.fr with
 |nil=>exact(hd y hy).ne hf
 |cons f l=>have:=h f (by rw[hf];exact .head _);simp at this
theorem Pt{α:Type}(p q:α)(l R:List α):(p::q::(l++(R++[]))).Perm ((R++[q])++(p::l)):=by
 rw[ee];refine(List.perm_append_comm (l₁:=p::q::l) (l₂:=R)).trans ?_;rw[jh];exact List.Perm.append_left R (List.Perm.swap q p l)
theorem abc{α:Type}(k a m p q c d:α)(R3 R2:List α):(R3++(k::a::m::p::q::c::d::(R2++[]))).Perm (k::a::m::d::p::q::c::(R3++(R2++[]))):=by
 have h1:(R3++(k::a::m::p::q::c::d::(R2++[]))).Perm ((k::a::m::p::q::c::[d])++(R3++(R2++[]))):=List.perm_append_comm_assoc R3 (k::a::m::p::q::c::[d]) (R2++[]);refine h1.trans ?_;show([k,a,m,p,q,c,d]++(R3++(R2++[]))).Perm ([k,a,m,d,p,q,c]++(R3++(R2++[])));refine List.Perm.append_right _ ?_;refine List.Perm.cons k (List.Perm.cons a (List.Perm.cons m ?_));exact(List.perm_append_comm (l₁:=[p,q,c]) (l₂:=[d]))
theorem cD.ownO{C:Cx}{G:Gh}{H:ad}{α:Type}{enc:α->List Value}{m tx e' b c:Nat}{zs:List α}{sp:List Value}(hm:∀x,(enc x).length=m)(h1:∀x,∀u∈enc x,u.oneCell'=true)(hU:C.P.underlying tx=some (.slice e'))(hb:(b,bj enc t zs sp)∈H):cD C G L H enc m tx (.slice (ao b) zs.length c) zs:=
 cD.at hm h1 hU (λW hS=>hS.own _ hb) (by simp[sT hm]) (by
  simp only[Pu];rw[<-sT hm zs];exact List.take_left)
theorem Mx{C:Cx}{G:Gh}{H:ad}{E:Env}{x:Operand}{α:Type}{xs:List α}{m e:Nat}(hU:C.P.underlying t=some (.slice e))(hr:r.Fit m xs)(hx:ev E x=some (r.val xs.length)):RV C G L H E (.call ⟨.builtin .len,#[x],#[t]⟩) (ab (xs.length:Int)):=by
 cases r with
 |nil=>
  have h0:xs=[]:=hr;subst h0;exact mE hU hx
 |row b c sp=>exact mE hU hx
theorem nNp(hZ:FxOk Z)(cs:List Cm)(bW:cs.length<=1000)(dE:∀c∈cs,bN c)(N:Nat)(la:Option Addr)(lc:Nat)(w:World)(hN:N<=w.heap.size)(aH:ai cM 73 N w la cs)(hC:∀c∈cs,dB N w c)(fa:Option Addr)(fos:List Fo)(fc:Nat)(jl:fos.length<=10)(mA:cs.length<=10)(qT:ai qR 33 N w fa fos)(ga:Option Addr)(gs:List Gr)(gc:Nat)(Qs:gs.length<=10)(hgs:ai tX 39 N w ga gs)(Ms:∀g∈gs,pR g)(hgA:∀g∈gs,sE N w g)(ia:Option Addr)(xs:List Ir)(ic:Nat)(lM:xs.length<=10)(his:ai Bi 68 N w ia xs)(hii:∀x∈xs,ku x)(xw:∀x∈xs,gF N w x.ba x.body)(o1 o5 o6 o7:Value)(hg:Glb w)(a0 a1:Addr)(hse:Sen w a0 a1)(qa:Option Addr)(L0:List Se)(qc:Nat)(hql:L0.length<=50000)(hqs:ai seA 35 N w qa L0):Calls prog 26 #[.agg #[.slice fa fos.length fc,o1,.slice la cs.length lc,.slice ga gs.length gc,.slice ia xs.length ic,o5,o6,o7],.slice qa L0.length qc] w (cZ w (λq:(Option Addr×Nat)×List Se=>.slice q.1.1 q.2.length q.1.2) (λq w1=>ai seA 35 w1.heap.size w1 q.1.1 q.2/\pS (oJ Z cs fos gs xs) L0 71000 q.2/\q.2.length<=q.1.2)):=by
 have hg4:=hg.lt;refine nB (dF []) [] (vs:=[_,_]) func26 rfl ntmps26 rfl (Lm w) ?_;refine cH 2 ?_;intro b2 w2 dw bX fB dJ dH;refine B 5 ?_;refine LH cB Value.bool rfl rfl ?_;intro gB uZ yQ;replace uZ:=yb uZ;refine bH 1 ?_;intro b5 rF rG;refine B 5 ?_;refine zHe ?_;refine nIn (H0:=[(b5,oC #[.map (some gB)] 137),(gB,(Mq.mk [] 0).obj cB Value.bool ([]:Kv))]) (H1:=[]) (r:=.nil) (xs:=([]:List Dv)) (enc:=iD) (m:=36) (t:=142) (γ:=List Dv) (ys:=λz=>z) (v:=λz r'=>r'.val z.length) (Φ:=λF' z=>z.map hJ=(oJ Z cs fos gs xs)/\(∀d∈z,yq F' d)/\z.length<=21000) (first:=[]) (cap:=[]) rfl True.intro rfl call47 rfl rfl rfl (λW hS=>?_) ?_
 ·refine(Tz hZ cs bW dE N la lc W cJ (aH.up (aj _) hS.sm) (λc hc=>(hC c hc).up (aj _) hS.sm) fa fos fc jl mA (qT.up (aj _) hS.sm) ga gs gc Qs (hgs.up (aj _) hS.sm) Ms (λg hg=>(hgA g hg).up (aj _) hS.sm) ia xs ic lM (his.up (aj _) hS.sm) hii (λx hx=>(xw x hx).up (aj _) hS.sm) o1 o5 o6 o7 (hg.old hS A1 zH zF) a0 a1 (hse.oldG hS A1 zH zF)).mono ?_;rintro e w' ⟨ds,r,F',rfl,hb,jI,bP,fJ,wD,aW,lz,YC⟩;exact⟨ds,r,F',rfl,aQ.of_below hb,λk hk=>.inr (Rw.ge_at jI hk),bP,fJ,wD,aW,lz,YC⟩
 rintro ds0 r20 F1 ⟨hmp,lz,uQ⟩ TL HC wB;obtain⟨F,hFe⟩:∃F,F1++[]=F:=⟨_,rfl⟩;rw[hFe]at HC ⊢;have ak8:∀y∈ds0,y.fr.length<=1000:=λy hy=>eE (HA _ (hmp▸bT.2 ⟨y,hy,rfl⟩)) zA;have lz:∀d∈ds0,yq F d:=λd hd=>(lz d hd).mono (λq hq=>hFe▸aY.2 (.inl hq));refine aE 6 (.slice qa L0.length qc) ?_;have ey:r20.ge w2.heap.size:=Rw.ge_fz HC A0;refine Jj (enc:=er) (m:=35) (t:=35) (xs:=eF L0) (v:=id) (first:=[]) (cap:=[]) rfl call32 rfl rfl rfl (λW hS=>nRg L0 aa N qa qc W cJ (hqs.up (aj _) (hS.same A1 hN zH (by simp only[Over,nC,im,eX,ee,and_true];(repeat' apply And.intro);all_goals first|omega|exact True.intro|exact Rw.over (Rw.ge_mono ey aa))))) ?_;intro r30 abf TM;refine B 4 ?_;refine CJ.prm (H':=[(b5,oC #[.map (some gB)] 137),(gB,(Mq.mk [] 0).obj cB Value.bool ([]:Kv))]++(Rw.nil.hp er 35 ([]:List Se)++(r30.hp er 35 (eF L0)++(r20.hp iD 142 ds0++[])))) (List.perm_append_comm_assoc _ _ _) ?_;have apX:=noi L0;refine CJ.lp (α:=Mv) [5] (λx=>[(1,x.lv),(6,x.r2.val x.ds.length),(7,x.r3.val x.mo.length)]) (λx=>[(b5,oC #[.map (some gB)] 137),(gB,x.km.obj cB Value.bool x.kn)]++(x.r1.hp er 35 x.acc++(x.r3.hp er 35 x.mo++(x.r2.hp iD 142 x.ds++[])))) (λx=>Mw (oJ Z cs fos gs xs) L0 (.slice qa L0.length qc) F 71000 x/\x.km.Ok x.kn/\(x.r1.Fr (dF F) [w2,w]/\x.r1.Fit 35 x.acc)/\(x.r3.Fr (dF F) [w2,w]/\x.r3.Fit 35 x.mo)/\(x.r2.Fr (dF F) [w2,w]/\x.r2.Fit 36 x.ds)/\∀y∈x.ds,y.fr.length<=1000) (λx=>x.mu) ⟨(.slice qa L0.length qc),[],Mq.mk [] 0,.nil,[],r30,eF L0,r20,ds0⟩ ⟨Mw.init hmp lz aa,Mq.nil,⟨True.intro,rfl⟩,⟨abf,TM⟩,⟨HC,TL⟩,ak8⟩ ?_
 rintro⟨lv,kn,km,r1,acc,r3,mo,r2,ds⟩ ⟨hI,CH,⟨My,iI⟩,⟨u9,mZ⟩,⟨lS,eM⟩,hIl⟩;dsimp only at CH My iI u9 mZ lS eM hIl ⊢;have oH:r1.ge w2.heap.size:=Rw.ge_fz My A0;have ey:r2.ge w2.heap.size:=Rw.ge_fz lS A0;have qb:r3.ge w2.heap.size:=Rw.ge_fz u9 A0;refine B 4 ?_;refine rv rfl rfl rfl (Mx underlying38 mZ rfl) ?_;refine aG 3 ?_ ?_
 ·intro av;refine B 5 ?_;have hne:mo≠ []:=by intro h;subst h;simp at*
  obtain⟨b3,c3,s3,rfl⟩:=Rw.row_of mZ (azr.2 hne);have YC:=hI.ln;dsimp only at YC;refine B 2 ?_;refine rv rfl rfl rfl (Bk underlying137 CH (bE.own (i:=1) rfl) rfl) ?_;refine B 3 ?_;refine CJ.mid (t:=1) (v:=r1.val acc.length) (E0:=[(5,_),(6,_),(7,_),(16,_),(17,_),(18,_),(19,_),(20,_),(21,_)]) zR ?_ ?_
  ·refine uh ?_ ?_
   ·intro aR;refine B 3 ?_;exact PJ.mid ⟨(by obtain⟨h1,h2,_⟩:=hI.k0 (my zW);dsimp only at h1 h2;rw[h1,h2];rfl),rfl,rfl,rfl,rfl,rfl,rfl,rfl,rfl,rfl,trivial⟩
   intro aR;refine B 1 ?_;exact PJ.mid ⟨(congrArg some (hI.k1 (λh=>by have h2:kn=[]:=h;subst h2;simp_all))),rfl,rfl,rfl,rfl,rfl,rfl,rfl,rfl,rfl,trivial⟩
  refine B 5 ?_;refine kz (r:=r1) (xs:=acc) (zs:=mo) (enc:=er) (m:=35) (H0:=[(b5,oC #[.map (some gB)] 137),(gB,km.obj cB Value.bool kn)]) (H1:=((Rw.row b3 c3 s3).hp er 35 mo++(r2.hp iD 142 ds++[]))) rfl WH nz rfl rfl rfl rfl (cD.ownO (b:=b3) (t:=35) (sp:=s3) nz Pe underlying38 oV) iI My (azr.2 hne) aa ?_;intro lR u7 mG qE rS;have abg:(Rw.row lR u7 mG).Fr (dF F) [w2,w]:=qE.elim (λh=>Rw.Fr_at My h) .inr;replace qE:=yb qE;refine B 12 ?_;refine CJ.lp (α:=Mq×Nat) [1,5,6,25,26] (λp=>[(27,ab (p.2:Int))]) (λp=>[(b5,oC #[.map (some gB)] 137),(gB,p.1.obj cB Value.bool (iM kn (mo.take p.2))),(lR,bj er 35 (acc++mo) mG),(b3,bj er 35 mo s3)]++(r2.hp iD 142 ds++[])) (λp=>p.2<=mo.length/\p.1.Ok (iM kn (mo.take p.2))) (λp=>mo.length-p.2) (km,0) ⟨cY _,CH⟩ ?_;rintro⟨m,j⟩ ⟨hj,hm⟩;dsimp only at hj hm ⊢;refine aG 6 ?_ ?_
  ·intro dm;refine B 5 ?_;obtain⟨s,hs⟩:=ng mo j aa;refine B 2 ?_;refine rq (.agg (seA s)) (fH (i:=3) rfl isAgg35 sizeOf35 rfl (R8 nz aa)) (va (R7 (sp:=s3) nz hs)) ?_;refine bH 1 ?_;intro b9 xP uj;refine aE 5 (cB s) ?_;refine Z2 (i:=2) (k:=s) (v:=true) rfl hm underlying137 LX rfl rfl rfl rfl ?_;intro m2 bX;refine xW ?_;refine PJ.again (m2,j+1) ⟨by dsimp only;omega,by dsimp only;rw[nIm hs];exact bX⟩ zW zR (by dsimp only;rw[nIm hs];rfl) rfl zJ
  intro dm;refine B 6 ?_;have zy:j=mo.length:=by omega
  rw[zy,uw]at hm ⊢;refine B 1 ?_;refine LH cB Value.bool rfl rfl ?_;intro fG jR aix;replace jR:=yb jR;refine bH 1 ?_;intro gd lT pC;refine B 7 ?_;refine OJ.perm (Pt _ _ [(b5,oC #[.map (some gB)] 137),(gB,m.obj cB Value.bool (iM kn mo)),(lR,bj er 35 (acc++mo) mG),(b3,bj er 35 mo s3)] (r2.hp iD 142 ds)) ?_;refine CI (Hz:=(r2.hp iD 142 ds++[(fG,(Mq.mk [] 0).obj cB Value.bool ([]:Kv))])) (H0:=[(gd,oC #[.map (some fG)] 137),(b5,oC #[.map (some gB)] 137),(gB,m.obj cB Value.bool (iM kn mo)),(lR,bj er 35 (acc++mo) mG),(b3,bj er 35 mo s3)]) (α:=Rw×Mq) (v:=λz=>z.1.val (ds.filter (λd=> !jc (iM kn mo) d)).length) (Hn:=λz=>z.1.hp iD 142 (ds.filter (λd=> !jc (iM kn mo) d))++[(fG,z.2.obj cB Value.bool (ds.foldl (gP (iM kn mo)) []))]) (Φ:=λz=>z.1.Fit 36 (ds.filter (λd=> !jc (iM kn mo) d))/\z.2.Ok (ds.foldl (gP (iM kn mo)) [])/\∀k,z.1.isAt k->r2.isAt k) (first:=[]) (cap:=[]) rfl rfl call48 rfl rfl rfl ?_ (λW hS=>?_) ?_
  ·cases r2 with
   |nil=>exact⟨.inr jR,trivial⟩
   |row b c sp=>exact⟨lS,.inr jR,trivial⟩
  ·have DD:=hS.own (fG,(Mq.mk [] 0).obj cB Value.bool ([]:Kv)) zJ;have ala:=hS.own (b5,oC #[.map (some gB)] 137) zJ;have alb:=hS.own (gB,m.obj cB Value.bool (iM kn mo)) zJ;have abh:=hS.own (gd,oC #[.map (some fG)] 137) zJ;have hnd:=(vO _).1 hS.nodup;simp only[gL,dL,ft,jh,im,eX]at hnd;have Am:=(List.nodup_append.1 hnd).2.1;simp only[List.nodup_cons,cd,dV,or_false,not_or]at Am;cases r2 with
   |nil=>
    have h0:ds=[]:=eM;subst h0;refine(nbk (jc (iM kn mo)) (gP (iM kn mo)) 49 [ptr b5 0,ptr gd 0] call49 W fG (Mq.mk [] 0) [] Mq.nil DD).mono ?_;rintro e w' ⟨vM,rfl,hk,iR,hl⟩;exact⟨(.nil,vM),rfl,hk.mono (λk _ hk=>by subst hk;simp[keys]),⟨rfl,iR,λk hk=>hk.elim⟩,λp hp=>by simp[Rw.hp]at hp;subst hp;exact⟨hl,.inl (by simp[keys])⟩,EE _⟩
   |row b c sp=>
    have WW:=hS.own (b,bj iD 142 ds sp) oV;have HD:b≠fG/\b≠gd/\b≠b5/\b≠gB:=by
     simp only[Rw.hp,dL,ft,im,eX,List.nodup_cons,cd,dV,or_false,not_or]at hnd;exact⟨hnd.1.1,hnd.1.2.1,hnd.1.2.2.1,hnd.1.2.2.2.1⟩
    refine(nRj (jc (iM kn mo)) (gP (iM kn mo)) 49 [ptr b5 0,ptr gd 0] call49 ds aa b c sp W WW eM fG HD.1 (Mq.mk [] 0) [] Mq.nil DD (λj y hy W2 gm gv qk hk alc=>?_)).mono ?_
    ·have keep:∀{q:Nat} {o:Obj},W.heap[q]? =some o->q≠b->q≠fG->W2.heap[q]? =some o:=λ{q o} h1 h2 h3=>(hk.block q (bA.1 h1).1 (λhx=>hx.elim h2 h3)).trans h1;have hdy:=hI.df y (cA hy);have GB:ai seA 35 W2.heap.size W2 y.fa y.fr/\∀b' off,y.fa=some ⟨b',off,none⟩->b'≠fG:=by
      rcases hdy.sl with h1|⟨b',off,eG,t',C7,e1,e2,e3⟩
      ·exact absurd h1 hdy.ne
      have h2:=hS.fzLies _ e2;have hv:∀q:Nat×Obj,q∈(((Rw.row b c sp).hp iD 142 ds++[(fG,(Mq.mk [] 0).obj cB Value.bool ([]:Kv))])++[(gd,oC #[.map (some fG)] 137),(b5,oC #[.map (some gB)] 137),(gB,m.obj cB Value.bool (iM kn mo)),(lR,bj er 35 (acc++mo) mG),(b3,bj er 35 mo s3)]:ad)->b'≠q.1:=λq hq h9=>hS.apart q hq (bT.2 ⟨_,e2,h9⟩);have yZ:=hv (b,bj iD 142 ds sp) oV;have mN:=hv (fG,(Mq.mk [] 0).obj cB Value.bool ([]:Kv)) oV;exact⟨.inr ⟨b',off,eG,t',C7,e1,by have:=hk.size;have:=h2.1;omega,keep h2.2 yZ mN,e3⟩,λb2 apY h=>by rw[e1]at h;cases h;exact mN⟩
     exact TE (iM kn mo) gB b5 m hm gd fG gm gv qk y W2.heap.size W2 (aj _) GB.2 (keep ala (λh=>HD.2.2.1 h.symm) (λh=>Am.1.2.1 h.symm)) (keep alb (λh=>HD.2.2.2 h.symm) (λh=>Am.1.2.2.1 h.symm)) (keep abh (λh=>HD.2.1 h.symm) (λh=>Am.1.1 h.symm)) alc GB.1 (hIl y (cA hy)) Am.1.2.1 Am.1.2.2.1 Am.1.1
    rintro e w' ⟨bY,vM,rfl,hk,bP,eP,iR,hl⟩;refine⟨(.row b c bY,vM),rfl,hk.mono (λk _ hk=>by rcases hk with rfl|rfl<;>simp[keys,Rw.hp]),⟨bP,iR,λk hk=>hk⟩,λp hp=>?_,WV HD.1⟩;simp only[Rw.hp,im,eX,cd,dV,or_false]at hp;rcases hp with rfl|rfl
    ·exact⟨eP,.inl (by simp[keys,Rw.hp])⟩
    exact⟨hl,.inl (by simp[keys,Rw.hp])⟩
  rintro⟨r2n,gm⟩ ⟨HE,qk,Pw⟩ apZ;dsimp only at HE qk Pw ⊢;have abj:r2n.Fr (dF F) [w2,w]:=by
   cases r2n with
   |nil=>trivial
   |row b c sp=>exact Rw.Fr_at lS (Pw b rfl)
  refine OJ.perm ((Pt (gd,oC #[.map (some fG)] 137) (fG,gm.obj cB Value.bool (ds.foldl (gP (iM kn mo)) [])) [(b5,oC #[.map (some gB)] 137),(gB,m.obj cB Value.bool (iM kn mo)),(lR,bj er 35 (acc++mo) mG),(b3,bj er 35 mo s3)] (r2n.hp iD 142 (ds.filter (λd=> !jc (iM kn mo) d)))).symm) ?_;refine B 5 ?_;refine Qx (α:=Nat) (v:=λb:Nat=>.func (.func 101) #[] #[ptr b 0]) (bo:=λb=>(b,oC #[.map (some fG)] 137)) (Φ:=λ_=>True) call53 rfl rfl rfl (λW hS=>(nhp (some fG) W).mono (λe w1 h=>?_)) ?_
  ·obtain⟨b,h1,h2,h3,h4⟩:=h;exact⟨b,h1,h2,h3,trivial,h4⟩
  intro bk hak ald _;dsimp only at hak ald ⊢;replace hak:=yb hak;refine VI (enc:=er) (m:=35) (t:=35) (Fin:=λzs=>∃ys:List Se,ys.Perm ((ds.foldl (gP (iM kn mo)) []).map (·.1))/\zs=gO ys) (v:=id) call52 rfl rfl rfl (λW hS=>?_) ?_
  ·have TN:=hS.own (bk,_) A0;have TO:=hS.own (fG,gm.obj cB Value.bool (ds.foldl (gP (iM kn mo)) [])) A2;have Qs:(ds.foldl (gP (iM kn mo)) []).length<=100000:=by have:=Hx (iM kn mo) ds [];simp only[fO]at this;omega
   refine(nxl (Pre:=λp=>p.length<=(ds.foldl (gP (iM kn mo)) []).length) (Fin:=λys=>ys.Perm ((ds.foldl (gP (iM kn mo)) []).map (·.1))) (RO:=λk=>k=bk\/k=fG) (f:=101) (cap:=[ptr bk 0]) call101 W (λk hk=>?_) (λp hp=>by omega) (λW2 hB=>nVo fG bk gm qk W2 (by rw[hB.block bk (bA.1 TN).1];exact TN) (by rw[hB.block fG (bA.1 TO).1];exact TO)) (λys h=>by rw[h.length_eq,eO];omega)).mono ?_
   ·rcases hk with rfl|rfl
    ·exact(bA.1 TN).1
    exact(bA.1 TO).1
   rintro e w' ⟨ys,h1,h2⟩;exact⟨gO ys,⟨ys,h1,rfl⟩,h2⟩
  rintro _ r3n ⟨ys,xV,rfl⟩ abk TP;refine B 3 ?_;refine PJ.perm (abc (bk,oC #[.map (some fG)] 137) (gd,oC #[.map (some fG)] 137) (fG,gm.obj cB Value.bool (ds.foldl (gP (iM kn mo)) [])) (b5,oC #[.map (some gB)] 137) (gB,m.obj cB Value.bool (iM kn mo)) (lR,bj er 35 (acc++mo) mG) (b3,bj er 35 mo s3) (r3n.hp er 35 (gO ys)) (r2n.hp iD 142 (ds.filter (λd=> !jc (iM kn mo) d)))) ?_;refine PJ.dropAt (i:=0) rfl hak ?_;refine PJ.dropAt (i:=0) rfl lT ?_;refine PJ.dropAt (i:=0) rfl jR ?_;refine PJ.dropAt (i:=0) rfl (u9.elim (λh=>h.elim) id) ?_;refine PJ.again (⟨(Rw.row lR u7 mG).val (acc++mo).length,(iM kn mo),m,.row lR u7 mG,acc++mo,r3n,gO ys,r2n,(ds.filter (λd=> !jc (iM kn mo) d))⟩:Mv) ⟨(hI.step hne xV).1,hm,⟨abg,rS⟩,⟨abk,TP⟩,⟨abj,HE⟩,λy hy=>hIl y (uK.1 hy).1⟩ (hI.step hne xV).2 zR rfl rfl zJ
 intro av;refine B 12 ?_;have Bd:mo=[]:=my aa;have hE:=hI.end_ Bd;dsimp only at hE;refine QZ λWd yF=>?_;obtain⟨q,hqv,hqc,ale⟩:∃q:Option Addr×Nat,lv= .slice q.1 acc.length q.2/\acc.length<=q.2/\(acc=[]\/∃b c sp,r1= .row b c sp/\q.1=some ⟨b,0,none⟩):=by
  by_cases WJ:kn=[]
  ·obtain⟨h1,h2,h3,h4⟩:=hI.k0 WJ;dsimp only at h1 h3 h4;have h5:L0=[]:=by
    have h6:eF L0=[]:=by rw[<-Bd];exact h4.symm
    apply List.eq_nil_iff_forall_not_mem.2;intro s hs;have:=(Dt L0 s).2 hs;rw[h6]at this;cases this
   exact⟨(qa,qc),by rw[h1,h3,h5],by rw[h1];exact cY _,.inl h1⟩
  have h1:lv=r1.val acc.length:=hI.k1 WJ;cases r1 with
  |nil=>exact⟨(none,0),by rw[h1];have h2:acc=[]:=iI;rw[h2];rfl,by have h2:acc=[]:=iI;rw[h2];exact cY _,.inl iI⟩
  |row b c sp=>exact⟨(some ⟨b,0,none⟩,c),h1,iI.1,.inr ⟨b,c,sp,rfl,rfl⟩⟩
 refine bQ (.inl rfl) results26 bB λW hS=>⟨(q,acc),by rw[hqv];rfl,(hS.links w A1).below (λk hk hx=>by
  rcases hx with hx|hx
  ·exact hx
  simp only[gL,dL,ft,im,eX,ee,aY,cd]at hx;rcases hx with hx|hx|hx|hx|hx
  ·omega
  ·omega
  ·have:=Rw.mem_ge oH hx;omega
  ·have:=Rw.mem_ge qb hx;omega
  have:=Rw.mem_ge ey hx;omega),?_,hE,hqc⟩
 rcases ale with h|⟨b,c,sp,rfl,h⟩
 ·exact .inl h
 have h1:=hS.own (b,bj er 35 acc sp) oV;obtain⟨a9,c9,e9,h9⟩:=(Rw.row b c sp).sl (enc:=er) (t:=35) (N:=W.heap.size) (w:=W) nz iI h1 (aj _);simp only[Rw.val,Value.slice.injEq]at e9;rw[<-e9.1]at h9;rw[h];exact h9
section
variable {C:Cx} {Q:bC} {E:Env} {D:List Deferred} {L:List World} {H F:ad}
theorem PJ.unfz{e:Exit}(k:PJ C Q e E D Gh.no L H):PJ C Q e E D (dF F) L H:=λa W hN hD hF hS=>k a W hN hD hF hS.unfz
end
abbrev Ow:=Int×Int
def HF (x:Ow):Array Value:=#[ab x.1,ab x.2]
structure dY where
 fa:Option Addr
 fos:List Fo
 fc:Nat
 oa:Option Addr
 os:List Ow
 oc:Nat
 la:Option Addr
 cs:List Cm
 lc:Nat
 ga:Option Addr
 gs:List Gr
 gc:Nat
 ia:Option Addr
 xs:List Ir
 ic:Nat
 o5:Value
 o6:Value
 o7:Value
def rdA (r:dY):Array Value:=#[.slice r.fa r.fos.length r.fc,.slice r.oa r.os.length r.oc,.slice r.la r.cs.length r.lc,.slice r.ga r.gs.length r.gc,.slice r.ia r.xs.length r.ic,r.o5,r.o6,r.o7]
structure gQ (r:dY):Prop where
 fl:r.fos.length<=10
 ol:r.os.length<=20
 cl:r.cs.length<=10
 cg:∀c∈r.cs,bN c
 gl:r.gs.length<=10
 gg:∀g∈r.gs,pR g
 il:r.xs.length<=10
 ii:∀x∈r.xs,ku x
structure fg (N:Nat) (w:World) (r:dY):Prop where
 f:ai qR 33 N w r.fa r.fos
 o:ai HF 2 N w r.oa r.os
 c:ai cM 73 N w r.la r.cs
 C:∀c∈r.cs,dB N w c
 g:ai tX 39 N w r.ga r.gs
 G:∀g∈r.gs,sE N w g
 i:ai Bi 68 N w r.ia r.xs
 I:∀x∈r.xs,gF N w x.ba x.body
theorem fg.up{N N':Nat}{w':World}{r:dY}(h:fg N w r)(hN:N<=N')(hw:∀k,k<N->w'.heap[k]? =w.heap[k]?):fg N' w' r:=
 ⟨h.f.up hN hw,h.o.up hN hw,h.c.up hN hw,λc hc=>(h.C c hc).up hN hw,h.g.up hN hw,λg hg=>(h.G g hg).up hN hw,h.i.up hN hw,λx hx=>(h.I x hx).up hN hw⟩
noncomputable def dY.D (r:dY) (Z:Fx):List (List Se×Se):=oJ Z r.cs r.fos r.gs r.xs
def qw (os:List Ow) (dv:Int):List Se:=(os.filter λo=>decide (o.1=dv)).map λo=>aO o.2
def rp (ps:List Ap) (dv:Int):List Se:=(ps.filter λp=>decide (p.1.author=dv)).map λp=>nj (dk p.2.2.2.last) 0
noncomputable def dY.fs0 (r:dY) (Z:Fx) (dv:Int):List Se:=qw r.os dv++rp (eQ Z r.cs r.fos) dv
noncomputable def dY.fs (r:dY) (Z:Fx) (dv:Int):List Se:=eF (r.fs0 Z dv)
theorem n1j{os:List Ow}{dv:Int}{o:Ow}(h:os[j]? =some o)(e:o.1=dv):qw (os.take (j+1)) dv=qw (os.take j) dv++[aO o.2]:=by unfold qw;rw[np h,List.filter_append];simp[e]
theorem nfm{os:List Ow}{dv:Int}{o:Ow}(h:os[j]? =some o)(e:¬o.1=dv):qw (os.take (j+1)) dv=qw (os.take j) dv:=by unfold qw;rw[np h,List.filter_append];simp[e]
theorem nMj{dv:Int}(h:pls[j]? =some p)(e:p.c.author=dv):rp ((pls.take (j+1)).map aV) dv=rp ((pls.take j).map aV) dv++[nj (dk p.x.g.last) 0]:=by simp_all[rp,np,aV]
theorem nOm{dv:Int}(h:pls[j]? =some p)(e:¬p.c.author=dv):rp ((pls.take (j+1)).map aV) dv=rp ((pls.take j).map aV) dv:=by simp_all[rp,np,aV]
theorem nPj(os:List Ow)(dv:Int):(qw os dv).length<=os.length:=by unfold qw;rw[eO];exact Sa _ _
theorem njk(ps:List Ap)(dv:Int):(rp ps dv).length<=ps.length:=by unfold rp;rw[eO];exact Sa _ _
inductive An (D:List (List Se×Se)) (L0:List Se):Se->Prop
 |base {s:Se}:s∈L0->An D L0 s
 |step {d:List Se×Se}:d∈D->(∀f∈d.1,An D L0 f)->An D L0 d.2
theorem pS.iff{ls:List Se}(h:pS D0 L0 lim ls)(s:Se):s∈ls↔An D0 L0 s:=by
 constructor
 ·intro hs;obtain⟨i,hi⟩:=jG.1 hs;clear hs;induction i using Nat.strongRecOn generalizing s with
  |_ i ih=>
   rcases h.ord i s hi with h1|⟨d,h1,h2,h3⟩
   ·exact .base h1
   rw[<-h2];refine .step h1 λf hf=>?_;obtain⟨j,hj⟩:=jG.1 (h3 f hf);have hl:=nq hj;rw[jM]at hl;rw[RX aa]at hj;exact ih j aa f hj
 intro hs;induction hs with
 |base h1=>exact h.l0 _ h1
 |step h1 _ ih=>exact h.cl _ h1 ih
theorem An.mono{D D':List (List Se×Se)}{L L':List Se}(hD:∀d∈D,d∈D')(hL:∀s∈L,s∈L'){s:Se}(h:An D L s):An D' L' s:=by
 induction h with
 |base h1=>exact .base (hL _ h1)
 |step h1 _ ih=>exact .step (hD _ h1) ih
theorem ntm{ls:List Se}(h:pS D0 L0 lim ls)(s:Se):s∈eF ls↔An D0 L0 s:=(Dt _ _).trans (h.iff s)
section
variable (hZ:FxOk Z)(r:dY)(hr:gQ r)(N:Nat)(w:World)(hN:N<=w.heap.size)(hrA:fg N w r)(hg:Glb w)
include hZ hr N hN hrA hg
theorem nhg(a0 a1:Addr)(hse:Sen w a0 a1)(qa:Option Addr)(L0:List Se)(qc:Nat)(hql:L0.length<=50000)(hqs:ai seA 35 N w qa L0):Calls prog 26 #[.agg (rdA r),.slice qa L0.length qc] w (cZ w (λq:(Option Addr×Nat)×List Se=>.slice q.1.1 q.2.length q.1.2) (λq w1=>ai seA 35 w1.heap.size w1 q.1.1 q.2/\pS (r.D Z) L0 71000 q.2/\q.2.length<=q.1.2)):=
 nNp hZ r.cs (eE hr.cl zA) hr.cg N r.la r.lc w hN hrA.c hrA.C r.fa r.fos r.fc hr.fl hr.cl hrA.f r.ga r.gs r.gc hr.gl hrA.g hr.gg hrA.G r.ia r.xs r.ic hr.il hrA.i hr.ii hrA.I _ r.o5 r.o6 r.o7 hg a0 a1 hse qa L0 qc hql hqs
theorem n5e(dv:Int):Calls prog 11 #[.agg (rdA r),ab dv] w (aD w er 35 35 (r.fs Z dv) id):=by
 have hg4:=hg.lt;have Ad:=hr.ol;refine nB (dF []) [] (vs:=[_,_]) func11 rfl ntmps11 rfl (Lm w) ?_;refine cH 2 ?_;intro b2 w2 dw bX fB dJ dH;refine aE 7 (.slice r.oa r.os.length r.oc) ?_;refine B 5 ?_;refine CJ.loop (α:=Rw×Nat) (λp=>[(1,ab dv),(2,ptr b2 0),(4,p.1.val (qw (r.os.take p.2) dv).length),(10,.slice r.oa r.os.length r.oc),(11,ab (r.os.length:Int)),(12,ab (p.2:Int))]) (λp=>p.1.hp er 35 (qw (r.os.take p.2) dv)++[]) (λp=>[w2,w]) (λp=>dF []) (λp=>p.2<=r.os.length/\p.1.Fr (dF []) [w2,w]/\p.1.Fit 35 (qw (r.os.take p.2) dv)) (λp=>r.os.length-p.2) (.nil,0) ⟨cY _,True.intro,rfl⟩ zR rfl rfl zJ ?_;rintro⟨ro,j⟩ ⟨hj,aM,ae⟩;dsimp only at hj aM ae ⊢;have bJ:ro.ge w2.heap.size:=Rw.ge_fz aM A0;refine aG 6 ?_ ?_
 ·intro av;refine B 5 ?_;have Hk:=hrA.o;obtain⟨bo,oo,cs0,to,fC,eZ,fE,bW,aS⟩:=Hk.get aa;obtain⟨o,ho⟩:=ng r.os j aa;rw[eZ];refine aE 2 (.agg (HF o)) ?_;refine bH 1 ?_;intro b6 ky ri;refine aE 6 (ab o.1) ?_;refine aG 4 ?_ ?_
  ·intro aR;refine aE 3 (ab o.2) ?_;refine zxe ?_;refine L5 ?_;refine yW ?_;intro lR Q2 Q3;refine kz (r:=ro) (xs:=(qw (r.os.take j) dv)) (zs:=[(aO o.2)]) (enc:=er) (m:=35) (H0:=[(lR,oC (seA (aO o.2)) 35),(b6,oC (HF o) 71)]) (H1:=[]) zX WH nz rfl rfl rfl rfl (cD.one (z:=aO o.2) nz Pe underlying38 (bE.own (i:=0) rfl)) ae aM zJ (by have h9:=nPj (r.os.take j) dv;rw[jM]at h9;simp only[dO,fO];omega) ?_;intro VG Q4 Q5 za zb;replace za:=yb za;refine zc ?_;refine PJ.again (Rw.row VG Q4 Q5,j+1) ⟨by dsimp only;omega,za.elim (λh=>Rw.Fr_at aM h) (λh=>.inr h),by dsimp only;rw[n1j ho cV];exact zb⟩ zW ⟨rfl,rfl,by dsimp only;rw[n1j ho cV];rfl,rfl,rfl,rfl,trivial⟩ (by dsimp only;rw[n1j ho cV];rfl) rfl zJ
  intro aR;refine xW ?_;refine PJ.again (ro,j+1) ⟨by dsimp only;omega,aM,by dsimp only;rw[nfm ho cV];exact ae⟩ zW ⟨rfl,rfl,by dsimp only;rw[nfm ho cV];rfl,rfl,rfl,rfl,trivial⟩ (by dsimp only;rw[nfm ho cV];rfl) rfl zJ
 intro av;refine B 7 ?_;have cF:r.os.take j=r.os:=iz aa;rw[cF]at ae ⊢;have how:=nPj r.os dv;refine aE 1 (.agg (rdA r)) ?_;refine Pd (γ:=(Option Addr×Nat)×List Pl) (v:=λq=>.slice q.1.1 q.2.length q.1.2) (Φ:=λF' q=>q.2.map aV=eQ Z r.cs r.fos/\(∀p∈q.2,Du F' p/\p.c∈r.cs)/\q.2.length<=100/\iK (λx=>(Ak x).toArray) 111 F' q.1.1 q.2) call30 rfl rfl rfl (λW hS=>?_) ?_
 ·have Zo:=hrA.up (aj _) (hS.same A1 hN zH zD);exact nbi hZ r.cs (eE hr.cl zA) hr.cg N r.la r.lc W cJ Zo.c Zo.C r.fa r.fos r.fc hr.fl hr.cl Zo.f _ _ _ r.o5 r.o6 r.o7 (hg.old hS A1 zH zD)
 rintro⟨⟨pa,yt⟩,pls⟩ F1 ⟨lQ,DC,gj,yu⟩ wB;dsimp only at lQ DC gj yu ⊢;have yu:iK kU 111 F1 pa pls:=yu;obtain⟨F,hFe⟩:∃F,F1++[]=F:=⟨_,rfl⟩;rw[hFe];have yu:iK kU 111 F pa pls:=yu.mono (λq hq=>hFe▸aY.2 (.inl hq));have iV:ro.Fr (dF F) [w2,w]:=by
  cases ro with
  |nil=>trivial
  |row b c sp=>exact aM.elim (λh=>h.elim) .inr
 refine B 5 ?_;refine CJ.loop (α:=Rw×Nat) (λp=>[(1,ab dv),(4,p.1.val (qw r.os dv++rp ((pls.take p.2).map aV) dv).length),(28,.slice pa pls.length yt),(29,ab (pls.length:Int)),(30,ab (p.2:Int))]) (λp=>p.1.hp er 35 (qw r.os dv++rp ((pls.take p.2).map aV) dv)++[]) (λp=>[w2,w]) (λp=>dF F) (λp=>p.2<=pls.length/\p.1.Fr (dF F) [w2,w]/\p.1.Fit 35 (qw r.os dv++rp ((pls.take p.2).map aV) dv)) (λp=>pls.length-p.2) (ro,0) ⟨cY _,iV,by dsimp only;rw[show rp ((pls.take 0).map aV) dv=[]from rfl,ee];exact ae⟩ ⟨rfl,by dsimp only;rw[show rp ((pls.take 0).map aV) dv=[]from rfl,ee];rfl,rfl,rfl,rfl,trivial⟩ (by dsimp only;rw[show rp ((pls.take 0).map aV) dv=[]from rfl,ee (qw r.os dv)]) rfl zJ ?_;rintro⟨ro,i⟩ ⟨hi,aM,ae⟩;dsimp only at hi aM ae ⊢;have bJ:ro.ge w2.heap.size:=Rw.ge_fz aM A0;refine aG 6 ?_ ?_
 ·intro dm;refine B 5 ?_;obtain⟨bp,op,csp,tp,frp,WT,BL,hcp⟩:=yu.get aa;obtain⟨p,hp⟩:=ng pls i aa;refine B 1 ?_;refine zMd ?_;refine bH 1 ?_;intro b8 CZ Jc;refine aE 7 (ab p.c.author) ?_;refine aG 4 ?_ ?_
  ·intro je;refine B 4 ?_;refine JA ?_;refine zre ?_;refine L5 ?_;refine yW ?_;intro b44 ap0 ap1;refine kz (r:=ro) (xs:=(qw r.os dv++rp ((pls.take i).map aV) dv)) (zs:=[(nj (dk p.x.g.last) 0)]) (enc:=er) (m:=35) (H0:=[(b44,oC (seA (nj (dk p.x.g.last) 0)) 35),(b8,oC (kU p) 92)]) (H1:=[]) zX WH nz rfl rfl rfl rfl (cD.one (z:=nj (dk p.x.g.last) 0) nz Pe underlying38 (bE.own (i:=0) rfl)) ae aM zJ (by have h9:=njk ((pls.take i).map aV) dv;rw[eO,jM]at h9;simp only[cO,dO,fO];omega) ?_;intro b45 alm aln TQ TR;replace TQ:=yb TQ;refine zc ?_;refine PJ.again (Rw.row b45 alm aln,i+1) ⟨by dsimp only;omega,TQ.elim (λh=>Rw.Fr_at aM h) (λh=>.inr h),by dsimp only;rw[nMj hp cV,<-jh];exact TR⟩ zW ⟨rfl,by dsimp only;rw[nMj hp cV,<-jh];rfl,rfl,rfl,rfl,trivial⟩ (by dsimp only;rw[nMj hp cV,<-jh];rfl) rfl zJ
  intro je;refine xW ?_;refine PJ.again (ro,i+1) ⟨by dsimp only;omega,aM,by dsimp only;rw[nOm hp cV];exact ae⟩ zW ⟨rfl,by dsimp only;rw[nOm hp cV];rfl,rfl,rfl,rfl,trivial⟩ (by dsimp only;rw[nOm hp cV];rfl) rfl zJ
 intro dm;refine B 6 ?_;have Ft:pls.take i=pls:=iz aa;rw[Ft,lQ]at ae ⊢;have tD:=njk (eQ Z r.cs r.fos) dv;have ap2:(eQ Z r.cs r.fos).length<=100:=by rw[<-lQ,eO];exact gj
 refine B 2 ?_;refine Jj (enc:=er) (m:=35) (t:=35) (xs:=r.fs Z dv) (v:=id) (first:=[]) (cap:=[]) rfl call32 rfl rfl rfl (λW hS=>?_) ?_
 ·obtain⟨a9,c9,e9,h9⟩:=ro.sl (enc:=er) (t:=35) (N:=W.heap.size) (w:=W) nz ae (by
   cases ro with
   |nil=>trivial
   |row b c sp=>exact hS.own (b,_) oV) (aj _)
  have h8:=nRg (r.fs0 Z dv) (by unfold dY.fs0;rw[cO];omega) W.heap.size a9 c9 W (aj _) h9;have e8:(Value.slice a9 (r.fs0 Z dv).length c9)=ro.val (qw r.os dv++rp (eQ Z r.cs r.fos) dv).length:=e9.symm;rw[e8]at h8;exact h8
 intro r9 TS HG;have oG:r9.ge w2.heap.size:=Rw.ge_fz TS A0;refine B 4 ?_;refine PJ.unfz ?_;exact nQ (H0:=[]) (H1:=_) (r:=r9) (.inl rfl) results11 bB A1 (by refine nC.2 ⟨Rw.over (Rw.ge_mono oG aa),?_⟩;rw[ee];exact Rw.over (Rw.ge_mono bJ aa)) rfl HG (Rw.ge_mono oG aa) rfl
theorem nlg(a0 a1:Addr)(hse:Sen w a0 a1)(qa:Option Addr)(L0:List Se)(qc:Nat)(hql:L0.length<=50000)(hqs:ai seA 35 N w qa L0):Calls prog 15 #[.agg (rdA r),.slice qa L0.length qc] w (λe w'=>∃ls,pS (r.D Z) L0 71000 ls/\aD w er 35 35 (eF ls) id e w'):=by
 refine eN func15 ntmps15 ?_;refine cH 2 ?_;intro b2 w2 dw bX fB dJ dH;refine aE 5 (.agg (rdA r)) ?_;refine B 1 ?_;refine nv (α:=(Option Addr×Nat)×List Se) (v:=(λq:(Option Addr×Nat)×List Se=>.slice q.1.1 q.2.length q.1.2)) (Φ:=λW q w1=>ai seA 35 w1.heap.size w1 q.1.1 q.2/\pS (r.D Z) L0 71000 q.2/\q.2.length<=q.1.2) call26 rfl rfl rfl (λW hS=>nhg hZ r hr N W cJ (hrA.up (aj _) hS.sm) (hg.old hS A1 zH trivial) a0 a1 (hse.old hS A1) qa L0 qc hql (hqs.up (aj _) hS.sm)) ?_;rintro Wq ⟨⟨Py,JG⟩,ls⟩ wq Cf RJ ⟨oK,kQ,Jf⟩;dsimp only at oK kQ Jf ⊢;have Mz:=kQ.ln;refine Jj (enc:=er) (m:=35) (t:=35) (xs:=eF ls) (v:=id) (first:=[]) (cap:=[]) rfl call32 rfl rfl rfl (λW hS=>nRg ls aa wq.heap.size Py JG W (hS.links wq A0).size (oK.up (aj _) (hS.same A0 (aj _) zH trivial))) ?_;intro r9 TS HG;have oG:r9.ge w.heap.size:=Rw.ge_of TS A2;refine B 4 ?_;exact bQ (.inl rfl) results15 bB λW hS=>⟨ls,kQ,r9,rfl,hS.base A2 (by rw[ee];exact Rw.over oG),oG,HG,by cases r9 with|nil=>exact True.intro|row b cap sp=>exact hS.own _ A0⟩
theorem nVe(a0 a1:Addr)(hse:Sen w a0 a1)(dv:Int)(s:Se)(jl:(r.fs Z dv).length<=200):Calls prog 10 #[.agg (rdA r),ab dv,cB s] w (cZ w (λb:Bool=>.bool b) (λb _=>∃ls,pS (r.D Z) (r.fs Z dv) 71000 ls/\b=decide (s∈ls))):=by
 refine eN func10 ntmps10 ?_;refine cH 2 ?_;intro b3 w3 dA cX fT eC ff;refine yX ?_;intro b5 w5 AP QW Yo rF rG;refine B 4 ?_;refine eS 6 3 [4] (sp:=[some (.agg (rdA r)),some (.agg (rdA r)),_,_,_,some (cB s)]) (h:=?_);intro _ _ hk;refine zYd ?_;intro Wf af cf wf hSf hBf Ao Pz;refine zG ?_;intro _ _ hk;have PA:ai seA 35 wf.heap.size wf af (r.fs Z dv):=Ao;refine zkd ?_;rintro Wq ⟨⟨Py,JG⟩,ls⟩ wq Cf RJ ⟨oK,kQ,Jf⟩;dsimp only at oK kQ Jf ⊢;refine zE ?_;have Mz:=kQ.ln;refine call (v:=.bool (decide (s∈ls))) call28 rfl rfl rfl (λW hS=>nxn ls aa wq.heap.size Py JG W (hS.links wq A0).size (oK.up (aj _) (hS.same A0 (aj _) zH trivial)) s) ?_;refine B 4 ?_;refine sQ (decide (s∈ls)) results10 rfl A4 rfl ?_;exact λW hS=>⟨ls,kQ,rfl⟩
theorem nMl(a0 a1:Addr)(hse:Sen w a0 a1)(dv:Int)(s:Se)(jl:(r.fs Z dv).length<=200):Calls prog 9 #[.agg (rdA r),ab dv,cB s] w (cZ w (λq:((Option Addr×Nat)×List Se)×Bool=>.tuple #[.slice q.1.1.1 q.1.2.length q.1.1.2,.bool q.2]) (λq w1=>ai seA 35 w1.heap.size w1 q.1.1.1 q.1.2/\q.1.2.length<=q.1.1.2/\∃ls,pS (r.D Z) (r.fs Z dv) 71000 ls/\((s∉ls/\q.1.2=[]/\q.2=false)\/∃j,ls[j]? =some s/\q.1.2=ls.take (j+1)/\q.2=true))):=by
 refine eN func9 ntmps9 ?_;refine cH 2 ?_;intro b3 w3 dA cX fT eC ff;refine yX ?_;intro b5 w5 AP QW Yo rF rG;refine B 5 ?_;refine eS 4 3 [] (sp:=[some (.agg (rdA r)),some (.agg (rdA r)),_,_]) (h:=?_);intro _ _ hk;refine zYd ?_;intro Wf af cf wf hSf hBf Ao Pz;refine zE ?_;have PA:ai seA 35 wf.heap.size wf af (r.fs Z dv):=Ao;refine zkd ?_;rintro Wq ⟨⟨Py,JG⟩,ls⟩ wq Cf RJ ⟨oK,kQ,Jf⟩;dsimp only at oK kQ Jf ⊢;have Mz:=kQ.ln;refine aE 6 (cB s) ?_;refine call (v:=ab (Gy ls (λy=>decide (s=y)))) call27 rfl rfl rfl (λW hS=>n3l ls aa wq.heap.size Py JG W (hS.links wq A0).size (oK.up (aj _) (hS.same A0 (aj _) zH trivial)) s) ?_;refine B 5 ?_;have Dw:=n0l (λy=>decide (s=y)) ls;obtain⟨ix,alv⟩:∃ix,Gy ls (λy=>decide (s=y))=ix:=⟨_,rfl⟩;rw[alv]at Dw ⊢;refine aG 5 ?_ ?_
 ·intro av;refine B 8 ?_;refine bQ (.inl rfl) results9 bB λW hS=>?_;refine⟨(((none,0),[]),false),rfl,hS.base A4 trivial,.inl rfl,aj _,ls,kQ,.inl ⟨λhm=>?_,rfl,rfl⟩⟩;rcases Dw with⟨_,h2⟩|⟨j,x,h1,_⟩
  ·have:=h2 s hm;simp at this
  omega
 intro av;refine B 3 ?_;obtain⟨j,y,rfl,hy,xV,_⟩:=Dw.resolve_left (λh=>by have:=h.1;omega);obtain rfl:s=y:=by simpa using xV
 have BT:=nq hy;obtain⟨bo,oo,cs0,to,fC,rfl,fE,bW,aS⟩:=oK.get aa;refine aE 3 (ab ((j+1:Nat):Int)) ?_;refine rq (.slice (some ⟨bo,oo,none⟩) (ls.take (j+1)).length JG) (eL (h:=j+1) underlying38 sizeOf35 rfl ⟨_,_,rfl,rfl⟩ aa) ZG ?_;refine B 5 ?_;refine bQ (.inl rfl) results9 bB λW hS=>?_;refine⟨((((some ⟨bo,oo,none⟩),JG),ls.take (j+1)),true),rfl,hS.base A4 trivial,?_,by dsimp only;rw[jM];omega,ls,kQ,.inr ⟨j,hy,rfl,rfl⟩⟩;have h9:=hS.old A0 bW zI trivial;exact .inr ⟨bo,oo,cs0,to,fC,rfl,(bA.1 h9).1,h9,λi hi=>by rw[jM]at hi;rw[List.getElem_take];exact aS i aa⟩
end
def epL (l:List Se):List Dk:=(l.filter λs=>decide (s.kind=3)).map λs=>s.com
theorem nZj{l:List Se}{s:Se}(h:l[j]? =some s)(e:s.kind=3):epL (l.take (j+1))=epL (l.take j)++[s.com]:=by unfold epL;rw[np h,List.filter_append];simp[e]
theorem nFm{l:List Se}{s:Se}(h:l[j]? =some s)(e:¬s.kind=3):epL (l.take (j+1))=epL (l.take j):=by unfold epL;rw[np h,List.filter_append];simp[e]
theorem MA(l:List Se):(epL l).length<=l.length:=by unfold epL;rw[eO];exact Sa _ _
theorem n3p(hZ:FxOk Z)(r:dY)(hr:gQ r)(N:Nat)(w:World)(hN:N<=w.heap.size)(hrA:fg N w r)(hg:Glb w)(a0 a1:Addr)(hse:Sen w a0 a1)(dv:Int)(jl:(r.fs Z dv).length<=200):Calls prog 21 #[.agg (rdA r),ab dv] w (λe w'=>∃ls,pS (r.D Z) (r.fs Z dv) 71000 ls/\aD w cW 32 33 (epL (eF ls)) id e w'):=by
 refine eN func21 ntmps21 ?_;refine cH 2 ?_;intro b2 w2 dw bX fB dJ dH;refine B 5 ?_;refine eS 7 3 [4,5] (sp:=((some (.agg (rdA r)))::(some (.agg (rdA r)))::_)) (h:=?_);intro _ _ hk;refine nH (enc:=er) (m:=35) (t:=35) (xs:=(r.fs Z dv)) (v:=id) (first:=[]) (cap:=[]) rfl call11 rfl rfl rfl nz (λW hS=>n5e hZ r hr N W cJ (hrA.up (aj _) hS.sm) (hg.old hS A1 zH trivial) dv) ?_;intro Wf af cf wf hSf hBf Ao Pz;refine zG ?_;intro _ _ hk;have PA:ai seA 35 wf.heap.size wf af (r.fs Z dv):=Ao;refine MB (enc:=er) (m:=35) (t:=35) (v:=id) (Φ:=λ_ _ zs=>∃ls,pS (r.D Z) (r.fs Z dv) 71000 ls/\zs=eF ls) call15 rfl rfl rfl nz (λW hS=>(nlg hZ r hr W.heap.size W (aj _) (hrA.up cJ hS.sm) (hg.old hS A2 zH trivial) a0 a1 (hse.old hS A2) af (r.fs Z dv) cf aa (Ao.up (hS.links wf A0).size (hS.same A0 (aj _) zH trivial))).mono ?_) ?_
 ·rintro e w' ⟨ls,h1,h2⟩;exact⟨eF ls,⟨ls,h1,rfl⟩,h2⟩
 rintro Wq zs Py JG wq Cf RJ ⟨ls,kQ,rfl⟩ oK OU;refine zG ?_;intro _ _ hk;refine B 1 ?_;refine zE ?_;have Mz:=kQ.ln;have aly:=noi ls;obtain⟨zs,uy⟩:∃zs,eF ls=zs:=⟨_,rfl⟩;rw[uy]at oK aly ⊢;have oK:ai seA 35 wq.heap.size wq Py zs:=oK;refine B 3 ?_;refine CJ.loop (α:=Rw×Nat) (λp=>[(4,p.1.val (epL (zs.take p.2)).length),(11,.slice Py zs.length JG),(12,ab (zs.length:Int)),(13,ab (p.2:Int))]) (λp=>p.1.hp cW 33 (epL (zs.take p.2))++[]) (λp=>[wq,wf,w2,w]) (λp=>Gh.no) (λp=>p.2<=zs.length/\p.1.Fr Gh.no [wq,wf,w2,w]/\p.1.Fit 32 (epL (zs.take p.2))) (λp=>zs.length-p.2) (.nil,0) ⟨cY _,True.intro,rfl⟩ zR rfl rfl zJ ?_;rintro⟨ro,j⟩ ⟨hj,aM,ae⟩;dsimp only at hj aM ae ⊢;have bJ:ro.ge wq.heap.size:=Rw.ge_of aM A0;refine aG 6 ?_ ?_
 ·intro av;refine B 5 ?_;obtain⟨bo,oo,cs0,to,fC,eZ,fE,bW,aS⟩:=oK.get aa;obtain⟨x,hx⟩:=ng zs j aa;refine B 1 ?_;refine rv rfl rfl rfl (bK underlying38 sizeOf35 (congrArg (λq=>some (Value.slice q zs.length JG)) eZ) rfl aa aa) ?_;refine dp (.agg (seA x)) ?_;refine bH 1 ?_;intro b6 ky ri;refine aE 6 (ab x.kind) ?_;refine aG 3 ?_ ?_
  ·intro aR;refine aE 3 (.agg (dg (fw x.com))) ?_;refine z2d ?_;refine yW ?_;intro b23 Yl QS;refine kz (r:=ro) (xs:=(epL (zs.take j))) (zs:=[(dk (fw x.com))]) (enc:=cW) (m:=32) (H0:=[(b23,oC (dg (fw x.com)) 33),(b6,oC (seA x) 35)]) (H1:=[]) zX nbj yk rfl rfl rfl rfl (cD.one (z:=dk (fw x.com)) yk WA underlying72 (bE.own (i:=0) rfl)) ae aM zJ (by have h9:=MA (zs.take j);rw[jM]at h9;simp only[dO,fO];omega) ?_;intro lR u7 mG qE rS;replace qE:=yb qE;refine zc ?_;refine PJ.again (Rw.row lR u7 mG,j+1) ⟨by dsimp only;omega,qE.elim (λh=>Rw.Fr_at aM h) (λh=>.inr h),by dsimp only;rw[nZj hx cV,<-Dp x.com];exact rS⟩ zW ⟨by dsimp only;rw[nZj hx cV,<-Dp x.com];rfl,rfl,rfl,rfl,trivial⟩ (by dsimp only;rw[nZj hx cV,<-Dp x.com];rfl) rfl zJ
  intro aR;refine xW ?_;refine PJ.again (ro,j+1) ⟨by dsimp only;omega,aM,by dsimp only;rw[nFm hx cV];exact ae⟩ zW ⟨by dsimp only;rw[nFm hx cV];rfl,rfl,rfl,rfl,trivial⟩ (by dsimp only;rw[nFm hx cV];rfl) rfl zJ
 intro av;refine B 6 ?_;have cF:zs.take j=zs:=iz aa;rw[cF,<-uy]at ae ⊢;refine B 6 ?_;exact bQ (.inl rfl) results21 bB λW hS=>⟨ls,kQ,ro,rfl,hS.base A3 (by rw[ee];exact Rw.over (Rw.ge_of aM A3)),Rw.ge_of aM A3,ae,by cases ro with|nil=>exact True.intro|row b cap sp=>exact hS.own _ A0⟩
def tY (r:dY):Bool:=decide (r.fos.length<=3)&&Cu r.cs&&decide (r.gs.length<=4)&&decide (r.xs.length<=4)&&decide (r.os.length<=20)&&r.gs.all λg=>decide (g.olds.length<=6)
structure sG (r:dY):Prop where
 f:r.fos.length<=9223372036854775807
 g:r.gs.length<=9223372036854775807
 x:r.xs.length<=9223372036854775807
 o:r.os.length<=9223372036854775807
 c:∀c∈r.cs,Gn c
theorem n0n(r:dY)(hl:sG r)(N:Nat)(w:World)(hN:N<=w.heap.size)(hrA:fg N w r):Calls prog 8 #[.agg (rdA r)] w (aP w (.bool (tY r))):=by
 refine eN func8 ntmps8 ?_;refine cH 2 ?_;intro b1 w1 hb1 cK gS fX jK;refine aE 7 (.slice r.fa r.fos.length r.fc) ?_;refine B 3 ?_;refine ni (t:=8) rfl (λav=>?_) (λav=>?_)
 ·replace av:=ya av;refine B 33 ?_;exact TT
 replace av:=ya av;refine aE 1 (.slice r.la r.cs.length r.lc) ?_;refine call call25 rfl rfl rfl (λW hS=>LW r.cs hl.c N r.la r.lc W cJ (hrA.c.up (aj _) hS.sm) (λc hc=>(hrA.C c hc).up (aj _) hS.sm)) ?_;refine B 3 ?_;refine ni (t:=14) rfl (λaR=>?_) (λaR=>?_)
 ·replace aR:=ya aR;refine B 27 ?_;exact TT
 replace aR:=ya aR;refine B 1 ?_;refine z1e ?_;refine B 4 ?_;refine ni (t:=20) rfl (λdm=>?_) (λdm=>?_)
 ·replace dm:=ya dm;refine B 21 ?_;exact TT
 replace dm:=ya dm;refine aE 1 (.slice r.ia r.xs.length r.ic) ?_;refine B 4 ?_;refine ni (t:=26) rfl (λje=>?_) (λje=>?_)
 ·replace je:=ya je;refine B 15 ?_;exact TT
 replace je:=ya je;refine aE 1 (.slice r.oa r.os.length r.oc) ?_;refine aG 5 ?_ ?_
 ·intro ib;refine B 7 ?_;exact TT
 intro ib;refine B 9 ?_;refine CJ.lp (α:=Nat) [1] (λj=>[(3,ab (j:Int))]) (λj=>[]) (λj=>j<=r.gs.length/\(r.gs.take j).all (λg:Gr=>decide (g.olds.length<=6))=true) (λj=>r.gs.length-j) 0 ⟨cY _,rfl⟩ ?_;rintro j ⟨hj,Al⟩;refine B 5 ?_;refine z1e ?_;refine aG 4 ?_ ?_
 ·intro kX;refine B 5 ?_;have alz:=hrA.g;obtain⟨bg,og,csg,tg,frg,hpg,Cy,aa1,kN⟩:=alz.get aa;obtain⟨g,Ms⟩:=ng r.gs j aa;refine B 2 ?_;refine rq (.slice (some ⟨bg,og,none⟩) r.gs.length r.gc) (ar isAgg25 rfl A0 hb1 cK trivial rfl) (by show Value.slice r.ga r.gs.length r.gc=_;rw[hpg]) ?_;refine B 3 ?_;refine rv rfl rfl rfl (ar (v:=.slice g.oa g.olds.length g.oc) isAgg85 rfl A1 aa1 zI trivial (by have:=vh kN Ms rfl 36 zA;simpa[tX]using this)) ?_;refine aG 4 ?_ ?_
  ·intro jW;refine B 11 ?_;exact TT
  intro jW;refine B 8 ?_;refine ag (j+1) ⟨by omega,nmg Al Ms (decide_eq_true aa)⟩
 intro kX;refine B 6 ?_;have cF:=noh Al aa;refine B 5 ?_;exact TT
theorem n3f(a:Int)(k:Nat)(m:Int):(a%m)^k%m=a^k%m:=by
 induction k with
 |zero=>rw[Int.pow_zero,Int.pow_zero]
 |succ k ih=>rw[Int.pow_succ,Int.pow_succ,Int.mul_emod,ih,Int.emod_emod,<-Int.mul_emod]
theorem nAo(h:eg a):a^2305843009213688669%4611686018427377339=1:=by grind [nEj]
theorem MC(h:eg a)(k:Nat):a^k%4611686018427377339=a^(k%2305843009213688669)%4611686018427377339:=by
 have h1:∀q r:Nat,a^(2305843009213688669*q+r)%4611686018427377339=a^r%4611686018427377339:=by
  intro q r;have h0:=nAo h
  revert h0
  generalize (2305843009213688669:Nat)=Q;intro h0;rw[Int.pow_add,Int.pow_mul,Int.mul_emod,<-n3f (a^Q) q,h0,Int.one_pow];simp
 all_goals grind [Nat.div_add_mod]
theorem MD(h:eg a)(k:Nat):eg (a^k%4611686018427377339):=by
 have hb:0<=a^k%4611686018427377339/\a^k%4611686018427377339<4611686018427377339:=⟨Int.emod_nonneg _ zA,Int.emod_lt_of_pos _ zA⟩;have h1:uV (a^k%4611686018427377339) 2305843009213688669 4611686018427377339=1:=by
  rw[nEj _ _ _ zA zA];show _^(2305843009213688669:Nat)%_=_;have h0:=nAo h
  revert h0
  generalize (2305843009213688669:Nat)=Q;intro h0;rw[n3f,<-Int.pow_mul,I8,Int.pow_mul,<-n3f (a^Q),h0,Int.one_pow];rfl
 refine⟨?_,hb.2,h1⟩;rcases Int.lt_or_le 0 (a^k%4611686018427377339)with h2|h2
 ·omega
 have h3:a^k%4611686018427377339=0:=by omega
 rw[h3]at h1;exact absurd h1 (by decide +kernel)
theorem geP(hZ:FxOk Z)(h:eg a){k:Int}(hk:q9 k):(Z.ge a k).1=a^k.toNat%4611686018427377339:=by
 rw[<-hZ.ge];unfold gExp;rw[if_pos h,if_pos hk];exact nEj a _ _ hk.1 zA
theorem PC(hZ:FxOk Z)(h:eg a){k:Int}(hk:q9 k):eg (Z.ge a k).1:=by rw[geP hZ h hk];exact MD h _
theorem WX(hZ:FxOk Z){k:Int}(hk:q9 k):eg (Z.ge 4 k).1:=PC hZ BS hk
theorem ME(hZ:FxOk Z){x:Int}(hx:DY x)(msg:List UInt8):pA Z (Z.ge 4 x).1 msg (rR Z x msg) (wQ Z x msg)=true:=by
 have hn:=hZ.bd (⟨#[110,111,110,99,101]⟩:ByteArray) (AO [x]++msg);have hc:∀r p,1<=C9 Z r p msg/\C9 Z r p msg<2305843009213688669:=λr p=>hZ.bd _ _;unfold wQ rR;have hk:q9 (C8 Z x msg):=⟨by have:=hn.1;unfold C8;omega,hn.2⟩;have OY:q9 x:=⟨by omega,hx.2⟩;generalize C8 Z x msg=k at hk;have Kc:=hc (Z.ge 4 k).1 (Z.ge 4 x).1;unfold pA;generalize C9 Z (Z.ge 4 k).1 (Z.ge 4 x).1 msg=e at Kc;have hes:q9 e:=⟨by omega,Kc.2⟩;have hm:q9 (e*x%2305843009213688669):=⟨Int.emod_nonneg _ zA,Int.emod_lt_of_pos _ zA⟩;have h1:(qC e x).1=e*x%2305843009213688669:=by unfold qC;rw[if_pos ⟨hes,OY⟩]
 have h2:(rJ k (qC e x).1).1=(k+e*x%2305843009213688669)%2305843009213688669:=by unfold rJ;rw[h1,if_pos ⟨hk,hm⟩]
 rw[h2];have hs:q9 ((k+e*x%2305843009213688669)%2305843009213688669):=⟨Int.emod_nonneg _ zA,Int.emod_lt_of_pos _ zA⟩;have gr:=WX hZ hk;have gp:=WX hZ OY;refine decide_eq_true ⟨gp,gr,hs,?_⟩;have g2:=PC hZ gp hes;have e1:(tB (Z.ge 4 k).1 (Z.ge (Z.ge 4 x).1 e).1).1=(Z.ge 4 k).1*(Z.ge (Z.ge 4 x).1 e).1%4611686018427377339:=by unfold tB;rw[if_pos ⟨gr,g2⟩]
 rw[e1,geP hZ gp hes,geP hZ BS hk,geP hZ BS OY,geP hZ BS hs,n3f,<-Int.mul_emod,<-Int.pow_mul,<-Int.pow_add,MC BS (k.toNat+x.toNat*e.toNat)];congr 2;have e2:((k+e*x%2305843009213688669)%2305843009213688669)=(k+e*x)%2305843009213688669:=by rw[Int.add_emod_emod]
 rw[e2];have e3:k+e*x=((k.toNat+x.toNat*e.toNat:Nat):Int):=by
  rw[Int.natCast_add,Int.natCast_mul,Int.toNat_of_nonneg hk.1,Int.toNat_of_nonneg OY.1,Int.toNat_of_nonneg hes.1,Int.mul_comm]
 rw[e3];omega

def aX (s:Value) (r:Int):Array Value:=#[s,ab 0,.int .i8 r]
def jA (n:Nat):List Value:=List.replicate n (C1)
theorem MF(bI:Nat)(lr:Int)(t:Nat)(fr:Nat×Nat)(w:World)(hb0:w.heap[bI]? =some (.cells (aX (ak) lr) t fr)):Calls prog 309 #[ptr bI 0] w (aP w (ab 0)):=by
 have xO:¬Gh.no.X bI:=λh=>h;refine ef 6 func309 ntmps309 ?_;refine eA 9 (k:=?_);refine B 5 ?_;refine aK results309 rfl A0 ?_;rfl
theorem n0h(bI:Nat)(lr:Int)(t:Nat)(fr:Nat×Nat)(n:Nat)(hn:0<n)(w:World)(hb0:w.heap[bI]? =some (.cells (aX (ak) lr) t fr)):Calls prog 269 #[ptr bI 0,ab (n:Int)] w (aP w (.tuple #[ab 0,bG])):=by
 exact zth
theorem nbn(bI bR m c n:Nat)(lr:Int)(t:Nat)(hc:m+n<=c)(aR:c<=1000000)(w:World)(hb:w.heap[bI]? =some (oC (aX (bV bR m c) lr) t)):Calls prog 269 #[ptr bI 0,ab (n:Int)] w (mK w [bI] (λ_:Unit=>.tuple #[ab (m:Int),bZ]) (λ_=>[(bI,oC (aX (bV bR (m+n) c) lr) t)]) (λ_=>True)):=by
 have jr:=(bA.1 hb).1;refine nB (vs:=[_,_]) (Gh.lent (λk=>k∈keys [(bI,oC (aX (bV bR m c) lr) t)])) [(bI,oC (aX (bV bR m c) lr) t)] func269 rfl ntmps269 rfl (HH (fK.mem ⟨hb,trivial⟩) (EE _)) ?_;refine B 27 ?_;refine YQ ?_;refine dp (ab ((m+n:Nat):Int)) ?_;refine rv rfl rfl rfl (eL (h:=m+n) underlying106 sizeOf5 rfl ⟨_,_,rfl,rfl⟩ aa) ?_;refine B 2 ?_;refine kT (i:=0) rfl sizeOf106 rfl rfl rfl rfl (eh rfl) rfl ?_;refine B 11 ?_;exact tZ (Hz:=[(bI,oC (aX (bV bR m c) lr) t)]) (H0:=[]) () (.inl rfl) results269 bB A0 JH rfl z8b
theorem mkz(c:Nat):cf c (λ_=>C1)=(ub ([]:List UInt8)++jA c).toArray:=by
 apply Array.ext';simp[cf,ub,jA,List.map_const']
theorem n0f(c n:Nat):(jA c).drop n=jA (c-n):=by simp[jA,List.drop_replicate]
theorem PD(n:Nat):(jA n).length=n:=by simp[jA]
theorem nYf(xs zs:List UInt8)(sp:List Value)(h:zs.length<=sp.length):setCells (ub xs++sp).toArray xs.length (ub zs)=(ub (xs++zs)++sp.drop zs.length).toArray:=by
 apply Array.ext';rw[nZ];show jV (ub xs++sp) xs.length (ub zs)=ub (xs++zs)++sp.drop zs.length;have hs:sp=sp.take zs.length++sp.drop zs.length:=(AV _ _).symm;all_goals grind [wP,nFd,HI]
theorem HJ(bI n:Nat)(lr:Int)(t:Nat)(hn0:0<n)(hn:n<=64)(w:World)(hb:w.heap[bI]? =some (oC (aX (ak) lr) t)):Calls prog 270 #[ptr bI 0,ab (n:Int)] w (mK w [bI] (λ_:Nat=>ab 0) (λbR=>[(bI,oC (aX (bV bR n 64) lr) t),(bR,oC (cf 64 (λ_=>C1)) 5)]) (λ_=>True)):=by
 have jr:=(bA.1 hb).1;refine nB (vs:=[_,_]) (Gh.lent (λk=>k∈keys [(bI,oC (aX (ak) lr) t)])) [(bI,oC (aX (ak) lr) t)] func270 rfl ntmps270 rfl (HH (fK.mem ⟨hb,trivial⟩) (EE _)) ?_;refine B 8 ?_;refine call call309 rfl rfl rfl (λW hS=>MF bI lr _ _ W (hS.own _ A0)) ?_;refine B 7 ?_;refine Rz ?_;refine dp bG ?_;refine B 11 ?_;refine call call269 rfl rfl rfl (λW hS=>n0h bI lr _ _ n hn0 W (hS.own _ A0)) ?_;refine B 22 ?_;refine rv rfl rfl rfl (TU underlying106 rfl rfl) ?_;refine aE 2 bZ ?_;refine B 8 ?_;refine XM (ln:=n) (cp:=64) underlying106 Vk rfl rfl rfl rfl rfl rfl rfl aa zA aa ?_;intro b41 abp alA;replace abp:=yb abp;try simp only[bM,ne_eq,and_true]at alA
 refine B 2 ?_;refine zPe ?_;refine B 9 ?_;refine PJ.swp ?_;exact tZ (Hz:=[(bI,oC (aX (ak) lr) t)]) (H0:=[]) b41 (.inl rfl) results270 bB A0 JH rfl z8b
theorem Rd.seg{C:Cx}{G:Gh}{H:ad}{b off c:Nat}{zs:List UInt8}{w1:World}(hm:w1∈L)(h:cx w1 b off zs)(hG:¬G.X b)(hO:bM H b):Rd C G L H 1 zs.length (.slice (some ⟨b,off,none⟩) zs.length c) (ub zs):=by
 obtain⟨cs,t,fr,h1,h2,h3⟩:=h;all_goals grind [Rd.old,npk,n8n]
theorem MG(zs:List UInt8):bD (ub zs)=true:=by induction zs<;>grind [ub,bD,yN]
theorem nkl(bI:Nat)(lr:Int)(t:Nat)(zs:List UInt8)(bz oz cz:Nat)(hz0:0<zs.length)(gS:zs.length<=64)(w:World)(hb:w.heap[bI]? =some (oC (aX (ak) lr) t))(sH:cx w bz oz zs)(hne:bz≠bI):Calls prog 208 #[ptr bI 0,.slice (some ⟨bz,oz,none⟩) zs.length cz] w (mK w [bI] (λ_:Nat=>.tuple #[ab (zs.length:Int),.nilIface]) (λbR=>[(bI,oC (aX (bV bR zs.length 64) 0) t),(bR,aU 5 zs (jA (64-zs.length)))]) (λ_=>True)):=by
 have jr:=(bA.1 hb).1;have aH:=sH.lt;refine nB (vs:=[_,_]) (Gh.lent (λk=>k∈keys [(bI,oC (aX (ak) lr) t)])) [(bI,oC (aX (ak) lr) t)] func208 rfl ntmps208 rfl (HH (fK.mem ⟨hb,trivial⟩) (EE _)) ?_;refine B 11 ?_;refine zQe ?_;refine B 7 ?_;refine call call269 rfl rfl rfl (λW hS=>n0h bI 0 _ _ zs.length hz0 W (hS.own _ A0)) ?_;refine B 19 ?_;refine CI (Hz:=[(bI,oC (aX (ak) 0) t)]) (H0:=[]) (first:=[]) (cap:=[]) (v:=λ_:Nat=>ab 0) (Hn:=λbR=>[(bI,oC (aX (bV bR zs.length 64) 0) t),(bR,oC (cf 64 (λ_=>C1)) 5)]) (Φ:=λ_=>True) rfl rfl call270 rfl rfl rfl ⟨.inl TV,trivial⟩ (λW hS=>HJ bI zs.length 0 t hz0 gS W (hS.own _ A0)) ?_;rintro bR-jY;have xx:bR=bI\/w.heap.size<=bR:=by
  rcases jY (bR,_) A1 with h|h
  ·left;simpa[keys]using h
  right;exact h.1.1
 refine OJ.reH (H':=[(bI,oC (aX (bV bR zs.length 64) 0) t),(bR,aU 5 [] (jA 64))]) (by rw[mkz];rfl) ?_;refine B 10 ?_;refine rv rfl rfl rfl (gu (l:=0) (h:=zs.length) (off':=0) underlying106 sizeOf5 rfl ⟨_,_,rfl,rfl⟩ rfl aa aa XJ) ?_;refine B 1 ?_;refine Vj (i:=1) (m:=1) (n:=zs.length) (k:=zs.length) (news:=ub zs) rfl underlying106 sizeOf5 rfl rfl rfl rfl (λ_=>rfl) aa (Rd.seg A0 sH yw zz) (by simp only[rh,cO,wP,PD];omega) (MG _) ?_;refine B 5 ?_;refine PJ.reH (H':=[(bI,oC (aX (bV bR zs.length 64) 0) t),(bR,aU 5 zs (jA (64-zs.length)))]) (by have:=nYf [] zs (jA 64) (by rw[PD];omega);simp only[fO,eX]at this;simp only[ec,dx,aU];rw[this,n0f]) ?_;exact tZ (Hz:=[(bI,oC (aX (ak) lr) t)]) (H0:=[]) bR (.inl rfl) results208 bB A0 JH rfl z8b
theorem nIg(bI bR t:Nat)(xs:List UInt8)(sp:List Value)(zs:List UInt8)(bz oz cz:Nat)(gS:xs.length+zs.length<=64)(wG:sp.length=64-xs.length)(hx:xs.length<64)(w:World)(hb:w.heap[bI]? =some (oC (aX (bV bR xs.length 64) 0) t))(xx:w.heap[bR]? =some (aU 5 xs sp))(wH:bI≠bR)(sH:cx w bz oz zs)(hne:bz≠bI)(tP:bz≠bR):Calls prog 208 #[ptr bI 0,.slice (some ⟨bz,oz,none⟩) zs.length cz] w (mK w [bI,bR] (λ_:Unit=>.tuple #[ab (zs.length:Int),.nilIface]) (λ_=>[(bI,oC (aX (bV bR (xs++zs).length 64) 0) t),(bR,aU 5 (xs++zs) (sp.drop zs.length))]) (λ_=>True)):=by
 have jr:=(bA.1 hb).1;have Eg:=(bA.1 xx).1;have aH:=sH.lt;refine nB (vs:=[_,_]) (Gh.lent (λk=>k∈keys [(bI,oC (aX (bV bR xs.length 64) 0) t),(bR,aU 5 xs sp)])) [(bI,oC (aX (bV bR xs.length 64) 0) t),(bR,aU 5 xs sp)] func208 rfl ntmps208 rfl (HH (fK.mem ⟨hb,xx,trivial⟩) (WV wH)) ?_;refine B 11 ?_;refine zQe ?_;refine B 7 ?_;refine CI (Hz:=[(bI,oC (aX (bV bR xs.length 64) 0) t)]) (H0:=[(bR,aU 5 xs sp)]) (first:=[]) (cap:=[]) (v:=λ_:Unit=>.tuple #[ab (xs.length:Int),bZ]) (Hn:=λ_=>[(bI,oC (aX (bV bR (xs.length+zs.length) 64) 0) t)]) (Φ:=λ_=>True) rfl rfl call269 rfl rfl rfl ⟨.inl TV,trivial⟩ (λW hS=>nbn bI bR xs.length 64 zs.length 0 t aa zA W (hS.own _ A0)) ?_;rintro _-jY;refine OJ.reH (H':=[(bI,oC (aX (bV bR (xs.length+zs.length) 64) 0) t),(bR,aU 5 xs sp)]) rfl ?_;refine B 24 ?_;refine rv rfl rfl rfl (gu (l:=xs.length) (h:=xs.length+zs.length) (off':=xs.length) underlying106 sizeOf5 rfl ⟨_,_,rfl,rfl⟩ rfl aa aa zDc) ?_;refine B 1 ?_;refine Vj (i:=1) (m:=1) (n:=zs.length) (k:=zs.length) (news:=ub zs) rfl underlying106 sizeOf5 rfl rfl rfl rfl (λ_=>rfl) aa (Rd.seg A0 sH yw zz) (by simp only[rh,cO,wP];omega) (MG _) ?_;refine B 5 ?_;refine PJ.reH (H':=[(bI,oC (aX (bV bR (xs++zs).length 64) 0) t),(bR,aU 5 (xs++zs) (sp.drop zs.length))]) (by have:=nYf xs zs sp aa;show[(bI,_),(bR,Obj.cells (setCells (ub xs++sp).toArray xs.length (ub zs)) _ _)]=_;rw[this,cO];first|done|rfl) ?_
 exact tZ (Hz:=[(bI,oC (aX (bV bR xs.length 64) 0) t),(bR,aU 5 xs sp)]) (H0:=[]) () (.inl rfl) results208 bB A0 JH rfl z8b
theorem nrp(bI bR n:Nat)(lr:Int)(t:Nat)(fr:Nat×Nat)(hn:n<=64)(w:World)(hb0:w.heap[bI]? =some (.cells (aX (bV bR n 64) lr) t fr)):Calls prog 271 #[ptr bI 0] w (aP w (bV bR n 64)):=by
 have xO:¬Gh.no.X bI:=λh=>h;refine ef 6 func271 ntmps271 ?_;refine eA 8 (k:=?_);refine rv rfl rfl rfl (gu (l:=0) (h:=n) (off':=0) underlying106 sizeOf5 rfl ⟨_,_,rfl,rfl⟩ rfl aa aa XJ) ?_;refine B 4 ?_;refine aK results271 rfl A0 ?_;rfl
end Px
