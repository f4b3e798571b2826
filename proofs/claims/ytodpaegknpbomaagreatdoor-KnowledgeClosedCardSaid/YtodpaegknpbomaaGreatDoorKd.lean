/- Contracts of functions of the program. No conditions. -/
import Derived.Test.YtodpaegknpbomaaGreatDoorKc
import Derived.Test.YtodpaegknpbomaaGreatDoorProg
import Derived.LaidEql
import Derived.Stop.Asserts
import Derived.RowKitTokens
set_option linter.unusedSimpArgs false
set_option linter.unusedVariables false
set_option linter.unusedSectionVars false
set_option maxRecDepth 20000
set_option maxHeartbeats 8000000
namespace Px
open Go Go.RowKit Go.Proofs Go.Proofs.Tryz
def S1 (bp:Nat) (p:Pl):aJ:=λk=>k=bp\/(p.ns≠ []/\∃off,p.ta=some ⟨k,off,none⟩)\/(p.c.bxs≠ []/\∃off,p.c.ba=some ⟨k,off,none⟩)\/(p.c.path≠ []/\∃off,p.c.pa=some ⟨k,off,none⟩)\/(p.c.wes≠ []/\∃off,p.c.wa=some ⟨k,off,none⟩)
abbrev GS:List Dv->aJ->World->Prop:=λl Z w=>l.length<=200/\∀d∈l,fT Z 0 w.heap.size w d
abbrev GU (K:Nat) (a:Ap):List Dv->aJ->World->Prop:=λl Z w=>(l.map ig=gK a/\l.length<=200)/\∀d∈l,fT Z K w.heap.size w d
theorem Mg{a:Ap}{b:Bx}(h:(cJ a.2.2.1 b.node).isSome=true):yo a b=[([aN ((cJ a.2.2.1 b.node).getD 0)],nj (dk a.2.2.2.last) b.level)]:=by grind [yo]
theorem S2{a:Ap}{b:Bx}(h:(cJ a.2.2.1 b.node).isSome=false):yo a b=[]:=by grind [yo,cJ]
theorem n9n{a:Ap}{x:We}(h:(cJ a.2.2.1 (oO x.dev)).isSome=true):Bj a x=[([aN ((cJ a.2.2.1 (oO x.dev)).getD 0)],aP (dk a.2.2.2.last))]:=by grind [Bj]
theorem S3{a:Ap}{x:We}(h:(cJ a.2.2.1 (oO x.dev)).isSome=false):Bj a x=[]:=by grind [Bj,cJ,oO]
variable {Z:Fx} {g:Gp} {F:ad} {a:Int} {D0:List (List Se×Se)} {l:List Int} {pls:List Pl} {L0:List Se} {L:List World} {j lim t:Nat} {p:Pl} {r:Rw} {W w:World}
theorem DF{α β:Type}{f:α->List β}{xs:List α}{x:α}(hx:xs[j]? =some x):(xs.take (j+1)).flatMap f=(xs.take j).flatMap f++f x:=by rw[np hx];simp
theorem nLk{a:Ap}{y:Int}(h:a.1.path[j]? =some y):kr a (j+1)=kr a j++Bi a j y:=by conv=>lhs;unfold kr;rw[h]
def GV (d:Int):Int:=if di d then 0 else 200
theorem n8g(d:Int)(w:World):Calls prog 37 #[ab d] w (aU w (.tuple #[ab (oO d),ab (GV d)])):=by
 by_cases h:di d
 ·unfold oO GV;rw[if_pos h,if_pos h];exact ncj d h w
 unfold oO GV;rw[if_neg h,if_neg h];exact njl d h w
theorem fT.row{Z:aJ}{K:Nat}{to:Se}{b cp:Nat}{xs:List Se}{sp:List Value}(hb:w.heap[b]? =some (bj dX t xs sp))(hf:(Rw.row b cp sp).Fit 35 xs)(h0:xs≠ [])(hz:¬Z b)(J:K<=b):fT Z K w.heap.size w ⟨xs,to,some ⟨b,0,none⟩,cp⟩:=by
 obtain⟨a9,c9,e9,h9⟩:=(Rw.row b cp sp).sl (enc:=dX) (t:=t) (N:=w.heap.size) (w:=w) nv hf hb (aj _);simp only[Rw.val,Value.slice.injEq]at e9;rw[<-e9.1]at h9;exact⟨h0,h9,λq hq=>by cases hq;exact⟨hz,J⟩⟩
theorem Mh(p:Pl)(b1 N:Nat)(W:World)(hN:N<=W.heap.size)(hb1:W.heap[b1]? =some (oC (kV p) 92))(SQ:ai fZ 2 N W p.ta p.ns)(gA:p.ns.length<=90000)(yk:ai tM 4 N W p.c.ba p.c.bxs)(Bk:ai encI 1 N W p.c.pa p.c.path)(bL:ai vg 3 N W p.c.wa p.c.wes)(qj:qg p.c):sw prog 166 [ptr b1 0] (λd:Dv=>[.agg (vG d)]) GS (GU W.heap.size (aW p)) (λ_=>False) (S1 b1 p) W:=by
 intro l M I X0 hM hI hX hy h0;have my:=(bB.1 hb1).1;have CH:∀(V:aJ) (k:Nat),(∀k,V k->W.heap.size<=k)->S1 b1 p k->k<W.heap.size->¬(M k\/V k):=λV k hV h hk hx=>hx.elim (λhx=>(hM _ hx).2.2 h) (λhx=>by have:=hV k hx;omega);have cN:¬(dF hM (λ_=>False) (hI [] _)).X b1:=CH (λ_=>False) b1 (λ_ h=>h.elim) (.inl rfl) my;have jq:=qj.bxs;have fm:=qj.path;have ff:=qj.wes;refine nB (dF hM (λ_=>False) (hI [] _)) [] (vs:=[_,_]) func166 rfl ntmps166 rfl (Oi hM (hI [] _) h0 zI (by simp[lS]) zI) ?_;refine OI ?_;refine yW ?_;intro b2 dL dH;refine B 6 ?_;refine DG ?_;refine bM 1 ?_;intro b3 eO fw;refine aF 14 (.slice p.c.ba p.c.bxs.length p.c.bc) ?_;refine B 5 ?_;refine CJ.resnap0 (L':=[W]) zI (λw0 S4=>?_);have dp:=S4.lt (b2,_) A1;have db:=S4.lt (b3,_) A0;dsimp only at dp db;have gB:=(S4.links W A0).size;refine CJ.loop (α:=(List Dv×aJ)×World×Nat) (λp9=>[(1,ptr b1 0),(3,ptr b3 0),(4,.func (.func 167) #[] #[ptr b2 0]),(24,.slice p.c.ba p.c.bxs.length p.c.bc),(25,ab (p.c.bxs.length:Int)),(26,ab (p9.2.2:Int))]) (λp9=>[(b3,oC (dg p.x.g.last) 33),(b2,oC #[yv l] 145)]) (λp9=>[p9.2.1,W]) (λp9=>dF hM p9.1.2 (hI p9.1.1 p9.1.2)) (λp9=>p9.2.2<=p.c.bxs.length/\(∀k,p9.1.2 k->W.heap.size<=k)/\w0.heap.size<=p9.2.1.heap.size/\p9.1.1.map ig=((aW p).1.bxs.take p9.2.2).flatMap (yo (aW p))/\p9.1.1.length<=p9.2.2/\∀d∈p9.1.1,fT (λk=>M k\/p9.1.2 k) w0.heap.size p9.2.1.heap.size p9.2.1 d) (λp9=>p.c.bxs.length-p9.2.2) (([],λ_=>False),w0,0) ⟨cO _,λ_ h=>h.elim,aj _,rfl,aj _,by simp⟩ zR rfl rfl zI ?_
 rintro⟨⟨pre,V⟩,wk,j⟩ ⟨hj,hV,tI,aX,gq,eM⟩;dsimp only at hj hV tI aX gq eM ⊢;have cN:¬(dF hM V (hI pre V)).X b1:=CH V b1 hV (.inl rfl) my;refine aG 6 ?_ ?_
 ·intro av;refine B 5 ?_;obtain⟨bo,oo,bu,CI,fg,ez,fh,bX,aR⟩:=yk.get aa;obtain⟨x,hx⟩:=ng p.c.bxs j aa;rw[ez];have Bl:¬(dF hM V (hI pre V)).X bo:=CH V bo hV (.inr (.inr (.inl ⟨λh=>by rw[h]at hx;simp at hx,oo,ez⟩))) aa;refine B 2 ?_;refine rq (.agg (tM x)) (dt isAgg110 sizeOf110 rfl A1 bX Bl z2 (de aR hx rfl)) (va (dY aR hx rfl)) ?_;refine bM 1 ?_;intro b6 ky rh;refine aF 6 (.agg #[.slice p.ta p.ns.length p.tc]) ?_;refine aF 1 (ab x.node) ?_;refine call (v:=.tuple #[ab ((cJ p.ns x.node).getD 0),.bool (cJ p.ns x.node).isSome]) call36 rfl rfl rfl (λW9 hS=>nUb p.ns aa W9.heap.size p.ta p.tc W9 (aj _) (SQ.toG hS A1 hN (λb off e=>by by_cases h0:p.ns=[];(exact .inl h0);exact .inr (λhb=>⟨CH V b hV (.inr (.inl ⟨h0,off,e⟩)) aa,z2⟩))) x.node) ?_;refine B 11 ?_;refine ni (t:=39) rfl (λaS=>?_) (λaS=>?_)
  ·replace aS:=ya aS;refine B 1 ?_;refine DG ?_;refine aF 1 (ab x.level) ?_;refine zse ?_;refine B 1 ?_;refine zxe ?_;refine S5 ?_;refine yV ?_;intro JC S6 b0 S7 e8 e7 e0;refine S9 (f:=167) (first:=[]) (cap:=[ptr b2 0]) (V:=V) (λV=>hI (pre++[(⟨[aN ((cJ p.ns x.node).getD 0)],nj (dk p.x.g.last) x.level,some ⟨JC,0,none⟩,1⟩:Dv)]) V) hX rfl call167 rfl rfl rfl (λW9 cF=>?_) ?_ ?_
   ·refine WU (λV=>hI (pre++[(⟨[aN ((cJ p.ns x.node).getD 0)],nj (dk p.x.g.last) x.level,some ⟨JC,0,none⟩,1⟩:Dv)]) V) hX hV (⟨[aN ((cJ p.ns x.node).getD 0)],nj (dk p.x.g.last) x.level,some ⟨JC,0,none⟩,1⟩:Dv) b2 W9 cF.alone (cF.own (b2,_) A2) (λh=>h.elim (λh=>by have:=(hM _ h).1;omega) (λh=>cF.apart (b2,_) A2 (.inr h))) (λW1 pj hv1 qB=>hy pre (⟨[aN ((cJ p.ns x.node).getD 0)],nj (dk p.x.g.last) x.level,some ⟨JC,0,none⟩,1⟩:Dv) V W1 ⟨by simp only[cB,dI,fJ];omega,λd hd=>?_⟩ hv1 qB);rcases aY.1 hd with hd|hd
    ·exact zbg
    rw[fC.1 hd];exact fT.low (fT.up (fT.one b0 S7 (K:=w0.heap.size) aa) (eB (cF.links S6 A0).size pj.size) (λb off e_ jS cW dm=>(pj.block b (by have:=(cF.links S6 A0).size;omega) dm).trans ((cF.links S6 A0).block b cW (λhx=>hx.elim dm (λhx=>by cases e_;first|(simp only[dA,eh,dP,fu,cd,dZ,or_false]at hx;omega)|(simp at hx;omega)|(simp at hx))))) (λb _ _ h=>h)) (cO _)
   ·intro V2 tV dM;have lO:∀k,V2 k->W.heap.size<=k:=λk hk=>(dM W A2 k hk).elim (hV k) id;have mS:∀k,k<wk.heap.size->(M k\/V2 k)->(M k\/V k):=λk hk h=>(h.imp id λh=>(dM wk A1 k h).resolve_right aa);have GW:¬(M JC\/V2 JC):=λh=>S7 (h.imp id λh=>(dM S6 A0 _ h).resolve_right aa);refine B 12 ?_;refine PJ.resnap (L':=[wk,W]) (i:=0) rfl zB zI (λW9 cF=>?_);have cH:∀d∈(pre++[(⟨[aN ((cJ p.ns x.node).getD 0)],nj (dk p.x.g.last) x.level,some ⟨JC,0,none⟩,1⟩:Dv)]),fT (λk=>M k\/V2 k) w0.heap.size W9.heap.size W9 d:=by
     intro d hd;rcases aY.1 hd with hd|hd
     ·exact zdg
     rw[fC.1 hd];exact fT.up (fT.one b0 GW (K:=w0.heap.size) aa) (cF.links S6 A0).size (λb off e_ jS cW dm=>(cF.links S6 A0).block b cW (λhx=>hx.elim dm (λhx=>by cases e_;first|(simp only[dA,eh,dP,fu,cd,dZ,or_false]at hx;omega)|(simp at hx;omega)|(simp at hx)))) (λb _ _ h=>h)
    refine ag ((pre++[(⟨[aN ((cJ p.ns x.node).getD 0)],nj (dk p.x.g.last) x.level,some ⟨JC,0,none⟩,1⟩:Dv)],V2),W9,j+1) ⟨by dsimp only;omega,lO,eB tI (cF.links wk A1).size,by dsimp only;rw[DF (xs:=(aW p).1.bxs) hx,gN,aX,Mg cY];rfl,by dsimp only;simp only[cB,dI,fJ];omega,cH⟩
   intro V2 tV dM;have lO:∀k,V2 k->W.heap.size<=k:=λk hk=>(dM W A2 k hk).elim (hV k) id;have mS:∀k,k<wk.heap.size->(M k\/V2 k)->(M k\/V k):=λk hk h=>(h.imp id λh=>(dM wk A1 k h).resolve_right aa);have GW:¬(M JC\/V2 JC):=λh=>S7 (h.imp id λh=>(dM S6 A0 _ h).resolve_right aa);refine B 11 ?_;exact zHg
  replace aS:=ya aS;refine B 21 ?_;refine qD ?_;refine ag ((pre,V),wk,j+1) ⟨by dsimp only;omega,hV,tI,by dsimp only;rw[DF (xs:=(aW p).1.bxs) hx,aX,S2 cY];exact(ec _).symm,by dsimp only;omega,eM⟩
 intro av;refine aF 10 (.slice p.c.pa p.c.path.length p.c.pc) ?_;refine B 5 ?_;have Pm:j=p.c.bxs.length:=by omega
 rw[Pm]at aX;refine CJ.loop (α:=(List Dv×aJ)×World×Nat) (λp9=>[(1,ptr b1 0),(3,ptr b3 0),(4,.func (.func 167) #[] #[ptr b2 0]),(54,.slice p.c.pa p.c.path.length p.c.pc),(55,ab (p.c.path.length:Int)),(56,ab (p9.2.2:Int))]) (λp9=>[(b3,oC (dg p.x.g.last) 33),(b2,oC #[yv l] 145)]) (λp9=>[p9.2.1,W]) (λp9=>dF hM p9.1.2 (hI p9.1.1 p9.1.2)) (λp9=>p9.2.2<=p.c.path.length/\(∀k,p9.1.2 k->W.heap.size<=k)/\w0.heap.size<=p9.2.1.heap.size/\p9.1.1.map ig=(aW p).1.bxs.flatMap (yo (aW p))++kr (aW p) p9.2.2/\p9.1.1.length<=p.c.bxs.length+2*p9.2.2/\∀d∈p9.1.1,fT (λk=>M k\/p9.1.2 k) w0.heap.size p9.2.1.heap.size p9.2.1 d) (λp9=>p.c.path.length-p9.2.2) ((pre,V),wk,0) ⟨cO _,hV,tI,by dsimp only;rw[aX,show p.c.bxs.length=(aW p).1.bxs.length from rfl,ur];exact(ec _).symm,by dsimp only;omega,eM⟩ zR rfl rfl zI ?_;rintro⟨⟨pre,V⟩,wk,j⟩ ⟨hj,hV,tI,aX,gq,eM⟩;dsimp only at hj hV tI aX gq eM ⊢;have cN:¬(dF hM V (hI pre V)).X b1:=CH V b1 hV (.inl rfl) my;refine aG 6 ?_ ?_
 ·intro dh;refine B 5 ?_;obtain⟨bo,oo,bu,CI,fg,ez,fh,bX,aR⟩:=Bk.get aa;obtain⟨yy,aq⟩:=ng p.c.path j aa;rw[ez];have Bl:¬(dF hM V (hI pre V)).X bo:=CH V bo hV (.inr (.inr (.inr (.inl ⟨λh=>by rw[h]at aq;simp at aq,oo,ez⟩)))) aa;refine B 3 ?_;refine rv rfl rfl rfl (ar (v:=ab yy) isAgg3 rfl A1 bX Bl z2 (by have:=nJ (enc:=encI) (n:=1) aR aq rfl zz;simpa[encI]using this)) ?_;refine B 5 ?_;by_cases h9:j<9
  ·refine CJ.dj zN ?_;refine fS 0 7 6 [] (pb:=by exact zU 2 (k:=by exact aM (nf call29 rfl rfl (λW hS _=>nPe _ W) (λ_=>rfl)) (zU 2 (k:=by exact aM (nf call31 rfl rfl (λW hS _=>nsd _ _ W) (λ_=>rfl)) zT)))) (sp:=[_,_,_,some (.agg (dg p.x.g.last)),_,_,_]) (h:=?_);intro _ _ hk;refine S5 ?_;intro sx yp GX GY Ta GZ et;refine zE ?_;replace GY:=yb GY;simp only[bN,ne_eq]at Ta;refine DJ.one (n:=7) rfl zN ?_;refine S9 (f:=167) (first:=[]) (cap:=[ptr b2 0]) (V:=V) (λV=>hI (pre++[(⟨[nj (dk p.x.g.last) (j:Int)],aN yy,some ⟨sx,0,none⟩,1⟩:Dv)]) V) hX rfl call167 rfl rfl rfl (λW9 cF=>?_) ?_ ?_
   ·exact zpi
   ·intro V2 tV dM;have lO:∀k,V2 k->W.heap.size<=k:=λk hk=>(dM W A2 k hk).elim (hV k) id;have mS:∀k,k<wk.heap.size->(M k\/V2 k)->(M k\/V k):=λk hk h=>(h.imp id λh=>(dM wk A1 k h).resolve_right aa);have pT:¬(M sx\/V2 sx):=λh=>GZ (h.imp id λh=>(dM yp A0 _ h).resolve_right aa);refine zsf ?_;refine DJ.one (n:=10) rfl zN ?_;refine Bm ?_;refine DJ.one (n:=11) rfl zN ?_;refine du cD ?_;refine B 1 ?_;refine PJ.dj ?_;refine DJ.one (n:=12) rfl zN ?_;refine Bm ?_;refine fS 13 22 21 [] (pb:=by exact zU 3 (k:=by exact aM (X.v (RV.re (v':=ab ((j+1:Nat):Int)) (jw rfl rfl aa aa) ((congrArg ab aa)))) (aM (nf call31 rfl rfl (λW hS _=>nsd _ _ W) (λ_=>rfl)) (zU 2 (k:=by exact aM (nf call31 rfl rfl (λW hS _=>nsd _ _ W) (λ_=>rfl)) zT))))) (sp:=[_,some (.agg (dg p.x.g.last)),_,_,_,some (.agg (dg p.x.g.last)),_,_,_]) (h:=?_);intro _ _ hk;refine S5 ?_;intro JD Tb cq bZ c4 Tc e5;refine zE ?_;replace bZ:=yb bZ;simp only[bN,ne_eq]at c4;refine DJ.one (n:=22) rfl zN ?_;refine S9 (f:=167) (first:=[]) (cap:=[ptr b2 0]) (V:=V2) (λV=>hI ((pre++[(⟨[nj (dk p.x.g.last) (j:Int)],aN yy,some ⟨sx,0,none⟩,1⟩:Dv)])++[(⟨[nj (dk p.x.g.last) (j:Int)],nj (dk p.x.g.last) ((j+1:Nat):Int),some ⟨JD,0,none⟩,1⟩:Dv)]) V) hX rfl call167 rfl rfl rfl (λW9 cF=>?_) ?_ ?_
    ·refine WU (λV=>hI ((pre++[(⟨[nj (dk p.x.g.last) (j:Int)],aN yy,some ⟨sx,0,none⟩,1⟩:Dv)])++[(⟨[nj (dk p.x.g.last) (j:Int)],nj (dk p.x.g.last) ((j+1:Nat):Int),some ⟨JD,0,none⟩,1⟩:Dv)]) V) hX lO (⟨[nj (dk p.x.g.last) (j:Int)],nj (dk p.x.g.last) ((j+1:Nat):Int),some ⟨JD,0,none⟩,1⟩:Dv) b2 W9 cF.alone (cF.own (b2,_) A1) (λh=>h.elim (λh=>by have:=(hM _ h).1;omega) (λh=>cF.apart (b2,_) A1 (.inr h))) (λW1 pj hv1 qB=>hy (pre++[(⟨[nj (dk p.x.g.last) (j:Int)],aN yy,some ⟨sx,0,none⟩,1⟩:Dv)]) (⟨[nj (dk p.x.g.last) (j:Int)],nj (dk p.x.g.last) ((j+1:Nat):Int),some ⟨JD,0,none⟩,1⟩:Dv) V2 W1 ⟨by simp only[cB,dI,fJ];omega,λd hd=>?_⟩ hv1 qB);rcases aY.1 hd with hd|hd
     ·rcases aY.1 hd with hd|hd
      ·exact fT.low ((eM d hd).up (eB (cF.links wk A2).size pj.size) (λb off e_ jS cW dm=>(pj.block b (by have:=(cF.links wk A2).size;omega) (λh=>dm (mS b cW h))).trans ((cF.links wk A2).block b cW (λhx=>hx.elim (λh=>dm (mS b cW h)) (λhx=>by first|(simp only[dA,eh,dP,fu,cd,dZ,or_false]at hx;omega)|(simp at hx;omega)|(simp at hx))))) (λb _ cW h=>mS b cW h)) (cO _)
      rw[fC.1 hd];exact fT.low (fT.up (fT.one GX pT (K:=w0.heap.size) aa) (eB (cF.links yp A1).size pj.size) (λb off e_ jS cW dm=>(pj.block b (by have:=(cF.links yp A1).size;omega) dm).trans ((cF.links yp A1).block b cW (λhx=>hx.elim dm (λhx=>by cases e_;first|(simp only[dA,eh,dP,fu,cd,dZ,or_false]at hx;omega)|(simp at hx;omega)|(simp at hx))))) (λb _ _ h=>h)) (cO _)
     rw[fC.1 hd];exact fT.low (fT.up (fT.one cq Tc (K:=w0.heap.size) aa) (eB (cF.links Tb A0).size pj.size) (λb off e_ jS cW dm=>(pj.block b (by have:=(cF.links Tb A0).size;omega) dm).trans ((cF.links Tb A0).block b cW (λhx=>hx.elim dm (λhx=>by cases e_;first|(simp only[dA,eh,dP,fu,cd,dZ,or_false]at hx;omega)|(simp at hx;omega)|(simp at hx))))) (λb _ _ h=>h)) (cO _)
    ·intro V3 ea vH;have wY:∀k,V3 k->W.heap.size<=k:=λk hk=>(vH W A3 k hk).elim (lO k) id;have br:∀k,k<wk.heap.size->(M k\/V3 k)->(M k\/V k):=λk hk h=>mS k hk (h.imp id λh=>(vH wk A2 k h).resolve_right aa);have G0:¬(M sx\/V3 sx):=λh=>pT (h.imp id λh=>(vH yp A1 _ h).resolve_right aa);have G3:¬(M JD\/V3 JD):=λh=>Tc (h.imp id λh=>(vH Tb A0 _ h).resolve_right aa);refine B 1 ?_;refine zTf ?_;refine B 9 ?_;refine PJ.resnap0 (L':=[wk,W]) zI (λW9 cF=>?_);have cH:∀d∈((pre++[(⟨[nj (dk p.x.g.last) (j:Int)],aN yy,some ⟨sx,0,none⟩,1⟩:Dv)])++[(⟨[nj (dk p.x.g.last) (j:Int)],nj (dk p.x.g.last) ((j+1:Nat):Int),some ⟨JD,0,none⟩,1⟩:Dv)]),fT (λk=>M k\/V3 k) w0.heap.size W9.heap.size W9 d:=by
      intro d hd;rcases aY.1 hd with hd|hd
      ·rcases aY.1 hd with hd|hd
       ·exact(eM d hd).up (cF.links wk A2).size (λb off e_ jS cW dm=>(cF.links wk A2).block b cW (λhx=>hx.elim (λh=>dm (br b cW h)) (λhx=>by first|(simp only[dA,eh,dP,fu,cd,dZ,or_false]at hx;omega)|(simp at hx;omega)|(simp at hx)))) (λb _ cW h=>br b cW h)
       rw[fC.1 hd];exact fT.up (fT.one GX G0 (K:=w0.heap.size) aa) (cF.links yp A1).size (λb off e_ jS cW dm=>(cF.links yp A1).block b cW (λhx=>hx.elim dm (λhx=>by cases e_;first|(simp only[dA,eh,dP,fu,cd,dZ,or_false]at hx;omega)|(simp at hx;omega)|(simp at hx)))) (λb _ _ h=>h)
      rw[fC.1 hd];exact fT.up (fT.one cq G3 (K:=w0.heap.size) aa) (cF.links Tb A0).size (λb off e_ jS cW dm=>(cF.links Tb A0).block b cW (λhx=>hx.elim dm (λhx=>by cases e_;first|(simp only[dA,eh,dP,fu,cd,dZ,or_false]at hx;omega)|(simp at hx;omega)|(simp at hx)))) (λb _ _ h=>h)
     refine ag ((((pre++[(⟨[nj (dk p.x.g.last) (j:Int)],aN yy,some ⟨sx,0,none⟩,1⟩:Dv)])++[(⟨[nj (dk p.x.g.last) (j:Int)],nj (dk p.x.g.last) ((j+1:Nat):Int),some ⟨JD,0,none⟩,1⟩:Dv)]),V3),W9,j+1) ⟨by dsimp only;omega,wY,eB tI (cF.links wk A2).size,by dsimp only;rw[nLk (a:=aW p) aq,gN,gN,aX];unfold Bi;rw[if_pos h9];simp[ig,aW],by dsimp only;simp only[cB,dI,fJ];omega,cH⟩
    intro V3 ea vH;have wY:∀k,V3 k->W.heap.size<=k:=λk hk=>(vH W A3 k hk).elim (lO k) id;have br:∀k,k<wk.heap.size->(M k\/V3 k)->(M k\/V k):=λk hk h=>mS k hk (h.imp id λh=>(vH wk A2 k h).resolve_right aa);have G0:¬(M sx\/V3 sx):=λh=>pT (h.imp id λh=>(vH yp A1 _ h).resolve_right aa);have G3:¬(M JD\/V3 JD):=λh=>Tc (h.imp id λh=>(vH Tb A0 _ h).resolve_right aa);refine B 1 ?_;refine zTf ?_;refine B 8 ?_;exact n6c (.inl rfl) results166 A3 wY zX (λA hSA hA=>.inr hA)
   exact zyg
  refine CJ.dj zN ?_;refine fS 0 7 6 [] (pb:=by exact zU 2 (k:=by exact aM (nf call29 rfl rfl (λW hS _=>nPe _ W) (λ_=>rfl)) (zU 2 (k:=by exact aM (nf call31 rfl rfl (λW hS _=>nsd _ _ W) (λ_=>rfl)) zT)))) (sp:=[_,_,_,some (.agg (dg p.x.g.last)),_,_,_]) (h:=?_);intro _ _ hk;refine S5 ?_;intro sx yp GX GY Ta GZ et;refine zE ?_;replace GY:=yb GY;simp only[bN,ne_eq]at Ta;refine DJ.one (n:=7) rfl zN ?_;refine S9 (f:=167) (first:=[]) (cap:=[ptr b2 0]) (V:=V) (λV=>hI (pre++[(⟨[nj (dk p.x.g.last) (j:Int)],aN yy,some ⟨sx,0,none⟩,1⟩:Dv)]) V) hX rfl call167 rfl rfl rfl (λW9 cF=>?_) ?_ ?_
  ·exact zpi
  ·intro V2 tV dM;have lO:∀k,V2 k->W.heap.size<=k:=λk hk=>(dM W A2 k hk).elim (hV k) id;have mS:∀k,k<wk.heap.size->(M k\/V2 k)->(M k\/V k):=λk hk h=>(h.imp id λh=>(dM wk A1 k h).resolve_right aa);have pT:¬(M sx\/V2 sx):=λh=>GZ (h.imp id λh=>(dM yp A0 _ h).resolve_right aa);refine zsf ?_;refine DJ.one (n:=10) rfl zN ?_;refine Bm ?_;refine DJ.one (n:=11) rfl zN ?_;refine du bH ?_;refine B 1 ?_;refine PJ.dj ?_;refine DJ.one (n:=12) rfl zN ?_;refine Bm ?_;refine fA 13 24 (k:=?_);refine DJ.one (n:=24) rfl zN ?_;refine Bm ?_;refine zPf ?_;refine B 9 ?_;refine PJ.resnap0 (L':=[wk,W]) zI (λW9 cF=>?_);have cH:∀d∈(pre++[(⟨[nj (dk p.x.g.last) (j:Int)],aN yy,some ⟨sx,0,none⟩,1⟩:Dv)]),fT (λk=>M k\/V2 k) w0.heap.size W9.heap.size W9 d:=by
    intro d hd;rcases aY.1 hd with hd|hd
    ·exact zdg
    rw[fC.1 hd];exact fT.up (fT.one GX pT (K:=w0.heap.size) aa) (cF.links yp A0).size (λb off e_ jS cW dm=>(cF.links yp A0).block b cW (λhx=>hx.elim dm (λhx=>by cases e_;first|(simp only[dA,eh,dP,fu,cd,dZ,or_false]at hx;omega)|(simp at hx;omega)|(simp at hx)))) (λb _ _ h=>h)
   refine ag (((pre++[(⟨[nj (dk p.x.g.last) (j:Int)],aN yy,some ⟨sx,0,none⟩,1⟩:Dv)]),V2),W9,j+1) ⟨by dsimp only;omega,lO,eB tI (cF.links wk A1).size,by dsimp only;rw[nLk (a:=aW p) aq,gN,aX];unfold Bi;rw[if_neg h9];simp[ig,aW],by dsimp only;simp only[cB,dI,fJ];omega,cH⟩
  exact zyg
 intro dh;refine B 6 ?_;have Vl:j=p.c.path.length:=by omega
 rw[Vl]at aX;by_cases qS:p.fst=true
 ·refine B 1 ?_;refine DG ?_;refine zse ?_;refine DC ?_;refine yW ?_;intro vJ dU cT;refine B 5 ?_;refine zNe ?_;refine aF 2 (.bool p.fst) ?_;refine rq bH (kq rfl) (vb (by simp[qS])) ?_;refine B 7 ?_;refine CJ.resnap (L':=[wk,W]) (i:=0) rfl zB zI (λxq G4=>?_);have pI:=G4.own (vJ,_) A0;have Td:¬(M vJ\/V vJ):=λh=>h.elim (λh=>by have:=(hM _ h).1;omega) (λh=>G4.apart (vJ,_) A0 (.inr h));have c5:vJ<xq.heap.size:=(bB.1 pI).1;refine B 2 ?_;refine z4f ?_;refine S9 (f:=167) (first:=[]) (cap:=[ptr b2 0]) (V:=V) (λV=>hI (pre++[(⟨[nj (dk p.x.g.last) 9],aP (dk p.x.g.last),some ⟨vJ,0,none⟩,1⟩:Dv)]) V) hX rfl call167 rfl rfl rfl (λW9 cF=>?_) ?_ ?_
  ·refine WU (λV=>hI (pre++[(⟨[nj (dk p.x.g.last) 9],aP (dk p.x.g.last),some ⟨vJ,0,none⟩,1⟩:Dv)]) V) hX hV (⟨[nj (dk p.x.g.last) 9],aP (dk p.x.g.last),some ⟨vJ,0,none⟩,1⟩:Dv) b2 W9 cF.alone (cF.own (b2,_) A1) (λh=>h.elim (λh=>by have:=(hM _ h).1;omega) (λh=>cF.apart (b2,_) A1 (.inr h))) (λW1 pj hv1 qB=>hy pre (⟨[nj (dk p.x.g.last) 9],aP (dk p.x.g.last),some ⟨vJ,0,none⟩,1⟩:Dv) V W1 ⟨by simp only[cB,dI,fJ];omega,λd hd=>?_⟩ hv1 qB);rcases aY.1 hd with hd|hd
   ·exact zbg
   rw[fC.1 hd];exact fT.low (fT.up (fT.row (cp:=1) pI ⟨aj _,rfl⟩ zI Td (K:=w0.heap.size) aa) (eB (cF.links xq A0).size pj.size) (λb off e_ jS cW dm=>(pj.block b (by have:=(cF.links xq A0).size;omega) dm).trans ((cF.links xq A0).block b cW (λhx=>hx.elim dm (λhx=>by cases e_;first|(simp only[dA,eh,dP,fu,cd,dZ,or_false]at hx;omega)|(simp at hx;omega)|(simp at hx))))) (λb _ _ h=>h)) (cO _)
  ·intro V2 tV dM;have lO:∀k,V2 k->W.heap.size<=k:=λk hk=>(dM W A2 k hk).elim (hV k) id;have mS:∀k,k<wk.heap.size->(M k\/V2 k)->(M k\/V k):=λk hk h=>(h.imp id λh=>(dM wk A1 k h).resolve_right aa);have G5:¬(M vJ\/V2 vJ):=λh=>Td (h.imp id λh=>(dM xq A0 _ h).resolve_right aa);refine B 7 ?_;have cN:¬(dF hM V2 (hI (pre++[(⟨[nj (dk p.x.g.last) 9],aP (dk p.x.g.last),some ⟨vJ,0,none⟩,1⟩:Dv)]) V2)).X b1:=CH V2 b1 lO (.inl rfl) my;refine B 3 ?_;refine zLe ?_;refine B 5 ?_;refine CJ.resnap0 (L':=[wk,W]) zI (λW9 cF=>?_);have cH:∀d∈(pre++[(⟨[nj (dk p.x.g.last) 9],aP (dk p.x.g.last),some ⟨vJ,0,none⟩,1⟩:Dv)]),fT (λk=>M k\/V2 k) w0.heap.size W9.heap.size W9 d:=by
    intro d hd;rcases aY.1 hd with hd|hd
    ·exact zdg
    rw[fC.1 hd];exact fT.up (fT.row (cp:=1) pI ⟨aj _,rfl⟩ zI G5 (K:=w0.heap.size) aa) (cF.links xq A0).size (λb off e_ jS cW dm=>(cF.links xq A0).block b cW (λhx=>hx.elim dm (λhx=>by cases e_;first|(simp only[dA,eh,dP,fu,cd,dZ,or_false]at hx;omega)|(simp at hx;omega)|(simp at hx)))) (λb _ _ h=>h)
   refine CJ.loop (α:=(List Dv×aJ)×World×Nat) (λp9=>[(1,ptr b1 0),(3,ptr b3 0),(4,.func (.func 167) #[] #[ptr b2 0]),(109,.slice p.c.wa p.c.wes.length p.c.wc),(110,ab (p.c.wes.length:Int)),(111,ab (p9.2.2:Int))]) (λp9=>[(b3,oC (dg p.x.g.last) 33),(b2,oC #[yv l] 145)]) (λp9=>[p9.2.1,W]) (λp9=>dF hM p9.1.2 (hI p9.1.1 p9.1.2)) (λp9=>p9.2.2<=p.c.wes.length/\(∀k,p9.1.2 k->W.heap.size<=k)/\w0.heap.size<=p9.2.1.heap.size/\p9.1.1.map ig=(aW p).1.bxs.flatMap (yo (aW p))++kr (aW p) (aW p).1.path.length++[(Me (aW p),aP (dk p.x.g.last))]++((aW p).1.wes.take p9.2.2).flatMap (Bj (aW p))/\p9.1.1.length<=p.c.bxs.length+2*p.c.path.length+1+p9.2.2/\∀d∈p9.1.1,fT (λk=>M k\/p9.1.2 k) w0.heap.size p9.2.1.heap.size p9.2.1 d) (λp9=>p.c.wes.length-p9.2.2) ((pre++[(⟨[nj (dk p.x.g.last) 9],aP (dk p.x.g.last),some ⟨vJ,0,none⟩,1⟩:Dv)],V2),W9,0) ⟨cO _,lO,eB tI (cF.links wk A1).size,by dsimp only;rw[gN,aX];simp[ig,aW,Me,qS],by dsimp only;simp only[cB,dI,fJ];omega,cH⟩ zR rfl rfl zI ?_;rintro⟨⟨pre,V⟩,wk,j⟩ ⟨hj,hV,tI,aX,gq,eM⟩;dsimp only at hj hV tI aX gq eM ⊢;have cN:¬(dF hM V (hI pre V)).X b1:=CH V b1 hV (.inl rfl) my;refine aG 6 ?_ ?_
   ·intro iR;refine B 5 ?_;obtain⟨bo,oo,bu,CI,fg,ez,fh,bX,aR⟩:=bL.get aa;obtain⟨x,hx⟩:=ng p.c.wes j aa;rw[ez];have Bl:¬(dF hM V (hI pre V)).X bo:=CH V bo hV (.inr (.inr (.inr (.inr ⟨λh=>by rw[h]at hx;simp at hx,oo,ez⟩)))) aa;refine B 2 ?_;refine zle ?_;refine bM 1 ?_;intro Vr yT B1;refine B 6 ?_;refine zad ?_;refine ni (t:=129) rfl (λgU=>?_) (λgU=>?_)
    ·replace gU:=ya gU;exact z8f
    replace gU:=ya gU;exact z2g
   intro iR;exact zpg
  intro V2 tV dM;have lO:∀k,V2 k->W.heap.size<=k:=λk hk=>(dM W A2 k hk).elim (hV k) id;have mS:∀k,k<wk.heap.size->(M k\/V2 k)->(M k\/V k):=λk hk h=>(h.imp id λh=>(dM wk A1 k h).resolve_right aa);have G5:¬(M vJ\/V2 vJ):=λh=>Td (h.imp id λh=>(dM xq A0 _ h).resolve_right aa);refine B 6 ?_;exact zHg
 refine B 1 ?_;refine DG ?_;refine zse ?_;refine DC ?_;refine yW ?_;intro vJ dU cT;refine B 5 ?_;refine zNe ?_;refine aF 2 (.bool p.fst) ?_;refine rq cD (kq rfl) (vb (by simp[qS])) ?_;refine aF 7 (.agg (dg p.c.par)) ?_;refine z8d ?_;refine DC ?_;refine yW ?_;intro c3 fi gi;refine apR (b:=vJ) (cap:=1) (sp:=[]) (xs:=[nj (dk p.x.g.last) 9]) (zs:=[aP (dk p.c.par)]) (enc:=dX) (m:=35) (H0:=[(c3,oC (seA (aP (dk p.c.par))) 35)]) (H1:=[(b3,oC (dg p.x.g.last) 33),(b2,oC #[yv l] 145)]) rfl Pf nv rfl rfl rfl rfl (ck.one (z:=aP (dk p.c.par)) nv Jz underlying38 (bF.own (i:=0) rfl)) ⟨aj _,rfl⟩ (.inr zB) zI ?_;intro J oP fQ G7 Bn;replace G7:=yb G7;have fY:wk.heap.size<=J/\W.heap.size<=J:=by rcases G7 with h|h;(subst h;omega);omega
 refine B 5 ?_;refine CJ.resnap (L':=[wk,W]) (i:=0) rfl zB zI (λe6 ft=>?_);refine CJ.resnap (L':=[wk,W]) (i:=0) rfl zB zI (λxq G4=>?_);have pI:=G4.own (J,_) A0;have G8:¬(M J\/V J):=λh=>h.elim (λh=>by have:=(hM _ h).1;omega) (λh=>G4.apart (J,_) A0 (.inr h));have c5:J<xq.heap.size:=(bB.1 pI).1;refine B 2 ?_;refine z4f ?_;refine S9 (f:=167) (first:=[]) (cap:=[ptr b2 0]) (V:=V) (λV=>hI (pre++[(⟨[nj (dk p.x.g.last) 9,aP (dk p.c.par)],aP (dk p.x.g.last),some ⟨J,0,none⟩,oP⟩:Dv)]) V) hX rfl call167 rfl rfl rfl (λW9 cF=>?_) ?_ ?_
 ·refine WU (λV=>hI (pre++[(⟨[nj (dk p.x.g.last) 9,aP (dk p.c.par)],aP (dk p.x.g.last),some ⟨J,0,none⟩,oP⟩:Dv)]) V) hX hV (⟨[nj (dk p.x.g.last) 9,aP (dk p.c.par)],aP (dk p.x.g.last),some ⟨J,0,none⟩,oP⟩:Dv) b2 W9 cF.alone (cF.own (b2,_) A1) (λh=>h.elim (λh=>by have:=(hM _ h).1;omega) (λh=>cF.apart (b2,_) A1 (.inr h))) (λW1 pj hv1 qB=>hy pre (⟨[nj (dk p.x.g.last) 9,aP (dk p.c.par)],aP (dk p.x.g.last),some ⟨J,0,none⟩,oP⟩:Dv) V W1 ⟨by simp only[cB,dI,fJ];omega,λd hd=>?_⟩ hv1 qB);rcases aY.1 hd with hd|hd
  ·exact zbg
  rw[fC.1 hd];exact fT.low (fT.up (fT.row (cp:=oP) pI Bn zI G8 (K:=w0.heap.size) aa) (eB (cF.links xq A0).size pj.size) (λb off e_ jS cW dm=>(pj.block b (by have:=(cF.links xq A0).size;omega) dm).trans ((cF.links xq A0).block b cW (λhx=>hx.elim dm (λhx=>by cases e_;first|(simp only[dA,eh,dP,fu,cd,dZ,or_false]at hx;omega)|(simp at hx;omega)|(simp at hx))))) (λb _ _ h=>h)) (cO _)
 ·intro V2 tV dM;have lO:∀k,V2 k->W.heap.size<=k:=λk hk=>(dM W A2 k hk).elim (hV k) id;have mS:∀k,k<wk.heap.size->(M k\/V2 k)->(M k\/V k):=λk hk h=>(h.imp id λh=>(dM wk A1 k h).resolve_right aa);have Bo:¬(M J\/V2 J):=λh=>G8 (h.imp id λh=>(dM xq A0 _ h).resolve_right aa);refine B 7 ?_;have cN:¬(dF hM V2 (hI (pre++[(⟨[nj (dk p.x.g.last) 9,aP (dk p.c.par)],aP (dk p.x.g.last),some ⟨J,0,none⟩,oP⟩:Dv)]) V2)).X b1:=CH V2 b1 lO (.inl rfl) my;refine B 3 ?_;refine zLe ?_;refine B 5 ?_;refine CJ.resnap0 (L':=[wk,W]) zI (λW9 cF=>?_);have cH:∀d∈(pre++[(⟨[nj (dk p.x.g.last) 9,aP (dk p.c.par)],aP (dk p.x.g.last),some ⟨J,0,none⟩,oP⟩:Dv)]),fT (λk=>M k\/V2 k) w0.heap.size W9.heap.size W9 d:=by
   intro d hd;rcases aY.1 hd with hd|hd
   ·exact zdg
   rw[fC.1 hd];exact fT.up (fT.row (cp:=oP) pI Bn zI Bo (K:=w0.heap.size) aa) (cF.links xq A0).size (λb off e_ jS cW dm=>(cF.links xq A0).block b cW (λhx=>hx.elim dm (λhx=>by cases e_;first|(simp only[dA,eh,dP,fu,cd,dZ,or_false]at hx;omega)|(simp at hx;omega)|(simp at hx)))) (λb _ _ h=>h)
  refine CJ.loop (α:=(List Dv×aJ)×World×Nat) (λp9=>[(1,ptr b1 0),(3,ptr b3 0),(4,.func (.func 167) #[] #[ptr b2 0]),(109,.slice p.c.wa p.c.wes.length p.c.wc),(110,ab (p.c.wes.length:Int)),(111,ab (p9.2.2:Int))]) (λp9=>[(b3,oC (dg p.x.g.last) 33),(b2,oC #[yv l] 145)]) (λp9=>[p9.2.1,W]) (λp9=>dF hM p9.1.2 (hI p9.1.1 p9.1.2)) (λp9=>p9.2.2<=p.c.wes.length/\(∀k,p9.1.2 k->W.heap.size<=k)/\w0.heap.size<=p9.2.1.heap.size/\p9.1.1.map ig=(aW p).1.bxs.flatMap (yo (aW p))++kr (aW p) (aW p).1.path.length++[(Me (aW p),aP (dk p.x.g.last))]++((aW p).1.wes.take p9.2.2).flatMap (Bj (aW p))/\p9.1.1.length<=p.c.bxs.length+2*p.c.path.length+1+p9.2.2/\∀d∈p9.1.1,fT (λk=>M k\/p9.1.2 k) w0.heap.size p9.2.1.heap.size p9.2.1 d) (λp9=>p.c.wes.length-p9.2.2) ((pre++[(⟨[nj (dk p.x.g.last) 9,aP (dk p.c.par)],aP (dk p.x.g.last),some ⟨J,0,none⟩,oP⟩:Dv)],V2),W9,0) ⟨cO _,lO,eB tI (cF.links wk A1).size,by dsimp only;rw[gN,aX];simp[ig,aW,Me,qS],by dsimp only;simp only[cB,dI,fJ];omega,cH⟩ zR rfl rfl zI ?_;rintro⟨⟨pre,V⟩,wk,j⟩ ⟨hj,hV,tI,aX,gq,eM⟩;dsimp only at hj hV tI aX gq eM ⊢;have cN:¬(dF hM V (hI pre V)).X b1:=CH V b1 hV (.inl rfl) my;refine aG 6 ?_ ?_
  ·intro kY;refine B 5 ?_;obtain⟨bo,oo,bu,CI,fg,ez,fh,bX,aR⟩:=bL.get aa;obtain⟨x,hx⟩:=ng p.c.wes j aa;rw[ez];have Bl:¬(dF hM V (hI pre V)).X bo:=CH V bo hV (.inr (.inr (.inr (.inr ⟨λh=>by rw[h]at hx;simp at hx,oo,ez⟩)))) aa;refine B 2 ?_;refine zle ?_;refine bM 1 ?_;intro Vr yT B1;refine B 6 ?_;refine zad ?_;refine ni (t:=129) rfl (λjU=>?_) (λjU=>?_)
   ·replace jU:=ya jU;exact z8f
   replace jU:=ya jU;exact z2g
  intro kY;exact zpg
 intro V2 tV dM;have lO:∀k,V2 k->W.heap.size<=k:=λk hk=>(dM W A2 k hk).elim (hV k) id;have mS:∀k,k<wk.heap.size->(M k\/V2 k)->(M k\/V k):=λk hk h=>(h.imp id λh=>(dM wk A1 k h).resolve_right aa);have Bo:¬(M J\/V2 J):=λh=>G8 (h.imp id λh=>(dM xq A0 _ h).resolve_right aa);refine B 6 ?_;exact zHg
theorem sw.fin{P:Program}{f:Nat}{cap:List Value}{α:Type}{enc:α->List Value}{Pre Fin J:List α->aJ->World->Prop}{MI RO:aJ}(h:sw P f cap enc Pre Fin MI RO W)(hf:∀xs Z w,Fin xs Z w->J xs Z w):sw P f cap enc Pre J MI RO W:=
 λl M I X h1 h2 h3 h4 h5=>(h l M I X h1 h2 h3 h4 h5).mono λe w' ⟨a,b,V,c⟩=>⟨a,b,V,c.imp (λ⟨xs,p,q⟩=>⟨xs,hf _ _ _ p,q⟩) id⟩
section
variable {α:Type}{enc:α->List Value}
include α enc
theorem G9{xs:List α}(h:r.At enc t xs w):St (Gh.lent (λk=>r.isAt k)) [w] (r.hp enc t xs) w:=by
 cases r with
 |nil=>exact⟨trivial,λ_ h=>h.elim,λ_ h=>h.elim,λw' hw=>by rw[fC.1 hw];exact aT.refl _ _,λp hp=>by simp[Rw.hp]at hp,λi j p q hi=>by simp[Rw.hp]at hi,λp hp=>by simp[Rw.hp]at hp⟩
 |row b c sp=>
  refine⟨trivial,λ_ h=>h.elim,λk hk=>?_,λw' hw=>by rw[fC.1 hw];exact aT.refl _ _,λp hp=>?_,?_,λp hp h=>h.elim⟩
  ·obtain rfl:b=k:=hk;exact(bB.1 (show w.heap[b]? =some _ from h)).1
  ·simp only[Rw.hp,fC]at hp;subst hp;exact h
  exact EL _
theorem Rw.isAt_lt{k:Nat}{xs:List α}(h:r.At enc t xs w)(hk:r.isAt k):k<w.heap.size:=by
 cases r with
 |nil=>exact hk.elim
 |row b c sp=>obtain rfl:b=k:=hk;exact(bB.1 (show w.heap[b]? =some _ from h)).1
theorem Rw.mem_is{k:Nat}{xs:List α}(h:k∈(r.hp enc t xs).map (·.1)):r.isAt k:=by
 cases r with
 |nil=>simp[Rw.hp]at h
 |row b c sp=>simp[Rw.hp]at h;exact h.symm
theorem St.belowR{b2:Nat}{o:Obj}{xs:List α}(fF:r.At enc t xs w)(hS:St (Gh.lent (λk=>r.isAt k)) [w] ((b2,o)::r.hp enc t xs) W)(hb:w.heap.size<=b2):Below w.heap.size w W:=by
 have hk:=hS.links w A0;refine⟨hk.os,hk.tape,hk.output,hk.drawn,hk.size,λk J=>?_⟩;by_cases h:r.isAt k
 ·cases r with
  |nil=>exact h.elim
  |row b c sp=>
   obtain rfl:b=k:=h;exact(hS.own (b,_) o8).trans (show w.heap[b]? =some _ from fF).symm
 refine hk.block k J λhx=>hx.elim h λhm=>?_;rcases cd.1 hm with h2|h2
 ·have h3:k=b2:=h2;omega
 exact h (Rw.mem_is h2)
end
structure yq (F:ad) (d:Dv):Prop where
 ne:d.fr≠ []
 sl:iN seA 35 F d.fa d.fr
theorem yq.mono{F':ad}{d:Dv}(h:yq F d)(hF:∀q∈F,q∈F'):yq F' d:=⟨h.ne,h.sl.mono hF⟩
theorem Ha{Z:aJ}{K:Nat}{w:World}:∀(xs:List Dv),(∀d∈xs,fT Z K w.heap.size w d)->∃F:ad,(∀p∈F,K<=p.1/\w.heap[p.1]? =some p.2/\¬Z p.1)/\∀d∈xs,yq F d
 | [],_=>⟨[],by simp,by simp⟩
 |d::xs,h=>by
  obtain⟨F,h1,h2⟩:=Ha xs λx hx=>h x (.tail _ hx);have hd:=h d A0;rcases hd.sl with h3|⟨b,off,cs,t,fr,e1,e2,e3,e4⟩
  ·exact absurd h3 hd.ne
  have h5:=hd.out _ e1;refine⟨(b,.cells cs t fr)::F,λp hp=>?_,λx hx=>?_⟩
  ·rcases cd.1 hp with rfl|hp
   ·exact⟨h5.2,e3,h5.1⟩
   exact h1 p hp
  rcases cd.1 hx with rfl|hx
  ·exact⟨hd.ne,.inr ⟨b,off,cs,t,fr,e1,.head _,e4⟩⟩
  exact(h2 x hx).mono λq hq=>.tail _ hq
section
variable {C:Cx} {Q:bE} {E:Env} {D:List Deferred} {L:List World} {H H0 H1 F:ad} {ops:Array Oper} {l:List Oper}
variable {d ty f:Nat} {pos:String} {aE:Array Edge} {g:Option (Nat×Bool)} {x:Operand} {xo:List Operand} {vs first cap:List Value} {eL:Array Nat}
theorem nJn{α γ:Type}{enc:α->List Value}{m:Nat}{xs:List α}{ys:γ->List α}{v:γ->Rw->Value}{Φ:ad->γ->Prop}(hH:H=H0++(r.hp enc t xs++H1))(jX:r.Fr (dJ F) L)(hx:ev E x=some (.func (.func f) first.toArray cap.toArray))(aB:eV C.P f)(hw:nr ops E g=some true)(hN:Nat.blt d C.N=true)(ha:jy E xo=some vs)(hc:∀W,St (dJ F) L H W->Calls C.P f (first++vs++cap).toArray W (λe w'=>∃z J F',e= .returned (v z J)/\aT (λk=>r.isAt k) W w'/\(∀k,J.isAt k->r.isAt k\/W.heap.size<=k)/\J.Fit m (ys z)/\J.At enc t (ys z) w'/\(∀p∈F',W.heap.size<=p.1/\w'.heap[p.1]? =some p.2/\¬J.isAt p.1)/\Φ F' z))(k:∀z J F',Φ F' z->J.Fit m (ys z)->J.Fr (dJ (F'++F)) L->(∀p∈F',ah L p.1)->OJ C ops Q l ((d,v z J)::E) D (dJ (F'++F)) L (H0++(J.hp enc t (ys z)++H1))):OJ C ops Q (⟨some d,.call ⟨.value x,xo.toArray,eL⟩,ty,pos,aE,g⟩::l) E D (dJ F) L H:=
 nK rfl hw hx ha zI aB λa W jz hD hF hS=>(hc W hS).mono (by
  rintro ed W' ⟨z,J,F',rfl,hk,jx,bQ,fF,wD,hΦ⟩;have hP:=hS;rw[hH]at hP;have an:St (dJ F) L (r.hp enc t xs++(H0++H1)) W:=hP.perm (List.perm_append_comm_assoc _ _ _);have az:qu (dJ F) L (r.hp enc t xs):=by
   cases r with
   |nil=>trivial
   |row b c sp=>exact⟨jX,trivial⟩
  have aq:St (dJ F) L (J.hp enc t (ys z)++(H0++H1)) W':=by
   refine an.swapZ (hk.mono λk _ h=>Rw.mem_at h) az (λp hp=>?_) ?_
   ·have h8:p.1∈(J.hp enc t (ys z)).map (·.1):=bU.2 ⟨p,hp,rfl⟩;refine⟨?_,(jx _ (Rw.mem_is h8)).imp (λh=>Rw.mem_at h) id⟩;cases J with
    |nil=>simp[Rw.hp]at hp
    |row b c sp=>simp only[Rw.hp,fC]at hp;subst hp;exact fF
   cases J with
   |nil=>exact λi j p q hi=>by simp[Rw.hp]at hi
   |row b c sp=>exact EL _
  have a6:St (dJ F) L (H0++(J.hp enc t (ys z)++H1)) W':=aq.perm (List.perm_append_comm_assoc _ _ _);have ay:=a6.fzB (F':=F') (λp hp=>⟨(wD p hp).2.1,λhm=>by
   rw[gN,gN]at hm;rcases aY.1 hm with hm|hm
   ·obtain⟨q,hq,e⟩:=bU.1 hm;have:=hP.lt q (aY.2 (.inl hq));have:=(wD p hp).1;omega
   rcases aY.1 hm with hm|hm
   ·exact(wD p hp).2.2 (Rw.mem_is hm)
   obtain⟨q,hq,e⟩:=bU.1 hm;have:=hP.lt q (aY.2 (.inr (aY.2 (.inr hq))));have:=(wD p hp).1;omega⟩)
  refine k z J F' hΦ bQ ?_ (λp hp=>CK hS (wD p hp).1) (a.put (some d) (v z J)) W' z7 z5 (hF.put _ z6) ay;cases J with
  |nil=>trivial
  |row b c sp=>
   rcases jx b rfl with h|h
   ·exact(Rw.Fr_at jX h).elim (λh=>h.elim) .inr
   exact .inr (CK hS h))
end
theorem nBm{f:Nat}{cap:List Value}{a:Ap}{RO:Nat->Prop}(aB:eV prog f)(r:Rw)(ds:List Dv)(w:World)(bh:r.Fit 36 ds)(uP:ds.length<=30000)(fF:r.At iG 142 ds w)(pE:∀k,RO k->k<w.heap.size/\¬r.isAt k)(qE:∀W2,Below w.heap.size w W2->sw prog f cap (λd:Dv=>[.agg (vG d)]) GS (GU w.heap.size a) (λ_=>False) RO W2):Calls prog 95 #[r.val ds.length,.func (.func f) #[] cap.toArray] w (λe w'=>∃(xs:List Dv) (r':Rw),e= .returned (r'.val (ds++xs).length)/\aT (λk=>r.isAt k) w w'/\(∀k,r'.isAt k->r.isAt k\/w.heap.size<=k)/\r'.Fit 36 (ds++xs)/\r'.At iG 142 (ds++xs) w'/\(xs.map ig=gK a/\xs.length<=200)/\∀d∈xs,fT (λk=>r'.isAt k) w.heap.size w'.heap.size w' d):=by
 refine Qq (Gh.lent (λk=>r.isAt k)) (r.hp iG 142 ds) (vs:=[_,_]) func95 rfl ntmps95 rfl (G9 fF) ?_;refine OI ?_;refine yW ?_;intro b2 dL dH;refine B 10 ?_;have a6:r.Fr (Gh.lent (λk=>r.isAt k)) [w]:=by
  cases r with
  |nil=>trivial
  |row b c sp=>exact .inl rfl
 refine nPp (f:=f) (cap:=cap) (α:=Dv) (enc:=(λd:Dv=>[.agg (vG d)])) (Pre:=GS) (Fin:=GU w.heap.size a) (RO:=RO) (MI:=λ_=>False) rfl aB (λW W2 hS hB=>qE W2 ((hS.belowR fF aa).trans (hB.mono (hS.links w A0).size))) (λ_ _ _ hk=>hk.elim) (λW hS k hk=>by have h1:=pE k hk;have h2:=(hS.links w A0).size;exact⟨by omega,λhm=>by rcases cd.1 hm with h|h;(have h3:k=b2:=h;omega);exact h1.2 (Rw.mem_is h),h1.2⟩) (λ_=>rfl) (λpre G' Hc=>G'=(Gh.lent (λk=>r.isAt k))/\∃r1:Rw,r1.Fr (Gh.lent (λk=>r.isAt k)) [w]/\r1.Fit 36 (ds++pre)/\Hc=[(b2,oC #[r1.val (ds++pre).length] 138)]++(r1.hp iG 142 (ds++pre)++[])) (λ_ _ _=>False) ⟨rfl,r,a6,by rw[ec];exact bh,by simp[Rw.val_cells]⟩ zz ?_ ?_ ?_
 ·rintro pre x G' Hc l Dk rec W1 M V Wy qd xN eM ⟨rfl,r1,aK,ae,rfl⟩ jh mw Qs yG dO DZ;simp only[ah]at jh yG;have gq:=eM.1;simp only[cB,dI,fJ]at gq;have EM:∀p∈r1.hp iG 142 (ds++pre),M p.1\/V p.1:=λp hp=>dO.loc.h p VF;refine bM 2 ?_;intro b5 tr tu;refine B 2 ?_;refine PJ.reH (H':=book ([(b5,oC (vG x) 142)]++([(b2,oC #[r1.val (ds++pre).length] 138)]++(r1.hp iG 142 (ds++pre)++[]))) l rec (jj Dk)) rfl ?_;refine Om qd ?_;refine aF 3 (.agg (vG x)) ?_;refine zue ?_;refine yW ?_;intro fN lq oj;refine jV (r:=r1) (xs:=(ds++pre)) (zs:=[x]) (enc:=iG) (m:=36) (H0:=[(fN,oC (vG x) 142),(b5,oC (vG x) 142),(b2,oC #[r1.val (ds++pre).length] 138)]) (H1:=(l,.loop {rec with state:=.busy})::jj Dk) zW nEl GR rfl rfl rfl rfl (ck.one (z:=x) GR nAh underlying138 (bF.own (i:=0) rfl)) ae (Rw.Fr_ext EM) zI yU ?_;intro gD pF pG jL lu;replace jL:=yb jL;refine B 3 ?_;refine uI ?_;refine JY (G2:=(Gh.lent (λk=>r.isAt k))) (Hc2:=[(b2,oC #[(Rw.row gD pF pG).val (ds++pre++[x]).length] 138)]++((Rw.row gD pF pG).hp iG 142 (ds++pre++[x])++[])) dO mw ⟨λ_ h=>h,λ_ h=>.inl h,λ_ h=>.inl h,(VG rfl (jL.imp id (λh=>h.1))),(by intro p hp;rcases cd.1 hp with h|hp;(subst h;exact .inl zI);exact .inr (.inl (Rw.mem_is (bU.2 ⟨p,hp,rfl⟩))))⟩ (JZ qd xN) ?_
  exact⟨rfl,.row gD pF pG,jL.elim (λh=>Rw.Fr_at aK h) (λh=>.inr h.2),by rw[<-iY];exact lu,by rw[<-iY ds pre [x]]⟩
 ·rintro J l Dk rec G' Hc Zf Wd ee an jh mw ⟨rfl,r1,aK,ae,rfl⟩;replace jh:=yb jh;refine Q3 λbQ yF=>?_;have oe:=VH yF;refine B 9 ?_;refine PJ.reH (H':=(b2,oC #[r1.val (ds++J).length] 138)::(r1.hp iG 142 (ds++J)++(l,.loop rec)::jj Dk)) VI ?_;refine B9 (.inl rfl) zI λa W H' hF hS eX aX=>?_;have Dj:∀k,k∈H'.map (·.1)->k=b2\/r1.isAt k\/k=l\/k=Dk:=by
   intro k hk;rw[aX]at hk;simp only[gN,dP,fu,aY,cd,dZ,or_false]at hk;rcases hk with hk|hk|hk|hk
   ·exact .inl hk
   ·exact .inr (.inl (Rw.mem_is hk))
   ·exact .inr (.inr (.inl hk))
   exact .inr (.inr (.inr hk))
  have br:∀k,k∈H'.map (·.1)->Zf k:=by
   intro k hk;have h8:k∈(book ([(b2,oC #[r1.val (ds++J).length] 138)]++(r1.hp iG 142 (ds++J)++[])) l rec (jj Dk)).map (·.1):=by
    rw[aX]at hk;simpa[book,Rw.val_cells]using hk
   obtain⟨p,hp,rfl⟩:=bU.1 h8;exact an p hp
  have aq:∀k,r1.isAt k->r.isAt k\/w.heap.size<=k:=λk hk=>(Rw.Fr_at aK hk).imp id (λh=>h.1);refine⟨_,by rw[results_tmp results95];exact congrArg (λu=>Result.ok u W) (hF 4 _ rfl),J,r1,rfl,?_,aq,ae,?_,ee.1,λd hd=>?_⟩
  ·refine(hS.links w A1).mono λk hk hx=>hx.elim id λhx=>?_;rcases Dj k hx with h|h|h|h
   ·omega
   ·exact(aq k h).resolve_right aa
   ·omega
   omega
  ·cases r1 with
   |nil=>trivial
   |row b cap sp=>exact hS.own _ (eX (b,bj iG 142 (ds++J) sp) o8 (oe _ o8).1)
  refine(ee.2 d hd).up (hS.links Wd A0).size (λb off _ hb1 dz dE=>(hS.links Wd A0).block b dz (λhx=>hx.elim (λh=>?_) (λh=>dE (br b h)))) (λb _ _ h=>?_)
  ·have:=Rw.isAt_lt fF h;omega
  have h8:b∈(book ([(b2,oC #[r1.val (ds++J).length] 138)]++(r1.hp iG 142 (ds++J)++[])) l rec (jj Dk)).map (·.1):=by
   simp only[book,gN,aY];exact .inl (.inr (.inl (Rw.mem_at h)))
  obtain⟨p,hp,rfl⟩:=bU.1 h8;exact an p hp
 exact Qt
theorem nHj(p:Pl)(w:World):Calls prog 96 #[.agg (kV p)] w (dc w (λb:Nat=>.func (.func 166) #[] #[ptr b 0]) (λb w1=>w.heap.size<=b/\w1.heap[b]? =some (oC (kV p) 92))):=by
 refine eN func96 ntmps96 ?_;refine cK 2 ?_;intro b1 w1 hb1 cN J gb jJ;refine B 10 ?_;refine sM b1 results96 rfl A1 rfl ?_;exact zLh
theorem Te(p:Pl)(f:Nat->Int)(b:Nat)(w:World)(hb1:w.heap[b]? =some (oC (dg f) 33)):Calls prog 94 #[.agg (kV p),ptr b 0] w (aU w (.bool (iD p.x.g.last f))):=by
 have cN:¬Gh.no.X b:=λh=>h;have J:=(bB.1 hb1).1;refine eN func94 ntmps94 ?_;refine cK 2 ?_;intro b2 w2 dz bY ft dL dH;refine B 7 ?_;refine DG ?_;refine du (.agg (dg f)) ?_;refine rv rfl rfl rfl (hQ nO zz nF rfl rfl rfl) ?_;refine B 4 ?_;refine aL results94 rfl A1 ?_;rfl
theorem nmm(p:Pl->Bool)(f:Nat)(cap:List Value)(aB:eV prog f)(xs:List Pl)(hxl:xs.length<=1000000)(N:Nat)(a:Option Addr)(cp:Nat)(w:World)(hN:N<=w.heap.size)(aI:ai kV 111 N w a xs)(hp:∀(j:Nat) (x:Pl),xs[j]? =some x->∀W,Below w.heap.size w W->Calls prog f (.agg (kV x)::cap).toArray W (aU W (.bool (p x)))):Calls prog 93 #[.slice a xs.length cp,.func (.func f) #[] cap.toArray] w (dc w (λi:Int=>ab i) (λi _=>fE p xs i)):=by
 refine eN func93 ntmps93 ?_;refine VS ?_;rintro j ⟨hj,dR⟩;refine aG 6 ?_ ?_
 ·intro av;refine B 11 ?_;obtain⟨bo,oo,J,to,fg,rfl,fh,bX,aR⟩:=aI.get aa;obtain⟨x,hx⟩:=ng xs j aa;refine aF 5 (.agg (kV x)) ?_;refine VT ?_;refine uf ?_ ?_
  ·intro aS;refine B 12 ?_;refine sM (j:Int) results93 rfl A0 rfl ?_;exact VU
  exact VV
 intro av;refine B 11 ?_;refine sM (-1:Int) results93 rfl A0 rfl ?_;exact VW
def zCm:Cm:=⟨0,0,λ_=>0,0,[],none,0,[],none,0,[],none,0,[],none,0,λ_=>0,0,0⟩
def Bp:Pl:=⟨zCm,false,[],none,0,gj⟩
def gL (pls:List Pl) (f:Nat->Int):Option Pl:=pls.find? λp=>iD p.x.g.last f
def fnV (o:Option Pl):Value:=.tuple #[.agg (kV (o.getD Bp)),.bool o.isSome]
theorem nVj(pls:List Pl)(gq:pls.length<=1000)(f:Nat->Int)(N:Nat)(a:Option Addr)(c b:Nat)(w:World)(hN:N<=w.heap.size)(hb1:w.heap[b]? =some (oC #[.slice a pls.length c] 89))(aI:ai kV 111 N w a pls):Calls prog 92 #[.agg (dg f),ptr b 0] w (aU w (fnV (gL pls f))):=by
 have cN:¬Gh.no.X b:=λh=>h;have my:=(bB.1 hb1).1;refine eN func92 ntmps92 ?_;refine cK 2 ?_;intro b2 w2 dz bY ft dL dH;refine bM 1 ?_;intro b3 eO fw;refine B 7 ?_;refine ny (α:=Int) (v:=λi:Int=>ab i) (Φ:=λ_ i _=>fE (λy:Pl=>iD y.x.g.last f) pls i) call93 rfl rfl rfl (λW hS=>nmm (λy=>iD y.x.g.last f) 94 [ptr b2 0] call94 pls aa N a c W cR (aI.up (aj _) (hS.same A1 hN zF C7)) (λj x hx W2 hB=>Te x f b2 W2 (by have h9:=hS.old A0 dz bY zy;rw[hB.block b2 (bB.1 h9).1];exact h9))) ?_;intro Wi ix wi Fi Fj DE;refine aG 10 ?_ ?_
 ·intro av;refine B 9 ?_;refine cA (.inl rfl) results92 bD A2 z0b ?_;rw[show gL pls f=none from((WR DE).resolve_right (λ⟨j,x,h,_⟩=>by omega)).2];rfl
 intro av;refine B 3 ?_;obtain⟨n,x,rfl,hx,J⟩:=(WR DE).resolve_left (λh=>by have:=h.1;omega);obtain⟨bp,op,al,tp,fg,rfl,AM,bX,aR⟩:=aI.get VM;have an:=nq hx;refine aF 4 (.agg (kV x)) ?_;refine B 5 ?_;refine cA (.inl rfl) results92 bD A2 z0b ?_;rw[show gL pls f=(some x)from J];rfl
section
open Go.Extern.Stop Go.Stop Go.Extern
def Tf:Array Value->Sem Value:=Extern.ReflectliteType.method λt=>do Rtype.noPackHeld "Comparable" t;pure (.bool (<-typeInfo t).comparable)
theorem nam(v:Value)(w:World):(Extern.ReflectliteType.typeOf #[.iface 472 v]).run prog w= .ok (.iface 318 (.agg #[.pointer (some ⟨10,472,none⟩)])) w:=by kernel_rfl
theorem n9g(w:World):(Tf #[.agg #[.pointer (some ⟨10,472,none⟩)]]).run prog w= .ok (cD) w:=by kernel_rfl
theorem nbe(v:Value)(w:World):(Go.method 244 318 v "Comparable").run prog w= .ok (360,v) w:=by kernel_rfl
theorem Hb:(prog.info? 472).map (·.comparable)=some true:=by kernel_rfl
theorem Hd:(prog.info? 505).map (·.size)=some 1:=by kernel_rfl
theorem aa4(v:Value)(J:TypeId)(w:World):(Instr.typeAssert (.iface 472 v) J 320 true).run prog w= .ok (.tuple #[.nilIface,bH]) w:=run_typeAssert_lacksB underlying320 zN zN v J w
theorem nBp(v:Value)(J:TypeId)(w:World):(Instr.typeAssert (.iface 472 v) J 323 true).run prog w= .ok (.tuple #[.nilIface,bH]) w:=run_typeAssert_lacksB underlying323 zN zN v J w
theorem nOo(v:Value)(J:TypeId)(w:World):(Instr.typeAssert (.iface 472 v) J 325 true).run prog w= .ok (.tuple #[.nilIface,bH]) w:=run_typeAssert_lacksB underlying325 zN zN v J w
theorem nQn(a:Addr)(w:World):Calls prog 69 #[.iface 472 (.pointer (some a)),.iface 472 (.pointer (some a))] w λe w'=>e= .returned (cD)/\w'=w:=by
 obtain⟨i,hi,Tg⟩:=wu.1 Hb;obtain⟨j,hj,qf⟩:=wu.1 Hd;have h8:=@run_callFunc_extern prog 120 _ Extern.ReflectliteType.typeOf func120 zN zN zN zN;have J:=@run_callFunc_extern prog 360 _ Tf func360 zN zN zN zN;have tT:=nam;have cT:=n9g;have mR:=nbe;have heq:=run_eql_iface_ptr_same (P:=prog) w a underlying173 underlying472 hi Tg hj
 go_enter func69,ntmps69
 go_wp2
 refine wp_loop_rounds 1 ?_;rw[rounds_succ]
 go_wp2
 go_ret
 exact⟨rfl,rfl⟩
theorem Th(b:Addr)(w:World):Calls prog 69 #[.nilIface,.iface 472 (.pointer (some b))] w λe w'=>e= .returned (bH)/\w'=w:=by
 have hn:=run_eql_iface_nil_left (P:=prog) w 472 (.pointer (some b)) underlying173
 go_enter func69,ntmps69
 go_wp2
 go_ret
 exact⟨rfl,rfl⟩
theorem ngm(a b:Addr)(ca J:Array Value)(ta tb:TypeId)(w:World)(hne:a≠b)(ha:w.heap[a.block]? =some (oC ca ta))(hb:w.heap[b.block]? =some (oC J tb)):Calls prog 69 #[.iface 472 (.pointer (some a)),.iface 472 (.pointer (some b))] w λe w'=>e= .returned (bH)/\w'=w:=by
 obtain⟨i,hi,Tg⟩:=wu.1 Hb;obtain⟨j,hj,qf⟩:=wu.1 Hd;have h8:=@run_callFunc_extern prog 120 _ Extern.ReflectliteType.typeOf func120 zN zN zN zN;have an:=@run_callFunc_extern prog 360 _ Tf func360 zN zN zN zN;have tT:=nam;have cT:=n9g;have mR:=nbe;have nE:=aa4;have uE:=nBp;have vE:=nOo;have heq:=run_eql_iface_ptr_other (P:=prog) w underlying173 underlying472 hi Tg hj (by rw[qf];decide) hne ha hb
 go_enter func69,ntmps69
 go_wp2
 refine wp_loop_rounds 1 ?_;rw[rounds_succ]
 go_wp2
 go_ret
 exact⟨rfl,rfl⟩
end
section
variable {C:Cx} {Q:bE} {E:Env} {D:List Deferred} {G:Gh} {L:List World} {H:ad} {ops:Array Oper} {l:List Oper}
theorem Tj{d ty f:Nat}{pos:String}{aE:Array Edge}{g:Option (Nat×Bool)}{xs:List Operand}{vs:List Value}{eL:Array Nat}{α:Type}{v:α->Value}{Φ:α->Prop}(aB:eV C.P f)(hw:nr ops E g=some true)(hN:Nat.blt d C.N=true)(ha:jy E xs=some vs)(hc:∀W,St G L H W->Calls C.P f vs.toArray W (dc W v (λx _=>Φ x)))(k:∀x,Φ x->OJ C ops Q l ((d,v x)::E) D G L H):OJ C ops Q (⟨some d,.call ⟨.value (.func f),xs.toArray,eL⟩,ty,pos,aE,g⟩::l) E D G L H:=
 nK rfl hw rfl ha zI aB λa W jz hD hF hS=>(hc W hS).mono (by
  rintro e W' ⟨x,rfl,hb,hx⟩;exact k x hx (a.put (some d) (v x)) W' z7 z5 (hF.put _ z6) (hS.step hb))
end
structure Ol where
 f:Nat->Int
 w:Dw
def vK (x:Ol):Array Value:=(lN x.f [ab x.w.u,.slice x.w.ba x.w.body.length x.w.bc]).toArray
structure Gr where
 folder:Int
 by_:Int
 device:Int
 pub:Int
 f:Nat->Int
 oa:Option Addr
 olds:List Ol
 oc:Nat
 sr:Int
 ss:Int
def tW (x:Gr):Array Value:=(ab x.folder::ab x.by_::ab x.device::ab x.pub::lN x.f [.slice x.oa x.olds.length x.oc,ab x.sr,ab x.ss]).toArray
structure Ir where
 f:Nat->Int
 g:Nat->Int
 by_:Int
 ba:Option Addr
 body:List UInt8
 bc:Nat
 sr:Int
 ss:Int
def Bq (x:Ir):Array Value:=(lN x.f (lN x.g [ab x.by_,.slice x.ba x.body.length x.bc,ab x.sr,ab x.ss])).toArray
structure sy (N:Nat) (w:World) (x:Gr):Prop where
 ol:ai vK 34 N w x.oa x.olds
 bb:∀o∈x.olds,gH N w o.w.ba o.w.body
theorem sy.up{N J:Nat}{w':World}{x:Gr}(h:sy N w x)(hN:N<=J)(hw:∀k,k<N->w'.heap[k]? =w.heap[k]?):sy J w' x:=⟨h.ol.up hN hw,λo ho=>(h.bb o ho).up hN hw⟩
structure pU (x:Gr):Prop where
 few:x.olds.length<=6
 bf:ey x.f
 bo:∀o∈x.olds,ey o.f
 i:kK x.folder/\kK x.by_/\kK x.device/\kK x.pub
 io:∀o∈x.olds,kK o.w.u
structure ku (x:Ir):Prop where
 bf:ey x.f
 bg:ey x.g
 i:kK x.by_
theorem n8j:jO []=true:=OS.2 ⟨λi x _ h=>by simp at h,by simp⟩
theorem npm(hv:ef g=true):lX g (-1) []=false:=by
 have h:=zm.1 hv;have hm:gF g.ms (-1)=false:=by
  unfold gF;rw[decide_eq_false_iff_not];intro he;cases hx:g.ms[pJ g.ms (-1)]? with
  |none=>rw[hx]at he;cases he
  |some x=>
   rw[hx]at he;have e1:x.dev= -1:=by simpa using he
   have h2:x.dev∈eu g.ns:=by rw[<-h.2.2.1];exact bU.2 ⟨x,cu hx,rfl⟩
   have:=(nPj h2).1;omega
 have he:0<=g.epoch:=h.1.2.1;all_goals grind [lX]
theorem He(G:Gv)(N:Nat)(w:World)(hN:N<=w.heap.size)(hG:cj N w G):Calls prog 117 #[.agg (bJ G)] w (aU w (.bool (ef G.g))):=by
 refine eN func117 ntmps117 ?_;refine cK 2 ?_;intro b1 w1 hb1 cN gV gb jJ;refine Zi ?_;obtain⟨e,he⟩:∃e,fj G.g (-1) []=e:=⟨_,rfl⟩;refine nH (enc:=tJ) (m:=4) (t:=110) (xs:=[]) (v:=λs=>.tuple #[s,ab e]) (first:=[]) (cap:=[]) rfl call134 rfl rfl rfl V6 (λW hS=>?_) ?_
 ·have J:=hG.up (aj _) hS.sm;have al:=eB hN (hS.links w A1).size;cases hv:ef G.g with
  |false=>rw[<-he,show fj G.g (-1) []=1 by simp[fj,hv]];exact nmj G N W al J [] zI none 0 (.inl rfl) (-1) hv
  |true=>rw[<-he,show fj G.g (-1) []=221 by simp[fj,xY,hv,npm hv,n8j]];exact ndi G N W al J [] zI none 0 (.inl rfl) (-1) hv n8j (npm hv)
 intro W9 a9 Fp Jm cF xX jP kA;refine aF 1 (.slice a9 0 Fp) ?_;refine B 13 ?_;refine aL results117 rfl A2 ?_;subst he;cases hv:ef G.g with
 |false=>exact vb (by simp[fj,hv])
 |true=>exact vb (by simp[fj,xY,hv,npm hv,n8j])
theorem Hf(x:Mb)(d:Int)(b:Nat)(w:World)(hb1:w.heap[b]? =some (oC #[ab d] 3)):Calls prog 119 #[.agg (qH x),ptr b 0] w (aU w (.bool (decide (x.dev=d)))):=by
 have cN:¬Gh.no.X b:=λh=>h;have J:=(bB.1 hb1).1;refine eN func119 ntmps119 ?_;refine cK 2 ?_;intro b2 w2 dz bY ft dL dH;refine B 13 ?_;refine aL results119 rfl A1 ?_;rfl
abbrev Mm:=Int×Int
def Br (x:Mm):List Value:=[ab x.1,ab x.2]
theorem nVh(x:Mm):(Br x).length=2:=rfl
theorem Mi(x:Mm):∀u∈Br x,u.oneCell'=true:=LD rfl
theorem Mj:prog.info? 180=some Tryz.t180:=by kernel_rfl
theorem Tk:jM prog 171 180 2:=⟨underlying171,Tryz.t180,.agg #[ab 0,ab 0],Mj,rfl,rfl,rfl,by decide⟩
structure Sen (w:World) (a0 a1:Addr):Prop where
 g0:∃t fr,w.heap[0]? =some (.cells #[.iface 472 (.pointer (some a0))] t fr)
 g1:∃t fr,w.heap[1]? =some (.cells #[.iface 472 (.pointer (some a1))] t fr)
 h0:∃c t,w.heap[a0.block]? =some (oC c t)
 h1:∃c t,w.heap[a1.block]? =some (oC c t)
 ne:a0≠a1
noncomputable def yr (g:Gp) (d:Int):Option Mm:=(g.ms.find? λx=>decide (x.dev=d)).map λx=>(x.ver,(cJ g.ns (512+d)).getD 0)
noncomputable def DH (g:Gp) (l:List Int):List Mm:=l.filterMap (yr g)
noncomputable def qT (g:Gp) (l:List Int):Nat:=if ef g=false then 1 else if l.all (λd=>(yr g d).isSome)then 0 else 2
noncomputable def Hg (g:Gp) (l:List Int):List Mm:=if qT g l=0 then DH g l else[]
theorem nqi{d:Int}{m:Mm}(hd:l[j]? =some d)(hm:yr g d=some m):DH g (l.take (j+1))=DH g (l.take j)++[m]:=by unfold DH;rw[np hd,List.filterMap_append];simp[hm]
theorem Tl(g:Gp)(l:List Int):(DH g l).length<=l.length:=List.length_filterMap_le _ _
theorem aa5(h:ef g=false):qT g l=1:=by unfold qT;rw[if_pos h]
theorem aa6{d:Int}(h:ef g=true)(hd:d∈l)(hn:yr g d=none):qT g l=2:=by grind [qT]
theorem aa7(h:ef g=true)(ha:l.all (λd=>(yr g d).isSome)=true):qT g l=0:=by unfold qT;rw[if_neg (by rw[h];decide),if_pos ha]
theorem Tm{d:Int}{i:Int}(h:fE (λx:Mb=>decide (x.dev=d)) g.ms i)(hi:i<0):yr g d=none:=by grind [yr,WR]
theorem Ml{d:Int}{x:Mb}(h:g.ms.find? (λx=>decide (x.dev=d))=some x):yr g d=some (x.ver,(cJ g.ns (512+d)).getD 0):=by unfold yr;rw[h];rfl
def erV (a0 a1:Addr):Nat->Value
 |0=>.nilIface
 |1=>.iface 472 (.pointer (some a0))
 |_=>.iface 472 (.pointer (some a1))
theorem nGo(G:Gv)(N:Nat)(w:World)(hN:N<=w.heap.size)(hG:cj N w G)(l:List Int)(hl:l.length<=100)(a:Option Addr)(cp:Nat)(aI:ai encI 1 N w a l)(a0 a1:Addr)(hse:Sen w a0 a1):Calls prog 68 #[.agg (bJ G),.slice a l.length cp] w (aD w Br 2 180 (Hg G.g l) (λs=>.tuple #[s,erV a0 a1 (qT G.g l)])):=by
 obtain⟨bu,b0,hg0⟩:=hse.g0;obtain⟨cr,cT,al⟩:=hse.g1;have DS:=(bB.1 hg0).1;have my:=(bB.1 al).1;refine eN func68 ntmps68 ?_;refine cK 2 ?_;intro b2 w2 dz bY ft dL dH;refine aF 7 (.agg (bJ G)) ?_;refine call (v:=.bool (ef G.g)) call117 rfl rfl rfl (λW hS=>He G N W cR (hG.up (aj _) hS.sm)) ?_;refine aG 3 ?_ ?_
 ·intro av;refine B 1 ?_;refine eA 2 (pb:=by exact aM (X.v (ar (v:=.iface 472 (.pointer (some a0))) isAgg173 rfl A1 hg0 zH zy rfl)) zT) (k:=?_);refine B 5 ?_;have e1:qT G.g l=1:=aa5 AW;exact zeh
 intro av;refine B 11 ?_;have hv:ef G.g=true:=by simp_all
 refine CJ.loop (α:=Rw×Nat) (λp=>[(2,ptr b2 0),(4,p.1.val (DH G.g (l.take p.2)).length),(15,.slice a l.length cp),(16,ab (l.length:Int)),(17,ab (p.2:Int))]) (λp=>p.1.hp Br 180 (DH G.g (l.take p.2))++[]) (λp=>[w2,w]) (λp=>Gh.no) (λp=>p.2<=l.length/\p.1.Fr Gh.no [w2,w]/\p.1.Fit 2 (DH G.g (l.take p.2))/\(l.take p.2).all (λd=>(yr G.g d).isSome)=true) (λp=>l.length-p.2) (.nil,0) ⟨cO _,True.intro,rfl,rfl⟩ zR rfl rfl zI ?_;rintro⟨r,j⟩ ⟨hj,aK,ae,J⟩;dsimp only at hj aK ae J ⊢;have bK:r.ge w2.heap.size:=Rw.ge_of aK A0;refine aG 6 ?_ ?_
 ·intro aS;refine B 5 ?_;obtain⟨bo,oo,bL,to,fg,rfl,fh,bX,aR⟩:=aI.get aa;obtain⟨d,hd⟩:=ng l j aa;refine B 2 ?_;refine rv rfl rfl rfl (ar (v:=ab d) isAgg3 rfl A1 bX zH zy (by have:=nJ aR hd rfl zz;simpa[encI]using this)) ?_;refine bM 1 ?_;intro b7 kh vY;refine aF 6 (.slice G.ma G.g.ms.length G.mc) ?_;refine B 1 ?_;refine Tj (α:=Int) (v:=λi:Int=>ab i) (Φ:=λi=>fE (λy:Mb=>decide (y.dev=d)) G.g.ms i) call118 rfl rfl rfl (λW hS=>?_) ?_
  ·have zV:=hS.own (b7,_) A0;exact nyd (λy:Mb=>decide (y.dev=d)) 119 [ptr b7 0] call119 G.g.ms (by have:=hG.mn;omega) N G.ma G.mc W cR (hG.ms.up (aj _) (hS.same A1 hN zF zC)) (λj x hx W2 hB=>Hf x d b7 W2 (by rw[hB.block b7 (bB.1 zV).1];exact zV))
  intro ix DE;refine aG 10 ?_ ?_
  ·intro dh;refine B 1 ?_;refine eA 2 (pb:=by exact aM (X.v (ar (v:=.iface 472 (.pointer (some a1))) isAgg173 rfl A1 al zH zy rfl)) zT) (k:=?_);refine B 10 ?_;have e1:qT G.g l=2:=aa6 hv (cu hd) (Tm DE aa);exact zeh
  intro dh;refine B 3 ?_;obtain⟨n,x,rfl,hx,an⟩:=(WR DE).resolve_left (λh=>by have:=h.1;omega);have lA:di d:=by have h1:=(zm.1 hv).2.2.1;have h2:=List.find?_some an;simp only[decide_eq_true_eq]at h2;exact nPj (by rw[<-h1,<-h2];exact bU.2 ⟨x,cu hx,rfl⟩)
  have bQ:=lA.1;have br:=lA.2;have uG:=Ml an;obtain⟨bm,om,cb,tm,bx,lU,o9,Rk,Rl⟩:=hG.ms.get VM;have bZ:=nq hx;refine aF 2 (.agg #[.slice G.na G.g.ns.length G.nc]) ?_;refine aF 1 (ab (512+d)) ?_;refine call (v:=.tuple #[ab ((cJ G.g.ns (512+d)).getD 0),.bool (cJ G.g.ns (512+d)).isSome]) call36 rfl rfl rfl (λW hS=>nUb G.g.ns (by have:=hG.nn;omega) N G.na G.nc W cR (hG.ns.up (aj _) (hS.same A1 hN zF zC)) (512+d)) ?_;refine B 10 ?_;refine rq (.slice (some ⟨bm,om,none⟩) G.g.ms.length G.mc) (ar isAgg48 rfl A0 dz bY zy rfl) (congrArg (λq=>Value.slice q G.g.ms.length G.mc) lU) ?_;refine B 3 ?_;refine rv rfl rfl rfl (ar (v:=ab x.ver) isAgg3 rfl A1 Rk zH zy (by have:=uA Rl hx rfl 2 zz;simpa[qH]using this)) ?_;refine B 2 ?_;refine kp underlying171 sizeOf180 zeroValue180 rfl rfl rfl rfl rfl rfl rfl ?_;refine yW ?_;intro ay bz bw;refine jV (r:=r) (xs:=(DH G.g (l.take j))) (zs:=[((x.ver,(cJ G.g.ns (512+d)).getD 0):Mm)]) (enc:=Br) (m:=2) (H0:=[(ay,oC #[ab x.ver,ab ((cJ G.g.ns (512+d)).getD 0)] 180),(b7,oC #[ab d] 3)]) (H1:=[]) zW Tk nVh rfl rfl rfl rfl (ck.one (z:=((x.ver,(cJ G.g.ns (512+d)).getD 0):Mm)) nVh Mi underlying171 (bF.own (i:=0) rfl)) ae aK zI (by have h9:=Tl G.g (l.take j);rw[kU]at h9;simp only[dI,fJ];omega) ?_
  intro az a8 a6 Tn To;replace Tn:=yb Tn;refine zd ?_;refine PJ.again (Rw.row az a8 a6,j+1) ⟨by dsimp only;omega,Tn.elim (λh=>Rw.Fr_at aK h) (λh=>.inr h),by rw[nqi hd uG];exact To,by dsimp only;rw[np hd,List.all_append,J];simp[uG]⟩ zS ⟨rfl,by rw[nqi hd uG];rfl,rfl,rfl,rfl,trivial⟩ (by rw[nqi hd uG];rfl) rfl zI
 intro aS;refine B 13 ?_;have Ab:j=l.length:=by omega
 rw[Ab,ur]at J ae ⊢;have e1:qT G.g l=0:=aa7 hv J;have e2:Hg G.g l=DH G.g l:=by unfold Hg;rw[e1];rfl
 rw[e1,e2];exact nQ (H0:=[]) (H1:=[]) (r:=r) (.inl rfl) results68 bD A1 (by rw[ec];exact Rw.over (Rw.ge_mono bK aa)) rfl ae (Rw.ge_mono bK aa) zI
theorem WV(n:Int)(w:World):Calls prog 130 #[ab n] w (aU w (vI n)):=by
 refine eN func130 ntmps130 ?_;refine bM 3 ?_;intro b2 J dH;refine B 10 ?_;refine cA (.inl rfl) results130 bD A0 zA ?_;rfl
theorem JE(l:List UInt8)(N:Nat)(a:Option Addr)(c:Nat)(w:World)(hN:N<=w.heap.size)(hb:gH N w a l):Calls prog 129 #[.slice a l.length c] w (aU w (vT (qK l))):=by
 refine eN func129 ntmps129 ?_;refine bM 3 ?_;intro b2 J dH;refine B 5 ?_;refine zqe ?_;refine B 5 ?_;refine cA (.inl rfl) results129 bD A0 zA ?_;rfl
theorem nOj(base:Option Addr)(n c:Nat)(w:World):Calls prog 128 #[.slice base n c] w (aU w (vL base n c)):=by
 refine eN func128 ntmps128 ?_;refine bM 3 ?_;intro b2 J dH;refine B 10 ?_;refine cA (.inl rfl) results128 bD A0 zA ?_;rfl
def xr (o:Ol):List V:=[.text (qK (cM o.f)),.int o.w.u,.text (qK o.w.body)]
def xt (x:Gr):List V:=[.int x.folder,.int x.by_,.int x.device,.int x.pub,.text (qK (cM x.f)),.list ((x.olds.map xr).map V.list)]
def JF (x:Ir):List V:=[.text (qK (cM x.f)),.text (qK (cM x.g)),.int x.by_,.text (qK x.body)]
def CL (Z:Fx) (x:Gr):Nat->Int:=Z.tg (⟨#[103,114,97,110,116,32,115,105,103,110]⟩:ByteArray) (V.list (xt x)).enc
def CM (Z:Fx) (x:Ir):Nat->Int:=Z.tg (⟨#[105,110,104,101,114,105,116,32,115,105,103,110]⟩:ByteArray) (V.list (JF x)).enc
theorem nNk:∀{l:List V},(∀v∈l,v.fine)->V.fineL l
 | [],_=>by simp[V.fineL]
 |v::l,h=>by simp only[V.fineL];exact⟨h v A0,nNk λu hu=>h u (.tail _ hu)⟩
theorem Mn(x:Gr)(hx:pU x)(hb:∀o∈x.olds,o.w.body.length<=65552):(V.list (xt x)).fine/\(V.list (xt x)).depth<=16/\(V.list (xt x)).enc.length<=800000000000:=by
 have hf:=hx.few;have hl:V.fineL ((x.olds.map xr).map V.list):=nNk λv hv=>by
  obtain⟨l,hl,rfl⟩:=bU.1 hv;obtain⟨o,ho,rfl⟩:=bU.1 hl;have h1:=hb o ho;simp only[V.fine,xr,V.fineL,V.depthL,V.depth];exact⟨by simp,by simp,by rw[Ft,nI];decide,hx.io o ho,by rw[Ft];omega,trivial⟩
 have e5:=ZI 3 zz (x.olds.map xr) (λl hl=>by obtain⟨o,_,rfl⟩:=bU.1 hl;exact⟨rfl,aj 3⟩) hl;have n5:=Da (u:=((x.olds.map xr).map V.list).length) mZ;have m5:(x.olds.map xr).length*(3*1000000020+11)<=6*(3*1000000020+11):=wh _ (by rw[eK];exact hf);have l5:(V.list ((x.olds.map xr).map V.list)).enc.length<=11+(V.encL ((x.olds.map xr).map V.list)).length:=by simp only[V.enc,dI,cB];omega
 have J:V.fineL (xt x):=by
  simp only[xt,V.fineL,V.fine];exact⟨hx.i.1,hx.i.2.1,hx.i.2.2.1,hx.i.2.2.2,by rw[Ft,nI];decide,⟨by simp;omega,by have:=e5.2;omega,hl⟩,trivial⟩
 simp only[xt,V.fineL]at J;obtain⟨g1,g2,g3,g4,g5,g6,_⟩:=J;have i1:=B6 _ rfl g1;have i2:=B6 _ rfl g2;have i3:=B6 _ rfl g3;have i4:=B6 _ rfl g4;have i5:=B6 _ rfl g5;have n6:=Da (u:=(xt x).length) (by simp[xt]);have d5:=e5.2;have dl:V.depthL (xt x)<=2:=by simp only[xt,V.depthL,V.depth];omega
 have el:(V.encL (xt x)).length<=700000000000:=by
  unfold xt;simp only[V.encL,cB,fJ];omega
 refine⟨?_,?_,?_⟩
 ·simp only[V.fine];exact⟨by simp[xt],by omega,by simp only[xt,V.fineL];exact⟨g1,g2,g3,g4,g5,g6,trivial⟩⟩
 ·simp only[V.depth];omega
 simp only[V.enc,dI,cB];omega
theorem Mo(x:Ir)(hx:ku x)(hb:x.body.length<=65552):(V.list (JF x)).fine/\(V.list (JF x)).depth<=16/\(V.list (JF x)).enc.length<=800000000000:=by
 have J:V.fineL (JF x):=by
  simp only[JF,V.fineL,V.fine];exact⟨by rw[Ft,nI];decide,by rw[Ft,nI];decide,hx.i,by rw[Ft];omega,trivial⟩
 have h5:=nvf (JF x) rfl J;all_goals grind [Da,JF,V.fine,V.depth,V.enc]
theorem nyk(hZ:FxOk Z)(s:ByteArray)(hs0:s.size<1000)(l:List V)(ee:(V.list l).fine)(hd:(V.list l).depth<=16)(jt:(V.list l).enc.length<=800000000000)(N bl lc:Nat)(w:World)(hN:N<=w.heap.size)(xS:fy N w (.list l) (vL (ao bl) l.length lc))(hg:Glb w):Calls prog 131 #[.string s,.slice (ao bl) l.length lc] w (dc w (λb:Nat=>.slice (ao b) 32 32) (λb w1=>w.heap.size<=b/\w1.heap[b]? =some (oC (dg (Z.tg s (V.list l).enc)) 33))):=by
 have aq:=hg.lt;obtain⟨df,lD⟩:∃df,Z.tg s (V.list l).enc=df:=⟨_,rfl⟩;refine ei 8 func131 ntmps131 ?_;refine call call128 rfl rfl rfl (λW hS=>nOj _ _ _ W) ?_;refine zje ?_;intro fN Jd Kl J oj an y4;replace J:=yb J;replace oj:=yd oj;refine B 11 ?_;refine z7d ?_;refine bM 1 ?_;intro b7 kh vY;refine B 5 ?_;refine zze ?_;refine B 4 ?_;exact bS (.inl rfl) results131 bD (λW hS=>⟨b7,rfl,hS.base A0 zA,by omega,by rw[lD];exact hS.own _ A0⟩)
theorem nMo(hZ:FxOk Z)(x:Gr)(hx:pU x)(jq:∀o∈x.olds,o.w.body.length<=65552)(N:Nat)(w:World)(hN:N<=w.heap.size)(hG:sy N w x)(hg:Glb w):Calls prog 76 #[.agg (tW x)] w (dc w (λb:Nat=>.slice (ao b) 32 32) (λb w1=>w.heap.size<=b/\w1.heap[b]? =some (oC (dg (CL Z x)) 33))):=by
 have AT:=hx.few;have bu:=hg.lt;have Hh:=hG.ol;obtain⟨df,lD⟩:∃df,CL Z x=df:=⟨_,rfl⟩;have vo:=Mn x hx jq;refine nB (dJ []) [] (vs:=[_]) func76 rfl ntmps76 rfl (Lo w) ?_;refine cK 2 ?_;intro b1 w1 hb1 cN gV gb jJ;refine B 5 ?_;refine call call128 rfl rfl rfl (λW hS=>nOj _ _ _ W) ?_;refine bM 1 ?_;intro b3 eO fw;refine aF 7 (.slice x.oa x.olds.length x.oc) ?_;refine B 5 ?_;refine CJ.loop (α:=((Rw×List El)×ad)×Nat) (λp=>[(1,ptr b1 0),(3,ptr b3 0),(8,.slice x.oa x.olds.length x.oc),(9,ab (x.olds.length:Int)),(10,ab (p.2:Int))]) (λp=>[(b3,oC (dS (p.1.1.1.val p.1.1.2.length)) 200)]++(p.1.1.1.hp (jW 3) 200 p.1.1.2++[])) (λp=>[w1,w]) (λp=>dJ p.1.2) (λp=>p.2<=x.olds.length/\p.1.1.1.Fr (dJ p.1.2) [w1,w]/\p.1.1.1.Fit 4 p.1.1.2/\ja p.1.2 3 p.1.1.2 ((x.olds.take p.2).map xr)) (λp=>x.olds.length-p.2) (((.nil,[]),[]),0) ⟨cO _,True.intro,rfl,ja.nil⟩ zR rfl rfl zI ?_;rintro⟨⟨⟨r1,J⟩,F1⟩,j1⟩ ⟨hj,aK,ae,pM⟩;dsimp only at hj aK ae pM ⊢;have bK:r1.ge w1.heap.size:=Rw.ge_fz aK A0;have bz:J.length<=50:=by rw[pM.1,eK,kU];omega
 refine aG 6 ?_ ?_
 ·intro av;refine B 5 ?_;obtain⟨bo,oo,bL,to,fg,ez,fh,bX,aR⟩:=Hh.get aa;obtain⟨y,hy⟩:=ng x.olds j1 aa;rw[ez];have hq:=λ(k:Nat)=>Rw.mem_ge (enc:=jW 3) (t:=200) (xs:=J) (k:=k) bK;have rj:gH N w y.w.ba y.w.body:=hG.bb y (cu hy);have fh:ey y.f:=hx.bo y (cu hy);refine aF 2 (.agg (vK y)) ?_;refine bM 1 ?_;intro b5 tr tu;refine B 3 ?_;refine CJ.less (E':=[(1,_),(3,_),(5,_),(8,_),(9,_),(10,_),(11,_),(12,_),(13,_)]) zR ?_;refine CJ.chn 16 [13,14,15] [_,_,_,_,some (vT (qK (cM y.f))),_,_,_,_,_,_,_,some (vT (qK y.w.body)),none,none,none] (λcv L' H'=>let ew:ad:=[(b5,oC (vK y) 119),(b3,oC (dS (r1.val J.length)) 200)]++(r1.hp (jW 3) 200 J++[]);match cv with| []=>L'=[w1,w]/\H'=ew| [v1]=>∃(bn:Nat),v1= .slice (ao bn) 3 3/\L'=[w1,w]/\H'=(bn,oC (nM (xr y)++[]).toArray 200)::ew/\ah [w1,w] bn| [v1,v2]=>∃(bn:Nat),v1= .slice (ao bn) 3 3/\v2=vL (ao bn) 3 3/\L'=[w1,w]/\H'=(bn,oC (nM (xr y)++[]).toArray 200)::ew/\ah [w1,w] bn| [v1,v2,v3]=>∃(bn:Nat) (oE:Nat),v1= .slice (ao bn) 3 3/\v2=vL (ao bn) 3 3/\v3= .slice (ao oE) 1 1/\L'=[w1,w]/\H'=(oE,oC (dS (.slice (ao bn) 3 3)) 200)::(bn,oC (nM (xr y)++[]).toArray 200)::ew/\ah [w1,w] bn/\ah [w1,w] oE|_=>False) (pc Yi (pc xZ (pc (by exact λcv L' H' hd hP=>X.v (cX underlying119 rfl sizeOf33 rfl)) (pc zYb (pc xZ (pc (by exact λcv L' H' hd hP=>X.v (cX underlying119 rfl sizeOf108 rfl)) (pc z9b (pc xZ (pc (by exact λcv L' H' hd hP=>nf call130 rfl rfl (λW hS _=>WV _ W) (λ_=>rfl)) (pc (by exact λcv L' H' hd hP=>X.v (cX underlying119 rfl sizeOf108 rfl)) (pc z6b (pc xZ (pc xZ (pk (pk (pk (pn))))))))))))))))) ?_ ?_
  ·refine ss rfl ?_ ?_
   ·exact zGg
   refine ss rfl ?_ ?_
   ·intro cv L' H' hl hP F Q' hk;obtain⟨v1,rfl⟩:=jK hl;obtain⟨bn,rfl,rfl,rfl,hfn⟩:=hP;refine call call128 rfl rfl rfl (λW hS=>nOj (ao bn) 3 3 W) ?_;exact z5h
   exact zwg
  intro cv L' H' hl hP;obtain⟨v1,v2,v3,rfl⟩:=pB hl;obtain⟨bn,oE,rfl,rfl,rfl,rfl,rfl,hfn,sU⟩:=hP;refine jV (r:=r1) (xs:=J) (zs:=[((bn,3):El)]) (enc:=jW 3) (m:=4) (H0:=[(oE,oC (dS (.slice (ao bn) 3 3)) 200),(bn,oC (nM (xr y)++[]).toArray 200),(b5,oC (vK y) 119),(b3,oC (dS (r1.val J.length)) 200)]) (H1:=[]) rfl ZB (OW 3) rfl rfl rfl rfl (ck.one (z:=((bn,3):El)) (OW 3) (nth 3) underlying134 (bF.own (i:=0) rfl)) ae aK zI za ?_;intro br cr sr jX rV;refine B 1 ?_;refine kT (i:=3) rfl sizeOf134 rfl rfl rfl rfl (er rfl) rfl ?_;refine B 7 ?_;refine PJ.reH (H':=[(oE,oC (dS (.slice (ao bn) 3 3)) 200),(bn,oC (nM (xr y)++[]).toArray 200),(b5,oC (vK y) 119),(b3,oC (dS ((Rw.row br cr sr).val (J++[((bn,3):El)]).length)) 200)]++((br,bj (jW 3) 200 (J++[((bn,3):El)]) sr)::[])) rfl ?_;refine Wj ?_;refine PJ.fz [(bn,oC (nM (xr y)++[]).toArray 200)] (H':=[(b5,oC (vK y) 119),(b3,oC (dS ((Rw.row br cr sr).val (J++[((bn,3):El)]).length)) 200)]++((br,bj (jW 3) 200 (J++[((bn,3):El)]) sr)::[])) (List.Perm.refl _) zdc ?_;refine qD ?_;refine ag (((Rw.row br cr sr,(J++[((bn,3):El)])),(bn,oC (nM (xr y)++[]).toArray 200)::F1),j1+1) ⟨by dsimp only;omega,jX.elim (λh=>Rw.Fr_at aK h) (λh=>.inr h),rV,by dsimp only;rw[nng xr hy];exact pM.snoc (λp hp=>.tail _ hp) rfl rfl (aj _) A0⟩
 intro av;refine B 6 ?_;have FA:x.olds.take j1=x.olds:=iC aa;rw[FA]at pM;have iL:=ae;refine CJ.fz (r1.hp (jW 3) 200 J) (H':=[(b3,oC (dS (r1.val J.length)) 200)]) ZD (Rw.fz_above aK) ?_;refine eA 16 (pb:=by exact zU 2 (k:=by exact aM (nf call130 rfl rfl (λW hS _=>WV _ W) (λ_=>rfl)) (zU 2 (k:=by exact aM (nf call130 rfl rfl (λW hS _=>WV _ W) (λ_=>rfl)) (zU 2 (k:=by exact aM (nf call130 rfl rfl (λW hS _=>WV _ W) (λ_=>rfl)) (zU 2 (k:=by exact aM (nf call130 rfl rfl (λW hS _=>WV _ W) (λ_=>rfl)) (zU 1 (k:=by exact aM (X.v (gd underlying33 sizeOf5 rfl rfl aa)) (aM (nf call129 rfl rfl (λW hS _=>by have h1:=hS.old A0 hb1 cN zy;have h2:=JE (cM x.f) W.heap.size (some ⟨b1,4,none⟩) 32 W (aj _) (.inr ⟨b1,4,rfl,(bB.1 h1).1,cC.dgo h1 rfl (er rfl) hx.bf⟩);rw[nS]at h2;exact h2) (λ_=>rfl)) zT))))))))))) (sp:=[_,some (ab x.folder),_,_,some (ab x.by_),_,_,some (ab x.device),_,_,some (ab x.pub),_,_,_,some (vT (qK (cM x.f))),some (.agg (dS (r1.val J.length)))]) (k:=?_);refine zve ?_;refine yV ?_;intro a6 b0 ay a8 bA cy cT;refine ny (α:=Nat) (v:=λb:Nat=>.slice (ao b) 32 32) (Φ:=λ(W:World) (b:Nat) (w1:World)=>W.heap.size<=b/\w1.heap[b]? =some (oC (dg df) 33)) call131 rfl rfl rfl (λW hS=>?_) ?_
 ·have hF:∀p∈(r1.hp (jW 3) 200 J++F1),p.1<W.heap.size/\W.heap[p.1]? =some p.2:=λp hp=>⟨(bB.1 (hS.fzAt p hp)).1,hS.fzAt p hp⟩;have v1:=ja.vat (t:=200) (pM.up (λp hp=>aY.2 (.inr hp))) hF (λp hp=>aY.2 (.inl hp)) iL;have sA:=hS.old A0 ay a8 zy;rw[<-lD];exact nyk hZ (⟨#[103,114,97,110,116,32,115,105,103,110]⟩:ByteArray) zz (xt x) vo.1 vo.2.1 vo.2.2 W.heap.size a6 6 W (aj _) (n5l (xt x) (aj 6) sA (bB.1 sA).1 (tN (er rfl) (Jp _ _ _) (tN (er rfl) (Jp _ _ _) (tN (er rfl) (Jp _ _ _) (tN (er rfl) (Jp _ _ _) (tN (er rfl) (Wb _ _ _) (tN (er rfl) v1 (nNl)))))))) (hg.old hS A2 zF zD)
 rintro Wm bm wm wU KY ⟨Tp,o9⟩;refine B 4 ?_;refine bS (.inl rfl) results76 bD λW hS=>⟨bm,rfl,(hS.links w A3).below (λk hk hx=>by rcases hx with hx|hx;(exact hx);simp at hx;try omega),eB (wU.links w A2).size Tp,by rw[lD];exact hS.old A0 o9 zH (by have h3:=wU.lt (b3,_) A0;dsimp only at h3;simp only[bN,and_true];omega)⟩
theorem nWp(hZ:FxOk Z)(x:Ir)(hx:ku x)(jq:x.body.length<=65552)(N:Nat)(w:World)(hN:N<=w.heap.size)(rj:gH N w x.ba x.body)(hg:Glb w):Calls prog 77 #[.agg (Bq x)] w (dc w (λb:Nat=>.slice (ao b) 32 32) (λb w1=>w.heap.size<=b/\w1.heap[b]? =some (oC (dg (CM Z x)) 33))):=by
 have bh:=hg.lt;obtain⟨df,lD⟩:∃df,CM Z x=df:=⟨_,rfl⟩;have J:=Mo x hx jq;refine eN func77 ntmps77 ?_;refine cK 2 ?_;intro b1 w1 hb1 cN gV gb jJ;refine B 4 ?_;refine eA 11 (pb:=by exact zU 1 (k:=by exact aM (X.v (gd underlying33 sizeOf5 rfl rfl aa)) (aM (nf call129 rfl rfl (λW hS _=>by have h1:=hS.old A0 hb1 cN trivial;have h2:=JE (cM x.f) W.heap.size (ao b1) 32 W (aj _) (.inr ⟨b1,0,rfl,(bB.1 h1).1,cC.dgo h1 rfl (er rfl) hx.bf⟩);rw[nS]at h2;exact h2) (λ_=>rfl)) (zU 1 (k:=by exact aM (X.v (gd underlying33 sizeOf5 rfl rfl aa)) (aM (nf call129 rfl rfl (λW hS _=>by have h1:=hS.old A0 hb1 cN trivial;have h2:=JE (cM x.g) W.heap.size (some ⟨b1,32,none⟩) 32 W (aj _) (.inr ⟨b1,32,rfl,(bB.1 h1).1,cC.dgo h1 rfl (er rfl) hx.bg⟩);rw[nS]at h2;exact h2) (λ_=>rfl)) (zU 2 (k:=by exact aM (nf call130 rfl rfl (λW hS _=>WV _ W) (λ_=>rfl)) zT)))))))) (sp:=[_,_,some (vT (qK (cM x.f))),_,_,some (vT (qK (cM x.g))),_,some (ab x.by_),_,_,some (.slice x.ba x.body.length x.bc)]) (k:=?_);refine call call129 rfl rfl rfl (λW hS=>JE x.body N x.ba x.bc W cR (gH.up rj (aj _) hS.sm)) (v:=vT (qK x.body)) ?_;refine zve ?_;refine yV ?_;intro dU ay Tq Tr az Fu Ln;refine ny (α:=Nat) (v:=λb:Nat=>.slice (ao b) 32 32) (Φ:=λ(W:World) (b:Nat) (w1:World)=>W.heap.size<=b/\w1.heap[b]? =some (oC (dg df) 33)) call131 rfl rfl rfl (λW hS=>?_) ?_
 ·skip
  have sA:=hS.old A0 Tq Tr trivial;rw[<-lD];exact nyk hZ (⟨#[105,110,104,101,114,105,116,32,115,105,103,110]⟩:ByteArray) zz (JF x) J.1 J.2.1 J.2.2 W.heap.size dU 4 W (aj _) (n5l (JF x) (aj 4) sA (bB.1 sA).1 (tN (er rfl) (Wb _ _ _) (tN (er rfl) (Wb _ _ _) (tN (er rfl) (Jp _ _ _) (tN (er rfl) (Wb _ _ _) (nNl)))))) (hg.old hS A2 zF zD)
 rintro Wm bm wm wU KY ⟨Tp,o9⟩;refine B 4 ?_;refine bS (.inl rfl) results77 bD λW hS=>⟨bm,rfl,(hS.links w A3).below (λk hk hx=>by rcases hx with hx|hx;(exact hx);simp at hx;try omega),eB (wU.links w A2).size Tp,by rw[lD];exact hS.old A0 o9 zH trivial⟩
def JG (x:Gr):List Dk:=x.olds.map λo=>dk o.f
theorem nFi(x:Gr){o:Ol}(h:x.olds[j]? =some o):(x.olds.take (j+1)).map (λo=>dk o.f)=(x.olds.take j).map (λo=>dk o.f)++[dk o.f]:=by rw[np h];simp
def WW (l:List Dk):List (Dk×Bool):=l.foldl (λs k=>gf s k true) []
theorem nMl(l:List Dk)(x:Dk):WW (l++[x])=gf (WW l) x true:=by unfold WW;rw[Ji];rfl
def Hj (l:List Dk):Bool:=decide (0<l.length)&&decide (l.length<=4096)&&decide ((WW l).length=l.length)
theorem nRe(x:Gr)(al:x.olds.length<=6)(N:Nat)(w:World)(hN:N<=w.heap.size)(hG:sy N w x):Calls prog 73 #[.agg (tW x)] w (aD w cZ 32 33 (JG x) id):=by
 refine eN func73 ntmps73 ?_;refine cK 2 ?_;intro b1 w1 hb1 cN gV gb jJ;refine aF 7 (.slice x.oa x.olds.length x.oc) ?_;refine B 5 ?_;refine CJ.loop (α:=Rw×Nat) (λp=>[(1,ptr b1 0),(2,p.1.val ((x.olds.take p.2).map (λo=>dk o.f)).length),(6,.slice x.oa x.olds.length x.oc),(7,ab (x.olds.length:Int)),(8,ab (p.2:Int))]) (λp=>p.1.hp cZ 33 ((x.olds.take p.2).map (λo=>dk o.f))++[]) (λp=>[w1,w]) (λp=>Gh.no) (λp=>p.2<=x.olds.length/\p.1.Fr Gh.no [w1,w]/\p.1.Fit 32 ((x.olds.take p.2).map (λo=>dk o.f))) (λp=>x.olds.length-p.2) (.nil,0) ⟨cO _,True.intro,rfl⟩ zR rfl rfl zI ?_;rintro⟨r,j⟩ ⟨hj,aK,ae⟩;dsimp only at hj aK ae ⊢;have bK:r.ge w1.heap.size:=Rw.ge_of aK A0;refine aG 6 ?_ ?_
 ·intro av;refine B 5 ?_;have Hh:=hG.ol;obtain⟨bo,oo,an,to,fg,ez,fh,bX,aR⟩:=Hh.get aa;obtain⟨o,ho⟩:=ng x.olds j aa;rw[ez];refine aF 2 (.agg (vK o)) ?_;refine bM 1 ?_;intro b4 iW iX;refine aF 6 (.agg (dg o.f)) ?_;refine z2d ?_;refine yW ?_;intro dU Fu Ln;refine jV (r:=r) (xs:=((x.olds.take j).map (λo=>dk o.f))) (zs:=[(dk o.f)]) (enc:=cZ) (m:=32) (H0:=[(dU,oC (dg o.f) 33),(b4,oC (vK o) 119)]) (H1:=[]) zW ndj yj rfl rfl rfl rfl (ck.one (z:=dk o.f) yj WG underlying72 (bF.own (i:=0) rfl)) ae aK zI (by simp only[eK,kU,dI,fJ];omega) ?_;intro V9 RY RZ J zx;replace J:=yb J;refine zd ?_;refine PJ.again (Rw.row V9 RY RZ,j+1) ⟨by dsimp only;omega,J.elim (λh=>Rw.Fr_at aK h) (λh=>.inr h),by rw[nFi x ho];exact zx⟩ zS ⟨rfl,by rw[nFi x ho];rfl,rfl,rfl,rfl,trivial⟩ (by rw[nFi x ho];rfl) rfl zI
 intro av;refine B 6 ?_;have cH:(x.olds.take j).map (λo=>dk o.f)=JG x:=by rw[iC aa];rfl
 rw[cH]at ae ⊢;refine B 6 ?_;exact nQ (H0:=[]) (H1:=[]) (r:=r) (.inl rfl) results73 bD A1 (by rw[ec];exact Rw.over (Rw.ge_mono bK aa)) rfl ae (Rw.ge_mono bK aa) zI
theorem nBf(l:List Dk)(hl:l.length<=1000000)(N:Nat)(a:Option Addr)(c:Nat)(w:World)(hN:N<=w.heap.size)(aI:ai vz 32 N w a l):Calls prog 72 #[.slice a l.length c] w (aU w (.bool (Hj l))):=by
 refine ei 7 func72 ntmps72 ?_;refine LI vy Value.bool rfl rfl ?_;intro b6 ky rh;replace ky:=yb ky;try simp only[bN,and_true,ne_eq]at rh
 refine B 12 ?_;refine CJ.lp (α:=Mq×Nat) [0,3,7,8] (λp=>[(9,ab (p.2:Int))]) (λp=>[(b6,p.1.obj vy Value.bool (WW (l.take p.2)))]) (λp=>p.2<=l.length/\p.1.Ok (WW (l.take p.2))) (λp=>l.length-p.2) (Mq.mk [] 0,0) ⟨cO _,Mq.nil⟩ ?_;rintro⟨m,j⟩ ⟨hj,hm⟩;dsimp only at hj hm ⊢;refine aG 6 ?_ ?_
 ·intro av;refine B 5 ?_;obtain⟨bl,ol,an,tl,J,rfl,jq,tR,mK⟩:=aI.get aa;obtain⟨x,hx⟩:=ng l j aa;obtain⟨f,rfl⟩:∃f,dk f=x:=⟨_,DA x⟩;refine aF 2 (.agg (dg f)) ?_;refine bM 1 ?_;intro b5 tr tu;refine B 6 ?_;refine nYi (i:=1) (k:=dk f) (v:=true) rfl hm underlying223 Gb rfl rfl rfl rfl ?_;intro m2 bY;refine xW ?_;refine PJ.again (m2,j+1) ⟨by dsimp only;omega,by dsimp only;rw[np hx,nMl];exact bY⟩ zS zR (by dsimp only;rw[np hx,nMl];rfl) rfl zI
 intro av;refine B 6 ?_;have cH:l.take j=l:=iC aa;rw[cH]at hm ⊢;refine B 5 ?_;refine ni (t:=19) rfl (λaS=>?_) (λaS=>?_)
 ·replace aS:=ya aS;refine B 5 ?_;refine ni (t:=24) rfl (λdh=>?_) (λdh=>?_)
  ·replace dh:=ya dh;refine B 1 ?_;refine rv rfl rfl rfl (Bs underlying223 hm (bF.own (i:=0) rfl) rfl) ?_;refine B 8 ?_;exact z1g
  replace dh:=ya dh;refine B 10 ?_;exact z1g
 replace aS:=ya aS;refine B 15 ?_;exact z1g
theorem n9l(o:Ol)(w:World):Calls prog 70 #[.agg (vK o)] w (aU w (.bool (!decide (zq o.w=0)))):=by
 refine eN func70 ntmps70 ?_;refine cK 2 ?_;intro b1 w1 hb1 cN J gb jJ;refine aF 6 (.agg (wrA o.w)) ?_;refine call call71 rfl rfl rfl (λW hS=>nEe o.w W) ?_;refine B 5 ?_;refine aL results70 rfl A1 ?_;rfl
section
variable (p:Ol->Bool)(f:Nat)(cap:List Value)(aB:eV prog f)(xs:List Ol)(hxl:xs.length<=1000000)(N:Nat)(a:Option Addr)(cp:Nat)(w:World)(hN:N<=w.heap.size)(aI:ai vK 34 N w a xs)(hp:∀(j:Nat) (x:Ol),xs[j]? =some x->∀W,Below w.heap.size w W->Calls prog f (.agg (vK x)::cap).toArray W (aU W (.bool (p x))))
include aB xs hxl N cp hN aI hp
theorem nxm:Calls prog 122 #[.slice a xs.length cp,.func (.func f) #[] cap.toArray] w (dc w (λi:Int=>ab i) (λi _=>fE p xs i)):=by
 refine eN func122 ntmps122 ?_;refine VS ?_;rintro j ⟨hj,dR⟩;refine aG 6 ?_ ?_
 ·intro av;refine B 11 ?_;obtain⟨bo,oo,J,to,fg,rfl,fh,bX,aR⟩:=aI.get aa;obtain⟨x,hx⟩:=ng xs j aa;refine aF 5 (.agg (vK x)) ?_;refine VT ?_;refine uf ?_ ?_
  ·intro aS;refine B 12 ?_;refine sM (j:Int) results122 rfl A0 rfl ?_;exact VU
  exact VV
 intro av;refine B 11 ?_;refine sM (-1:Int) results122 rfl A0 rfl ?_;exact VW
theorem nrf:Calls prog 74 #[.slice a xs.length cp,.func (.func f) #[] cap.toArray] w (aU w (.bool (xs.any p))):=by
 refine ei 9 func74 ntmps74 ?_;refine ny (α:=Int) (v:=λi:Int=>ab i) (Φ:=λ_ i _=>fE p xs i) call122 rfl rfl rfl (λW hS=>nxm p f cap aB xs hxl N a cp W cR (aI.up (aj _) hS.sm) (λj x hx W2 hB=>hp j x hx W2 (((hS.links w A0).below KR).trans (hB.mono (hS.links w A0).size)))) ?_;intro Wi i wi J Fj hi;refine B 5 ?_;refine aL results74 rfl A1 ?_;exact vb hi.any
end
section
variable {C:Cx} {G:Gh} {L:List World} {H:ad} {E:Env} {x y:Operand}
theorem Hk{T U tp:Nat}{v:Value}{ms:Array (String×TypeId)}(hU:C.P.underlying T=some (.interface ms))(hx:ev E x=some (.iface tp v))(hy:ev E y=some .nilIface):RV C G L H E (.binOp .neq T x y U) (cD):=λd ty pos aE g a W hF _=>by
 have h:∀d:Nat,(Op.equalIn (d+1) T (.iface tp v) .nilIface).run C.P W= .ok false W:=λd=>by simp[Op.equalIn,run_underlying hU]
 have h2:(binOp .neq T (.iface tp v) .nilIface).run C.P W= .ok (cD) W:=by simp only[binOp];simp[Op.equal,Op.maxDepth,h 9999]
 have h1:(eqGuard .neq T x y (.iface tp v) .nilIface).run C.P W= .ok () W:=by simp[eqGuard]
 simp only[execOp,hF.ev hx,hF.ev hy,Sem.run_bind,h1,h2,Result.andThen];rfl
theorem Ts{T U:Nat}{ms:Array (String×TypeId)}(hU:C.P.underlying T=some (.interface ms))(hx:ev E x=some .nilIface)(hy:ev E (.const .nilIface)=some .nilIface):RV C G L H E (.binOp .neq T x (.const .nilIface) U) (bH):=λd ty pos aE g a W hF _=>by
 have h:∀d:Nat,(Op.equalIn (d+1) T .nilIface .nilIface).run C.P W= .ok true W:=λd=>by simp[Op.equalIn,run_underlying hU]
 have h2:(binOp .neq T .nilIface .nilIface).run C.P W= .ok (bH) W:=by simp only[binOp];simp[Op.equal,Op.maxDepth,h 9999]
 have h1:(eqGuard .neq T x (.const .nilIface) .nilIface .nilIface).run C.P W= .ok () W:=by simp[eqGuard]
 simp only[execOp,hF.ev hx,hF.ev hy,Sem.run_bind,h1,h2,Result.andThen];rfl
end
theorem Tt{f:Nat}{us:Array Value}{v:Value}(h:Calls prog f us w λe w'=>e= .returned v/\w'=w):Calls prog f us w (aU w v):=h.mono λ_ _ h=>⟨h.1,h.2▸Below.refl _ _⟩
noncomputable def wF (Z:Fx) (g:Gp) (x:Gr):Int:=
 if qT g [x.by_,x.device]=1 then 1
 else if qT g [x.by_,x.device]≠0\/x.folder≠g.folder\/iD x.f g.last=false\/x.pub≠((yr g x.device).getD (0,0)).2\/Hj (JG x)=false\/x.olds.any (λo=> !decide (zq o.w=0))=true then 260
 else if pD Z ((yr g x.by_).getD (0,0)).1 (cM (CL Z x)) x.sr x.ss=true then 0 else 222
noncomputable def Bt (Z:Fx) (g:Gp) (x:Ir):Int:=
 if qT g [x.by_]=1 then 1
 else if qT g [x.by_]≠0\/iD x.g g.last=false\/x.body.length≠48 then 260
 else if pD Z ((yr g x.by_).getD (0,0)).1 (cM (CM Z x)) x.sr x.ss=true then 0 else 222
theorem Tu{b:Int}(h:qT g [a,b]=0):∃m1 m2,yr g a=some m1/\yr g b=some m2/\Hg g [a,b]=[m1,m2]:=by
 have h2:=h;unfold qT at h2;split at h2
 ·cases h2
 split at h2
 ·rename_i ha;simp only[List.all_cons,List.all_nil,Bool.and_true,mT,Option.isSome_iff_exists]at ha;obtain⟨⟨m1,h3⟩,m2,h4⟩:=ha;exact⟨m1,m2,h3,h4,by unfold Hg DH;rw[if_pos h];simp[h3,h4]⟩
 cases h2
theorem Tv(h:qT g [a]=0):∃m1,yr g a=some m1/\Hg g [a]=[m1]:=by
 have h2:=h;unfold qT at h2;split at h2
 ·cases h2
 split at h2
 ·rename_i ha;simp only[List.all_cons,List.all_nil,Bool.and_true,Option.isSome_iff_exists]at ha;obtain⟨m1,h3⟩:=ha;exact⟨m1,h3,by unfold Hg DH;rw[if_pos h];simp[h3]⟩
 cases h2
theorem Pn(g:Gp)(l:List Int):qT g l=1\/qT g l=2\/qT g l=0:=by unfold qT;split;(simp);split<;>simp
theorem noo{b:Nat}{fr:Nat×Nat}{xs:List Int}{cs:Array Value}(h:W.heap[b]? =some (.cells cs t fr))(he:cs=(xs.map ab).toArray):ai encI 1 W.heap.size W (ao b) xs:=by subst he;exact Fy h
theorem Sen.old{a0 a1:Addr}(h:Sen w a0 a1)(hS:St Gh.no L [] W)(hw:w∈L):Sen W a0 a1:=by
 obtain⟨⟨t,fr,h1⟩,⟨t',Dd,h2⟩,⟨c,t2,h3⟩,⟨J,t3,h4⟩,h5⟩:=h;exact⟨⟨t,fr,hS.old hw h1 zH trivial⟩,⟨t',Dd,hS.old hw h2 zH trivial⟩,⟨c,t2,hS.old hw h3 zH trivial⟩,⟨J,t3,hS.old hw h4 zH trivial⟩,h5⟩
theorem nyl(hZ:FxOk Z)(G:Gv)(x:Gr)(hx:pU x)(N:Nat)(w:World)(hN:N<=w.heap.size)(hG:cj N w G)(hA:sy N w x)(hg:Glb w)(a0 a1:Addr)(hse:Sen w a0 a1):Calls prog 39 #[.agg (bJ G),.agg (tW x)] w (aU w (ab (wF Z G.g x))):=by
 have a6:=hg.lt;obtain⟨ay,bw,hg0⟩:=hse.g0;refine eN func39 ntmps39 ?_;refine cK 2 ?_;intro b2 w2 dz bY ft dL dH;refine yX ?_;intro b3 w3 dE da gi eO fw;refine Zi ?_;refine aF 1 (ab x.by_) ?_;refine aF 1 (ab x.device) ?_;refine Ja ?_;refine yV ?_;intro eJ bx al J br a8 az;refine nH (enc:=Br) (m:=2) (t:=180) (xs:=Hg G.g [x.by_,x.device]) (v:=λs=>.tuple #[s,erV a0 a1 (qT G.g [x.by_,x.device])]) (first:=[]) (cap:=[]) rfl call68 rfl rfl rfl nVh (λW hS=>?_) ?_
 ·have sA:=hS.old A0 al J trivial;exact nGo G W.heap.size W (aj _) (hG.up cR hS.sm) [x.by_,x.device] zI (ao eJ) 2 (noo sA rfl) a0 a1 (hse.old hS A3)
 intro W9 a9 Fp Jm cF xX jP kA;refine B 9 ?_;rcases Pn G.g [x.by_,x.device]with hE|hE|hE
 ·rw[hE];refine B 2 ?_;refine zif ?_;refine aL results39 rfl A4 ?_;exact congrArg ab (Eq.symm (by unfold wF;rw[if_pos hE]))
 ·rw[hE];refine z1f ?_;refine B 12 ?_;refine CJ.dj zN ?_;refine fA 0 27 (pb:=by exact zU 1 (k:=by exact aM (X.v (Hk underlying173 rfl rfl)) zT)) (k:=?_);refine zHf ?_;refine fA 32 35 (k:=?_);refine zBf ?_;refine zff ?_;exact congrArg ab (Eq.symm (by unfold wF;rw[if_neg aa,if_pos (.inl aa)]))
 rw[hE];obtain⟨m1,m2,Tw,aba,an⟩:=Tu hE;rw[an]at jP ⊢;obtain⟨bo,oo,bu,to,fg,rfl,fh,bX,aR⟩:=jP.get zI;refine zUf ?_;refine B 12 ?_;by_cases k1:x.folder≠G.g.folder
 ·refine CJ.dj zN ?_;refine fA 0 27 (pb:=by exact zU 7 (k:=by exact aM (X.v (RV.re (v':=cD) (dB rfl rfl) (vb DI))) zT)) (sp:=(_::_::_::_::(some (ab x.folder))::_::(some (ab G.g.folder))::_)) (k:=?_);refine zHf ?_;refine fA 32 35 (k:=?_);refine zBf ?_;refine zff ?_;exact congrArg ab (Eq.symm (by unfold wF;rw[if_neg aa,if_pos (.inr (.inl k1))]))
 by_cases k2:iD x.f G.g.last=false
 ·refine CJ.dj zN ?_;refine fA 0 27 (pb:=by exact zU 7 (k:=by exact aM (X.v (RV.re (v':=bH) (dB rfl rfl) (vb DI))) (zU 6 (k:=by exact aM (X.v (RV.re (v':=cD) (dV nO zz nF rfl rfl rfl) (congrArg (λb=>Value.bool (!b)) k2))) zT)))) (sp:=[_,_,_,_,some (ab x.folder),_,some (ab G.g.folder),_,_,_,_,some (.agg (dg x.f)),_,some (.agg (dg G.g.last)),_,_,_,_,_,_,_,_,_,_,_,_,_]) (k:=?_);refine zHf ?_;refine fA 32 35 (k:=?_);refine zBf ?_;refine zff ?_;exact congrArg ab (Eq.symm (by unfold wF;rw[if_neg aa,if_pos (.inr (.inr (.inl k2)))]))
 by_cases k3:x.pub≠m2.2
 ·refine CJ.dj zN ?_;refine fA 0 27 (pb:=by exact zU 7 (k:=by exact aM (X.v (RV.re (v':=bH) (dB rfl rfl) (vb DI))) (zU 6 (k:=by exact aM (X.v (RV.re (v':=bH) (dV nO zz nF rfl rfl rfl) (congrArg (λb=>Value.bool (!b)) (by simpa using k2)))) (zU 5 (k:=by exact aM (X.v (bC underlying171 sizeOf180 rfl rfl zI zI)) (zU 1 (k:=by exact aM (X.v (ar (v:=ab m2.2) isAgg3 rfl A0 bX zH trivial zJc)) (aM (X.v (RV.re (v':=cD) (dB rfl rfl) (vb DI))) zT))))))))) (sp:=[_,_,_,_,some (ab x.folder),_,some (ab G.g.folder),_,_,_,_,some (.agg (dg x.f)),_,some (.agg (dg G.g.last)),_,_,_,_,some (ab x.pub),_,_,_,_,_,_,_,_]) (k:=?_);refine zHf ?_;refine fA 32 35 (k:=?_);refine zBf ?_;refine zff ?_;exact congrArg ab (Eq.symm (by unfold wF;rw[if_neg aa,if_pos (.inr (.inr (.inr (.inl (by rw[aba];exact k3)))))]))
 by_cases k4:Hj (JG x)=false
 ·refine CJ.dj zN ?_;refine fA 0 27 (pb:=by exact zU 7 (k:=by exact aM (X.v (RV.re (v':=bH) (dB rfl rfl) (vb DI))) (zU 6 (k:=by exact aM (X.v (RV.re (v':=bH) (dV nO zz nF rfl rfl rfl) (congrArg (λb=>Value.bool (!b)) (by simpa using k2)))) (zU 5 (k:=by exact aM (X.v (bC underlying171 sizeOf180 rfl rfl zI zI)) (zU 1 (k:=by exact aM (X.v (ar (v:=ab m2.2) isAgg3 rfl A0 bX zH trivial zJc)) (aM (X.v (RV.re (v':=bH) (dB rfl rfl) (vb DI))) zT))))))))) (sp:=[_,_,_,_,some (ab x.folder),_,some (ab G.g.folder),_,_,_,_,some (.agg (dg x.f)),_,some (.agg (dg G.g.last)),_,_,_,_,some (ab x.pub),_,_,_,_,_,_,_,some (.agg (tW x))]) (k:=?_);refine zqd ?_;intro W7 a7 Dm wk7 CN Po ko ou;refine B 1 ?_;refine PJ.dj ?_;refine DJ.one (n:=28) rfl zN ?_;refine call (v:=.bool false) call72 rfl rfl rfl (λW hS=>by have h9:=nBf (JG x) (by have:=hx.few;unfold JG;rw[eK];omega) W.heap.size a7 Dm W (aj _) (ko.up (hS.links wk7 A0).size (hS.same A0 (aj _) zF trivial));rw[k4]at h9;exact h9) ?_;refine B 1 ?_;refine z7e ?_;refine fA 32 35 (k:=?_);refine zBf ?_;refine DJ.done ?_;refine B 9 ?_;refine aL results39 rfl A5 ?_;exact congrArg ab (Eq.symm (by unfold wF;rw[if_neg aa,if_pos (.inr (.inr (.inr (.inr (.inl k4)))))]))
 by_cases k5:x.olds.any (λo=> !decide (zq o.w=0))=true
 ·refine CJ.dj zN ?_;refine fA 0 27 (pb:=by exact zU 7 (k:=by exact aM (X.v (RV.re (v':=bH) (dB rfl rfl) (vb DI))) (zU 6 (k:=by exact aM (X.v (RV.re (v':=bH) (dV nO zz nF rfl rfl rfl) (congrArg (λb=>Value.bool (!b)) (by simpa using k2)))) (zU 5 (k:=by exact aM (X.v (bC underlying171 sizeOf180 rfl rfl zI zI)) (zU 1 (k:=by exact aM (X.v (ar (v:=ab m2.2) isAgg3 rfl A0 bX zH trivial zJc)) (aM (X.v (RV.re (v':=bH) (dB rfl rfl) (vb DI))) zT))))))))) (sp:=[_,_,_,_,some (ab x.folder),_,some (ab G.g.folder),_,_,_,_,some (.agg (dg x.f)),_,some (.agg (dg G.g.last)),_,_,_,_,some (ab x.pub),_,_,_,_,_,_,_,some (.agg (tW x))]) (k:=?_);refine zqd ?_;intro W7 a7 Dm wk7 CN Po ko ou;refine B 1 ?_;refine zyd ?_;refine B 1 ?_;refine z7e ?_;refine fA 32 35 (sp:=[_,some (.slice x.oa x.olds.length x.oc),_]) (k:=?_);refine DJ.one (n:=35) rfl zN ?_;refine call (v:=.bool true) call74 rfl rfl rfl (λW hS=>by have h9:=nrf (λo=> !decide (zq o.w=0)) 70 [] call70 x.olds (by have:=hx.few;omega) N x.oa x.oc W cR (hA.ol.up (aj _) hS.sm) (λj y hy W2 hB=>n9l y W2);rw[k5]at h9;exact h9) ?_;refine z5f ?_;refine B 9 ?_;refine aL results39 rfl A5 ?_;exact congrArg ab (Eq.symm (by unfold wF;rw[if_neg aa,if_pos (.inr (.inr (.inr (.inr (.inr k5)))))]))
 refine CJ.dj zN ?_;refine fA 0 27 (pb:=by exact zU 7 (k:=by exact aM (X.v (RV.re (v':=bH) (dB rfl rfl) (vb DI))) (zU 6 (k:=by exact aM (X.v (RV.re (v':=bH) (dV nO zz nF rfl rfl rfl) (congrArg (λb=>Value.bool (!b)) (by simpa using k2)))) (zU 5 (k:=by exact aM (X.v (bC underlying171 sizeOf180 rfl rfl zI zI)) (zU 1 (k:=by exact aM (X.v (ar (v:=ab m2.2) isAgg3 rfl A0 bX zH trivial zJc)) (aM (X.v (RV.re (v':=bH) (dB rfl rfl) (vb DI))) zT))))))))) (sp:=[_,_,_,_,some (ab x.folder),_,some (ab G.g.folder),_,_,_,_,some (.agg (dg x.f)),_,some (.agg (dg G.g.last)),_,_,_,_,some (ab x.pub),_,_,_,_,_,_,_,some (.agg (tW x))]) (k:=?_);refine zqd ?_;intro W7 a7 Dm wk7 CN Po ko ou;refine B 1 ?_;refine zyd ?_;refine B 1 ?_;refine z7e ?_;refine fA 32 35 (sp:=[_,some (.slice x.oa x.olds.length x.oc),_]) (k:=?_);refine DJ.one (n:=35) rfl zN ?_;refine call (v:=.bool false) call74 rfl rfl rfl (λW hS=>by have h9:=nrf (λo=> !decide (zq o.w=0)) 70 [] call70 x.olds (by have:=hx.few;omega) N x.oa x.oc W cR (hA.ol.up (aj _) hS.sm) (λj y hy W2 hB=>n9l y W2);rw[show x.olds.any (λo=> !decide (zq o.w=0))=false by simpa using k5]at h9;exact h9) ?_;refine z5f ?_;refine B 6 ?_;have jq:∀o∈x.olds,o.w.body.length<=65552:=λo ho=>by
  have h8:x.olds.any (λo=> !decide (zq o.w=0))=false:=by simpa using k5
  have h9:=List.any_eq_false.1 h8 o ho;exact(nw.1 (by simpa using h9)).2.2
 refine eS 8 5 [] (pb:=by exact zU 1 (k:=by exact aM (X.v (bC underlying171 sizeOf180 rfl rfl zI zI)) (zU 1 (k:=by exact aM (X.v (ar (v:=ab m1.1) isAgg3 rfl A1 bX zH trivial (by have:=uA (enc:=λx:Mm=>(Br x).toArray) (n:=2) aR (i:=0) (show[m1,m2][0]? =some m1 from rfl) rfl 0 zz;simpa[Br]using this))) zT)))) (sp:=[_,_,_,_,some (.agg (tW x)),_,_,some (.agg #[ab x.sr,ab x.ss])]) (h:=?_);intro _ _ hk;refine ny (α:=Nat) (v:=λb=>.slice (ao b) 32 32) (Φ:=λW b w1=>W.heap.size<=b/\w1.heap[b]? =some (oC (dg (CL Z x)) 33)) call76 rfl rfl rfl (λW hS=>nMo hZ x hx jq N W cR (hA.up (aj _) hS.sm) (hg.old hS A5 zF trivial)) ?_;rintro Wm bm wm wU KY ⟨Ql,o9⟩;refine zE ?_;refine call (v:=.bool (pD Z m1.1 (cM (CL Z x)) x.sr x.ss)) call75 rfl rfl rfl (λW hS=>by have h9:=n1c hZ m1.1 x.sr x.ss (cM (CL Z x)) bm 0 32 (by rw[nS];decide) W (cC.dg (hS.old A0 o9 zH trivial) (hZ.byt _ _)) (hg.old hS A6 zF trivial);rw[nS]at h9;exact h9) ?_;refine aG 3 ?_ ?_
 ·intro av;refine B 7 ?_;refine aL results39 rfl A6 ?_;exact congrArg ab (Eq.symm zQb)
 intro av;refine B 8 ?_;refine aL results39 rfl A6 ?_;exact congrArg ab (Eq.symm zQb)
theorem nvk(hZ:FxOk Z)(G:Gv)(x:Ir)(hx:ku x)(N:Nat)(w:World)(hN:N<=w.heap.size)(hG:cj N w G)(rj:gH N w x.ba x.body)(hg:Glb w)(a0 a1:Addr)(hse:Sen w a0 a1):Calls prog 40 #[.agg (bJ G),.agg (Bq x)] w (aU w (ab (Bt Z G.g x))):=by
 have aq:=hg.lt;obtain⟨an,a6,hg0⟩:=hse.g0;refine eN func40 ntmps40 ?_;refine cK 2 ?_;intro b2 w2 dz bY ft dL dH;refine yX ?_;intro b3 w3 dE da gi eO fw;refine Zi ?_;refine aF 1 (ab x.by_) ?_;refine Ja ?_;refine yV ?_;intro gD X4 Kc Kd X5 uY yQ;refine nH (enc:=Br) (m:=2) (t:=180) (xs:=Hg G.g [x.by_]) (v:=λs=>.tuple #[s,erV a0 a1 (qT G.g [x.by_])]) (first:=[]) (cap:=[]) rfl call68 rfl rfl rfl nVh (λW hS=>?_) ?_
 ·have sA:=hS.old A0 Kc Kd trivial;exact nGo G W.heap.size W (aj _) (hG.up cR hS.sm) [x.by_] zI (ao gD) 1 (noo sA rfl) a0 a1 (hse.old hS A3)
 intro W9 a9 Fp Jm cF xX jP kA;refine B 9 ?_;rcases Pn G.g [x.by_]with hE|hE|hE
 ·rw[hE];refine B 2 ?_;refine zif ?_;refine aL results40 rfl A4 ?_;exact congrArg ab (Eq.symm (by unfold Bt;rw[if_pos hE]))
 ·rw[hE];refine z1f ?_;refine B 9 ?_;refine rv rfl rfl rfl (Hk underlying173 rfl rfl) ?_;refine B 23 ?_;refine aL results40 rfl A4 ?_;exact congrArg ab (Eq.symm (by unfold Bt;rw[if_neg aa,if_pos (.inl aa)]))
 rw[hE];obtain⟨m1,Tw,J⟩:=Tv hE;rw[J]at jP ⊢;obtain⟨bo,oo,az,to,fg,rfl,fh,bX,aR⟩:=jP.get zI;refine zUf ?_;refine B 7 ?_;by_cases k2:iD x.g G.g.last=false
 ·refine aF 5 (.agg (dg x.g)) ?_;refine aF 1 (.agg (dg G.g.last)) ?_;refine rq cD (dV nO zz nF rfl rfl rfl) (congrArg (λb=>Value.bool (!b)) k2) ?_;refine B 17 ?_;refine aL results40 rfl A4 ?_;exact congrArg ab (Eq.symm (by unfold Bt;rw[if_neg aa,if_pos (.inr (.inl k2))]))
 by_cases k3:x.body.length≠48
 ·refine zRf ?_;refine rq cD (dB rfl rfl) (vb DI) ?_;refine B 11 ?_;refine aL results40 rfl A4 ?_;exact congrArg ab (Eq.symm (by unfold Bt;rw[if_neg aa,if_pos (.inr (.inr k3))]))
 refine zRf ?_;refine rq bH (dB rfl rfl) (vb DI) ?_;refine B 8 ?_;refine eS 8 5 [] (pb:=by exact zU 1 (k:=by exact aM (X.v (bC underlying171 sizeOf180 rfl rfl zI zI)) (zU 1 (k:=by exact aM (X.v (ar (v:=ab m1.1) isAgg3 rfl A0 bX zH trivial (by have:=uA (enc:=λx:Mm=>(Br x).toArray) (n:=2) aR (i:=0) (show[m1][0]? =some m1 from rfl) rfl 0 zz;simpa[Br]using this))) zT)))) (sp:=[_,_,_,_,some (.agg (Bq x)),_,_,some (.agg #[ab x.sr,ab x.ss])]) (h:=?_);intro _ _ hk;refine ny (α:=Nat) (v:=λb=>.slice (ao b) 32 32) (Φ:=λW b w1=>W.heap.size<=b/\w1.heap[b]? =some (oC (dg (CM Z x)) 33)) call77 rfl rfl rfl (λW hS=>nWp hZ x hx (by have h9:=Classical.not_not.1 k3;omega) N W cR (rj.up (aj _) hS.sm) (hg.old hS A4 zF trivial)) ?_;rintro Wm bm wm wU KY ⟨Ql,o9⟩;refine zE ?_;refine call (v:=.bool (pD Z m1.1 (cM (CM Z x)) x.sr x.ss)) call75 rfl rfl rfl (λW hS=>by have h9:=n1c hZ m1.1 x.sr x.ss (cM (CM Z x)) bm 0 32 (by rw[nS];decide) W (cC.dg (hS.old A0 o9 zH trivial) (hZ.byt _ _)) (hg.old hS A5 zF trivial);rw[nS]at h9;exact h9) ?_;refine aG 3 ?_ ?_
 ·intro av;refine B 7 ?_;refine aL results40 rfl A5 ?_;exact congrArg ab (Eq.symm zmc)
 intro av;refine B 8 ?_;refine aL results40 rfl A5 ?_;exact congrArg ab (Eq.symm zmc)
theorem Sen.oldG{a0 a1:Addr}{G:Gh}{H:ad}(h:Sen w a0 a1)(hS:St G L H W)(hw:w∈L)(hX:∀k,k<w.heap.size->¬G.X k)(hO:Over w.heap.size H):Sen W a0 a1:=by
 have J:=hS.same hw (aj _) hX hO;have key:∀{b:Nat} {o:Obj},w.heap[b]? =some o->W.heap[b]? =some o:=λ{b o} hb=>(J b (bB.1 hb).1).trans hb;obtain⟨⟨t,fr,h1⟩,⟨t',Dd,h2⟩,⟨c,t2,h3⟩,⟨c',t3,h4⟩,h5⟩:=h;exact⟨⟨t,fr,key h1⟩,⟨t',Dd,key h2⟩,⟨c,t2,key h3⟩,⟨c',t3,key h4⟩,h5⟩
def fnA (ps:List Ap) (f:Nat->Int):Option Ap:=ps.find? λp=>iD p.2.2.2.last f
theorem Hl(pls:List Pl)(f:Nat->Int):fnA (pls.map aW) f=(gL pls f).map aW:=by
 unfold fnA gL;rw[List.find?_map];rfl
noncomputable def CP (ps:List Ap) (pub:Int) (o:Ol):List (List Se×Se):=if(fnA ps o.f).isSome=true then[([aN pub],aP (dk o.f))]else[]
noncomputable def xu (Z:Fx) (ps:List Ap) (x:Gr):List (List Se×Se):=match fnA ps x.f with|some p=>if wF Z p.2.2.2 x=0 then x.olds.flatMap (CP ps x.pub)else[]|none=>[]
noncomputable def Ar (Z:Fx) (ps:List Ap) (x:Ir):List (List Se×Se):=match fnA ps x.g with|some p=>if Bt Z p.2.2.2 x=0 then[([aP (dk x.f)],aP (dk x.g))]else[]|none=>[]
noncomputable def ml (Z:Fx) (cs:List Cm) (fos:List Fo) (gs:List Gr) (xs:List Ir):List (List Se×Se):=
 (eR Z cs fos).flatMap gK++gs.flatMap (xu Z (eR Z cs fos))++xs.flatMap (Ar Z (eR Z cs fos))
theorem Tx{x:Gr}(h:gL pls x.f=none):xu Z (pls.map aW) x=[]:=by unfold xu;rw[Hl,h];rfl
theorem npo{x:Gr}(h:gL pls x.f=some p)(hc:wF Z p.x.g x≠0):xu Z (pls.map aW) x=[]:=by unfold xu;rw[Hl,h];exact if_neg hc
theorem Ty{x:Gr}(h:gL pls x.f=some p)(hc:wF Z p.x.g x=0):xu Z (pls.map aW) x=x.olds.flatMap (CP (pls.map aW) x.pub):=by unfold xu;rw[Hl,h];exact if_pos hc
theorem Tz{x:Ir}(h:gL pls x.g=none):Ar Z (pls.map aW) x=[]:=by unfold Ar;rw[Hl,h];rfl
theorem Mr{x:Ir}(h:gL pls x.g=some p)(hc:Bt Z p.x.g x≠0):Ar Z (pls.map aW) x=[]:=by unfold Ar;rw[Hl,h];exact if_neg hc
theorem TA{x:Ir}(h:gL pls x.g=some p)(hc:Bt Z p.x.g x=0):Ar Z (pls.map aW) x=[([aP (dk x.f)],aP (dk x.g))]:=by unfold Ar;rw[Hl,h];exact if_pos hc
theorem Ms{pub:Int}{o:Ol}(h:(gL pls o.f).isSome=true):CP (pls.map aW) pub o=[([aN pub],aP (dk o.f))]:=by unfold CP;rw[Hl,Option.isSome_map,if_pos h]
theorem TB{pub:Int}{o:Ol}(h:(gL pls o.f).isSome=false):CP (pls.map aW) pub o=[]:=by unfold CP;rw[Hl,Option.isSome_map,h];rfl
theorem nQm{ds:List Dv}{s to:Se}{b c:Nat}(h:∀d∈ds,yq F d):∀d∈ds++[(⟨[s],to,some ⟨b,0,none⟩,c⟩:Dv)],yq ((b,oC (seA s) t)::F) d:=by
 intro d hd;rcases aY.1 hd with hd|hd
 ·exact(h d hd).mono λq hq=>.tail _ hq
 rw[fC.1 hd];refine⟨by simp,.inr ⟨b,0,_,_,_,rfl,.head _,λi hi=>?_⟩⟩;have h0:i=0:=by simp only[dI,fJ]at hi;omega
 subst h0;exact⟨aj _,rfl⟩
theorem TC(hZ:FxOk Z)(cs:List Cm)(bX:cs.length<=1000)(dG:∀c∈cs,bO c)(N:Nat)(la:Option Addr)(lc:Nat)(w:World)(hN:N<=w.heap.size)(aI:ai cP 73 N w la cs)(hC:∀c∈cs,dC N w c)(fa:Option Addr)(fos:List Fo)(fc:Nat)(kC:fos.length<=10)(mB:cs.length<=10)(qS:ai qQ 33 N w fa fos)(ga:Option Addr)(gs:List Gr)(gc:Nat)(Qx:gs.length<=10)(cT:ai tW 39 N w ga gs)(Mt:∀g∈gs,pU g)(bw:∀g∈gs,sy N w g)(ia:Option Addr)(xs:List Ir)(ic:Nat)(lQ:xs.length<=10)(cr:ai Bq 68 N w ia xs)(dL:∀x∈xs,ku x)(xv:∀x∈xs,gH N w x.ba x.body)(o1 o5 o6 o7:Value)(hg:Glb w)(a0 a1:Addr)(hse:Sen w a0 a1):Calls prog 47 #[.agg #[.slice fa fos.length fc,o1,.slice la cs.length lc,.slice ga gs.length gc,.slice ia xs.length ic,o5,o6,o7]] w (λe w'=>∃(ds:List Dv) (r:Rw) (F':ad),e= .returned (r.val ds.length)/\Below w.heap.size w w'/\r.ge w.heap.size/\r.Fit 36 ds/\r.At iG 142 ds w'/\(∀p∈F',w.heap.size<=p.1/\w'.heap[p.1]? =some p.2/\¬r.isAt p.1)/\ds.map ig=ml Z cs fos gs xs/\(∀d∈ds,yq F' d)/\ds.length<=21000):=by
 have gB:=hg.lt;refine nB (dJ []) [] (vs:=[_]) func47 rfl ntmps47 rfl (Lo w) ?_;refine cK 2 ?_;intro b1 w1 hb1 cN gV gb jJ;refine B 5 ?_;refine zIe ?_;refine Pe (γ:=(Option Addr×Nat)×List Pl) (v:=λq=>.slice q.1.1 q.2.length q.1.2) (Φ:=λF' q=>q.2.map aW=eR Z cs fos/\(∀p∈q.2,DD F' p/\p.c∈cs)/\q.2.length<=100/\iN (λx=>(An x).toArray) 111 F' q.1.1 q.2) call30 rfl rfl rfl (λW hS=>nei hZ cs bX dG N la lc W cR (aI.up (aj _) hS.sm) (λc hc=>(hC c hc).up (aj _) hS.sm) fa fos fc kC mB (qS.up (aj _) hS.sm) o1 _ _ o5 o6 o7 (hg.old hS A1 zF trivial)) ?_;rintro⟨⟨pa,yt⟩,pls⟩ F1 ⟨lU,DK,gq,yu⟩ wB;dsimp only at lU DK gq yu ⊢;have yu:iN kV 111 F1 pa pls:=yu;obtain⟨F0,WO⟩:∃F0,F1++[]=F0:=⟨_,rfl⟩;rw[WO];have yu:iN kV 111 F0 pa pls:=yu.mono (λq hq=>WO▸aY.2 (.inl hq));have DK:∀p∈pls,DD F0 p/\p.c∈cs:=λp hp=>⟨(DK p hp).1.mono (λq hq=>WO▸aY.2 (.inl hq)),(DK p hp).2⟩;have dp:∀q∈F0,w.heap.size<=q.1:=λq hq=>by rw[<-WO,ec]at hq;exact(wB q hq).mem w A1
 refine bM 1 ?_;intro b3 eO fw;refine B 18 ?_;refine CJ.loop (α:=((Rw×List Dv)×ad)×Nat) (λp9=>[(1,ptr b1 0),(2,p9.1.1.1.val p9.1.1.2.length),(4,.func (.func 92) #[] #[ptr b3 0]),(22,.slice pa pls.length yt),(23,ab (pls.length:Int)),(24,ab (p9.2:Int))]) (λp9=>[(b3,oC #[.slice pa pls.length yt] 89)]++(p9.1.1.1.hp iG 142 p9.1.1.2++[])) (λp9=>[w1,w]) (λp9=>dJ p9.1.2) (λp9=>p9.2<=pls.length/\p9.1.1.1.Fr (dJ p9.1.2) [w1,w]/\p9.1.1.1.Fit 36 p9.1.1.2/\p9.1.1.2.map ig=(pls.take p9.2).flatMap (λp=>gK (aW p))/\(∀d∈p9.1.1.2,yq p9.1.2 d)/\p9.1.1.2.length<=p9.2*200/\(∀q∈p9.1.2,w.heap.size<=q.1)/\∀q∈F0,q∈p9.1.2) (λp9=>pls.length-p9.2) (((.nil,[]),F0),0) ⟨cO _,True.intro,rfl,rfl,by simp,aj _,dp,λq hq=>hq⟩ zR rfl rfl zI ?_;rintro⟨⟨⟨r,ds⟩,F⟩,i⟩ ⟨hi,aK,ae,aX,iS,uP,dD,je⟩;dsimp only at hi aK ae aX iS uP dD je ⊢;have bK:r.ge w1.heap.size:=Rw.ge_fz aK A0;refine aG 6 ?_ ?_
 ·intro av;refine B 5 ?_;obtain⟨bp,op,Za,tp,Zb,WX,AM,WY⟩:=(yu.mono je).get aa;obtain⟨p,hp⟩:=ng pls i aa;refine B 1 ?_;refine zMd ?_;refine bM 1 ?_;intro b6 ky rh;refine aF 5 (.agg (kV p)) ?_;refine QC (α:=Nat) (v:=λb:Nat=>.func (.func 166) #[] #[ptr b 0]) (bo:=λb=>(b,oC (kV p) 92)) (Φ:=λ_=>True) call96 rfl rfl rfl (λW hS=>(nHj p W).mono (λe w1 h=>?_)) ?_
  ·obtain⟨b,h1,h2,h3,h4⟩:=h;exact⟨b,h1,h2,h3,trivial,h4⟩
  intro bd a6 a8 _;dsimp only at a6 a8 ⊢;replace a6:=yb a6;refine nJn (H0:=[(bd,oC (kV p) 92),(b6,oC (kV p) 92),(b3,oC #[.slice pa pls.length yt] 89)]) (H1:=[]) (r:=r) (xs:=ds) (enc:=iG) (m:=36) (t:=142) (γ:=List Dv) (ys:=λz=>ds++z) (v:=λz r'=>r'.val (ds++z).length) (Φ:=λF' z=>z.map ig=gK (aW p)/\z.length<=200/\∀d∈z,yq F' d) (first:=[]) (cap:=[]) rfl aK rfl call95 rfl rfl rfl (λW hS=>?_) ?_
  ·have fF:r.At iG 142 ds W:=by
    cases r with
    |nil=>trivial
    |row b c sp=>exact hS.own (b,_) o8
   have JX:=hS.own (bd,_) A0;have eJ:=(hS.links w A1).size;have Hm:=DK p (cu hp);have wj:=(hC p.c Hm.2).up (aj _) (hS.same A1 hN zF zC);have b0:∀q∈F,q.1<W.heap.size/\W.heap[q.1]? =some q.2:=hS.fzLies;have SQ:=(Hm.1.ns.mono je).at b0;have sR:∀k,k∈F.map (·.1)->¬r.isAt k:=λk hk hr=>by
    have h8:=Rw.mem_at (enc:=iG) (t:=142) (xs:=ds) hr;obtain⟨q,hq,rfl⟩:=bU.1 h8;exact hS.apart q (by simp[hq]) hk
   have I5:∀k,k<N->k<W.heap.size/\¬r.isAt k:=λk hk=>⟨by omega,λhr=>by have:=Rw.ge_at bK hr;omega⟩;have TD:∀{α:Type} {enc:α->Array Value} {n:Nat} {a:Option Addr} {ys:List α} {k:Nat},ai enc n N W a ys->(ys≠ []/\∃off,a=some ⟨k,off,none⟩)->k<W.heap.size/\¬r.isAt k:=λ{α enc n a ys k} h hk=>by
    obtain⟨h1,off,h2⟩:=hk;rcases h with h|⟨b,off',eH,t',Dd,e1,e2,_⟩
    ·exact absurd h h1
    rw[h2]at e1;cases e1;exact I5 _ e2
   refine(nBm (a:=aW p) (f:=166) (cap:=[ptr bd 0]) (RO:=S1 bd p) call166 r ds W ae aa fF (λk hk=>?_) (λW2 hB=>?_)).mono ?_
   ·rcases hk with rfl|⟨h1,off,h2⟩|hk|hk|hk
    ·exact⟨(bB.1 JX).1,λhr=>by
      have h8:=Rw.mem_at (enc:=iG) (t:=142) (xs:=ds) hr;simp only[bN,iy,iv,eY,ec]at a8;exact(bN.mem a8.2.2) h8⟩
    ·rcases Hm.1.ns.mono je with h|⟨b,off',eH,t',Dd,e1,e2,_⟩
     ·exact absurd h h1
     rw[h2]at e1;cases e1;exact⟨(b0 _ e2).1,sR _ (bU.2 ⟨_,e2,rfl⟩)⟩
    ·exact TD wj.bxs hk
    ·exact TD wj.path hk
    exact TD wj.wes hk
   ·have up:∀{α:Type} {enc:α->Array Value} {n:Nat} {a:Option Addr} {ys:List α},ai enc n N W a ys->ai enc n W.heap.size W2 a ys:=λh=>h.up aa (λk hk=>hB.block k aa);exact(Mh p bd W.heap.size W2 hB.size (by rw[hB.block bd (bB.1 JX).1];exact JX) (SQ.up (aj _) (λk hk=>hB.block k hk)) Hm.1.nn (up wj.bxs) (up wj.path) (up wj.wes) (dG p.c Hm.2).few).fin λys Z v h=>⟨h.1,λd hd=>(h.2 d hd).low hB.size⟩
   rintro e w' ⟨z,r',rfl,hk,jx,bQ,cz,hz,Ce⟩;obtain⟨F',h1,h2⟩:=Ha z Ce;exact⟨z,r',F',rfl,hk,jx,bQ,cz,λq hq=>⟨(h1 q hq).1,(h1 q hq).2.1,(h1 q hq).2.2⟩,hz.1,hz.2,h2⟩
  rintro z r' F' ⟨gV,ft,gi⟩ c3 c6 wD;refine zd ?_;refine ag (((r',ds++z),F'++F),i+1) ⟨by dsimp only;omega,c6,c3,by dsimp only;rw[DF hp,gN,aX,gV],λd hd=>(aY.1 hd).elim (λh=>(iS d h).mono (λq hq=>aY.2 (.inr hq))) (λh=>(gi d h).mono (λq hq=>aY.2 (.inl hq))),by dsimp only;rw[cB];omega,λq hq=>(aY.1 hq).elim (λh=>(wD q h).mem w A1) (dD q),λq hq=>aY.2 (.inr (je q hq))⟩
 intro av;refine aF 9 (.slice ga gs.length gc) ?_;refine B 5 ?_;have dn:i=pls.length:=by omega
 rw[dn,ur]at aX;refine CJ.loop (α:=((Rw×List Dv)×ad)×Nat) (λp9=>[(1,ptr b1 0),(2,p9.1.1.1.val p9.1.1.2.length),(4,.func (.func 92) #[] #[ptr b3 0]),(34,.slice ga gs.length gc),(35,ab (gs.length:Int)),(36,ab (p9.2:Int))]) (λp9=>[(b3,oC #[.slice pa pls.length yt] 89)]++(p9.1.1.1.hp iG 142 p9.1.1.2++[])) (λp9=>[w1,w]) (λp9=>dJ p9.1.2) (λp9=>p9.2<=gs.length/\p9.1.1.1.Fr (dJ p9.1.2) [w1,w]/\p9.1.1.1.Fit 36 p9.1.1.2/\p9.1.1.2.map ig=pls.flatMap (λp=>gK (aW p))++(gs.take p9.2).flatMap (xu Z (pls.map aW))/\(∀d∈p9.1.1.2,yq p9.1.2 d)/\p9.1.1.2.length<=20000+p9.2*6/\(∀q∈p9.1.2,w.heap.size<=q.1)/\∀q∈F0,q∈p9.1.2) (λp9=>gs.length-p9.2) (((r,ds),F),0) ⟨cO _,aK,ae,by dsimp only;rw[aX];simp,iS,by dsimp only;omega,dD,je⟩ zR rfl rfl zI ?_;rintro⟨⟨⟨r,ds⟩,F⟩,i⟩ ⟨hi,aK,ae,aX,iS,uP,dD,je⟩;dsimp only at hi aK ae aX iS uP dD je ⊢;have bK:r.ge w1.heap.size:=Rw.ge_fz aK A0;refine aG 6 ?_ ?_
 ·intro aS;refine B 5 ?_;obtain⟨bg,og,eD,tg,e0,rfl,CF,ff,kN⟩:=cT.get aa;obtain⟨g,hgi⟩:=ng gs i aa;have ql:=cu hgi;have Pp:=Mt g ql;have gp:=Pp.few;refine aF 2 (.agg (tW g)) ?_;refine bM 1 ?_;intro b8 C4 Jb;refine aF 7 (.agg (dg g.f)) ?_;refine C3 (f:=92) (cap:=[ptr b3 0]) (v:=fnV (gL pls g.f)) rfl call92 rfl rfl rfl (λW hS=>nVj pls aa g.f W.heap.size pa yt b3 W (aj _) (hS.own (b3,_) A1) ((yu.mono je).at hS.fzLies)) ?_;refine aF 1 (.agg (kV ((gL pls g.f).getD Bp))) ?_;refine du (.bool (gL pls g.f).isSome) ?_;refine bM 1 ?_;intro b9 xP uh;refine B 6 ?_;cases Mu:gL pls g.f with
  |none=>
   refine aF 2 cD ?_;refine B 18 ?_;refine uI ?_;refine ag (((r,ds),F),i+1) ⟨by dsimp only;omega,aK,ae,by dsimp only;rw[DF hgi,aX];rw[Tx Mu];simp,iS,by dsimp only;omega,dD,je⟩
  |some p=>
   have Hm:=DK p (WZ Mu);refine Dh ?_;refine aF 2 (.agg (bJ p.x)) ?_;refine du (.agg (tW g)) ?_;refine call (v:=ab (wF Z p.x.g g)) call39 rfl rfl rfl (λW hS=>nyl hZ p.x g (Pp) W.heap.size W (aj _) ((Hm.1.x.mono je).lies hS.fzLies) ((bw g ql).up (by have:=(hS.links w A1).size;omega) (hS.same A1 hN zF zC)) (hg.old hS A1 zF zC) a0 a1 (hse.oldG hS A1 zF zC)) ?_;refine aG 4 ?_ ?_
   ·intro dh;refine zd ?_;exact zYg
   intro dh;refine B 3 ?_;have kD:wF Z p.x.g g=0:=by first|assumption|simp_all
   refine aF 2 (.slice g.oa g.olds.length g.oc) ?_;refine B 5 ?_;refine CJ.loop (α:=((Rw×List Dv)×ad)×Nat) (λJ=>[(1,ptr b1 0),(2,J.1.1.1.val J.1.1.2.length),(4,.func (.func 92) #[] #[ptr b3 0]),(8,ptr b8 0),(34,.slice (some ⟨bg,og,none⟩) gs.length gc),(35,ab (gs.length:Int)),(36,ab (i:Int)),(57,.slice g.oa g.olds.length g.oc),(58,ab (g.olds.length:Int)),(59,ab (J.2:Int))]) (λJ=>[(b9,oC (kV p) 92),(b8,oC (tW g) 87),(b3,oC #[.slice pa pls.length yt] 89)]++(J.1.1.1.hp iG 142 J.1.1.2++[])) (λJ=>[w1,w]) (λJ=>dJ J.1.2) (λJ=>J.2<=g.olds.length/\J.1.1.1.Fr (dJ J.1.2) [w1,w]/\J.1.1.1.Fit 36 J.1.1.2/\J.1.1.2.map ig=pls.flatMap (λp=>gK (aW p))++(gs.take i).flatMap (xu Z (pls.map aW))++(g.olds.take J.2).flatMap (CP (pls.map aW) g.pub)/\(∀d∈J.1.1.2,yq J.1.2 d)/\J.1.1.2.length<=20000+i*6+J.2/\(∀q∈J.1.2,w.heap.size<=q.1)/\∀q∈F0,q∈J.1.2) (λJ=>g.olds.length-J.2) (((r,ds),F),0) ⟨cO _,aK,ae,by dsimp only;rw[aX];simp,iS,by dsimp only;omega,dD,je⟩ zR rfl rfl zI ?_;rintro⟨⟨⟨r,ds⟩,F⟩,j⟩ ⟨hj,aK,ae,aX,iS,uP,dD,je⟩;dsimp only at hj aK ae aX iS uP dD je ⊢;have bK:r.ge w1.heap.size:=Rw.ge_fz aK A0;refine aG 6 ?_ ?_
   ·intro iR;refine B 5 ?_;obtain⟨bq,oq,Rn,tq,Ro,ez,pI,zg,qG⟩:=(bw g ql).ol.get aa;obtain⟨o,ho⟩:=ng g.olds j aa;rw[ez];refine aF 2 (.agg (vK o)) ?_;refine bM 1 ?_;intro iI E3 E4;refine aF 7 (.agg (dg o.f)) ?_;refine C3 (f:=92) (cap:=[ptr b3 0]) (v:=fnV (gL pls o.f)) rfl call92 rfl rfl rfl (λW hS=>nVj pls aa o.f W.heap.size pa yt b3 W (aj _) (hS.own (b3,_) A3) ((yu.mono je).at hS.fzLies)) ?_;refine aF 1 (.agg (kV ((gL pls o.f).getD Bp))) ?_;refine du (.bool (gL pls o.f).isSome) ?_;refine bM 1 ?_;intro Vr yT B1;refine aG 9 ?_ ?_
    ·intro gU;refine eS 10 4 [8,9] (pb:=by exact zU 3 (k:=by exact aM (nf call29 rfl rfl (λW hS _=>nPe _ W) (λ_=>rfl)) (zU 3 (k:=by exact aM (nf call97 rfl rfl (λW hS _=>nLc _ W) (λ_=>rfl)) zT)))) (sp:=[_,_,some (ab g.pub),_,_,_,some (.agg (dg o.f)),_,_,_]) (h:=?_);intro _ _ hk;refine DC ?_;intro bs qS iA;refine zG ?_;intro _ _ hk;refine du (.agg (vG (⟨[(aN g.pub)],(aP (dk o.f)),some ⟨bs,0,none⟩,1⟩:Dv))) ?_;refine zG ?_;intro _ _ hk;refine zue ?_;intro bo sU iA;refine zE ?_;refine jV (r:=r) (xs:=ds) (zs:=[(⟨[(aN g.pub)],(aP (dk o.f)),some ⟨bs,0,none⟩,1⟩:Dv)]) (enc:=iG) (m:=36) (H0:=[(bo,oC (vG (⟨[(aN g.pub)],(aP (dk o.f)),some ⟨bs,0,none⟩,1⟩:Dv)) 142),(bs,oC (seA (aN g.pub)) 35),(Vr,oC (kV ((gL pls o.f).getD Bp)) 92),(iI,oC (vK o) 119),(b9,oC (kV p) 92),(b8,oC (tW g) 87),(b3,oC #[.slice pa pls.length yt] 89)]) (H1:=[]) zW nEl GR rfl rfl rfl rfl (ck.one (z:=(⟨[(aN g.pub)],(aP (dk o.f)),some ⟨bs,0,none⟩,1⟩:Dv)) GR nAh underlying138 (bF.own (i:=0) rfl)) ae aK zI za ?_;intro bL db bZ TE TF;replace TE:=yb TE;refine B 8 ?_;refine Wj ?_;refine PJ.fz [(bs,oC (seA (aN g.pub)) 35)] (H':=[(Vr,oC (kV ((gL pls o.f).getD Bp)) 92),(iI,oC (vK o) 119),(b9,oC (kV p) 92),(b8,oC (tW g) 87),(b3,oC #[.slice pa pls.length yt] 89)]++((bL,bj iG 142 (ds++[(⟨[(aN g.pub)],(aP (dk o.f)),some ⟨bs,0,none⟩,1⟩:Dv)]) bZ)::[])) (List.Perm.refl _) (by intro p hp;simp at hp;subst hp;exact qS) ?_
     refine uI ?_;refine ag (((Rw.row bL db bZ,ds++[(⟨[(aN g.pub)],(aP (dk o.f)),some ⟨bs,0,none⟩,1⟩:Dv)]),(bs,oC (seA (aN g.pub)) 35)::F),j+1) ⟨by dsimp only;omega,TE.elim (λh=>Rw.Fr_at aK h) (λh=>.inr h),TF,by dsimp only;rw[gN,aX];rw[DF ho,Ms cY];simp[ig],by dsimp only;exact nQm iS,by dsimp only;simp only[cB,dI,fJ];omega,λq hq=>by rcases cd.1 hq with rfl|hq;(exact qS.mem w A1);exact dD q hq,λq hq=>.tail _ (je q hq)⟩
    intro gU;refine LC ?_;refine ag (((r,ds),F),j+1) ⟨by dsimp only;omega,aK,ae,by dsimp only;rw[DF ho,aX,TB cY];simp,iS,by dsimp only;omega,dD,je⟩
   intro iR;refine B 10 ?_;refine uI ?_;exact zYg
 intro aS;refine aF 9 (.slice ia xs.length ic) ?_;refine B 5 ?_;have qB:i=gs.length:=by omega
 rw[qB,ur]at aX;refine CJ.loop (α:=((Rw×List Dv)×ad)×Nat) (λp9=>[(2,p9.1.1.1.val p9.1.1.2.length),(4,.func (.func 92) #[] #[ptr b3 0]),(85,.slice ia xs.length ic),(86,ab (xs.length:Int)),(87,ab (p9.2:Int))]) (λp9=>[(b3,oC #[.slice pa pls.length yt] 89)]++(p9.1.1.1.hp iG 142 p9.1.1.2++[])) (λp9=>[w1,w]) (λp9=>dJ p9.1.2) (λp9=>p9.2<=xs.length/\p9.1.1.1.Fr (dJ p9.1.2) [w1,w]/\p9.1.1.1.Fit 36 p9.1.1.2/\p9.1.1.2.map ig=pls.flatMap (λp=>gK (aW p))++gs.flatMap (xu Z (pls.map aW))++(xs.take p9.2).flatMap (Ar Z (pls.map aW))/\(∀d∈p9.1.1.2,yq p9.1.2 d)/\p9.1.1.2.length<=20060+p9.2/\(∀q∈p9.1.2,w.heap.size<=q.1)/\∀q∈F0,q∈p9.1.2) (λp9=>xs.length-p9.2) (((r,ds),F),0) ⟨cO _,aK,ae,by dsimp only;rw[aX];simp,iS,by dsimp only;omega,dD,je⟩ zR rfl rfl zI ?_;rintro⟨⟨⟨r,ds⟩,F⟩,i⟩ ⟨hi,aK,ae,aX,iS,uP,dD,je⟩;dsimp only at hi aK ae aX iS uP dD je ⊢;have bK:r.ge w1.heap.size:=Rw.ge_fz aK A0;refine aG 6 ?_ ?_
 ·intro kY;refine B 5 ?_;obtain⟨bx,ox,e8,tx,fv,rfl,yk,e7,gO⟩:=cr.get aa;obtain⟨x,aq⟩:=ng xs i aa;have Q1:=cu aq;refine aF 2 (.agg (Bq x)) ?_;refine bM 1 ?_;intro V9 fe fQ;refine aF 7 (.agg (dg x.g)) ?_;refine C3 (f:=92) (cap:=[ptr b3 0]) (v:=fnV (gL pls x.g)) rfl call92 rfl rfl rfl (λW hS=>nVj pls aa x.g W.heap.size pa yt b3 W (aj _) (hS.own (b3,_) A1) ((yu.mono je).at hS.fzLies)) ?_;refine aF 1 (.agg (kV ((gL pls x.g).getD Bp))) ?_;refine du (.bool (gL pls x.g).isSome) ?_;refine bM 1 ?_;intro qv eP eX;refine B 5 ?_;cases Mu:gL pls x.g with
  |none=>
   refine Dh ?_;refine B 16 ?_;refine uI ?_;refine ag (((r,ds),F),i+1) ⟨by dsimp only;omega,aK,ae,by dsimp only;rw[DF aq,aX,Tz Mu];simp,iS,by dsimp only;omega,dD,je⟩
  |some p=>
   have Hm:=DK p (WZ Mu);refine aF 2 cD ?_;refine aF 1 (.agg (bJ p.x)) ?_;refine du (.agg (Bq x)) ?_;refine call (v:=ab (Bt Z p.x.g x)) call40 rfl rfl rfl (λW hS=>nvk hZ p.x x (dL x Q1) W.heap.size W (aj _) ((Hm.1.x.mono je).lies hS.fzLies) ((xv x Q1).up (by have:=(hS.links w A1).size;omega) (hS.same A1 hN zF zC)) (hg.old hS A1 zF zC) a0 a1 (hse.oldG hS A1 zF zC)) ?_;refine aG 4 ?_ ?_
   ·intro jU;refine eS 10 4 [8,9] (pb:=by exact zU 3 (k:=by exact aM (nf call97 rfl rfl (λW hS _=>nLc _ W) (λ_=>rfl)) (zU 3 (k:=by exact aM (nf call97 rfl rfl (λW hS _=>nLc _ W) (λ_=>rfl)) zT)))) (sp:=[_,_,some (.agg (dg x.f)),_,_,_,some (.agg (dg x.g)),_,_,_]) (h:=?_);intro _ _ hk;refine DC ?_;intro bs qS iA;refine zG ?_;intro _ _ hk;refine du (.agg (vG (⟨[(aP (dk x.f))],(aP (dk x.g)),some ⟨bs,0,none⟩,1⟩:Dv))) ?_;refine zG ?_;intro _ _ hk;refine zue ?_;intro bo sU iA;refine zE ?_;refine jV (r:=r) (xs:=ds) (zs:=[(⟨[(aP (dk x.f))],(aP (dk x.g)),some ⟨bs,0,none⟩,1⟩:Dv)]) (enc:=iG) (m:=36) (H0:=[(bo,oC (vG (⟨[(aP (dk x.f))],(aP (dk x.g)),some ⟨bs,0,none⟩,1⟩:Dv)) 142),(bs,oC (seA (aP (dk x.f))) 35),(qv,oC (kV p) 92),(V9,oC (Bq x) 121),(b3,oC #[.slice pa pls.length yt] 89)]) (H1:=[]) zW nEl GR rfl rfl rfl rfl (ck.one (z:=(⟨[(aP (dk x.f))],(aP (dk x.g)),some ⟨bs,0,none⟩,1⟩:Dv)) GR nAh underlying138 (bF.own (i:=0) rfl)) ae aK zI za ?_;intro bz dK Pq Ho Mv;replace Ho:=yb Ho;refine B 8 ?_;refine Wj ?_;refine PJ.fz [(bs,oC (seA (aP (dk x.f))) 35)] (H':=[(qv,oC (kV p) 92),(V9,oC (Bq x) 121),(b3,oC #[.slice pa pls.length yt] 89)]++((bz,bj iG 142 (ds++[(⟨[(aP (dk x.f))],(aP (dk x.g)),some ⟨bs,0,none⟩,1⟩:Dv)]) Pq)::[])) (List.Perm.refl _) (by intro p hp;simp at hp;subst hp;exact qS) ?_
    refine uI ?_;refine ag (((Rw.row bz dK Pq,ds++[(⟨[(aP (dk x.f))],(aP (dk x.g)),some ⟨bs,0,none⟩,1⟩:Dv)]),(bs,oC (seA (aP (dk x.f))) 35)::F),i+1) ⟨by dsimp only;omega,Ho.elim (λh=>Rw.Fr_at aK h) (λh=>.inr h),Mv,by dsimp only;rw[gN,aX];rw[DF aq,TA Mu zEc];simp[ig],by dsimp only;exact nQm iS,by dsimp only;simp only[cB,dI,fJ];omega,λq hq=>by rcases cd.1 hq with rfl|hq;(exact qS.mem w A1);exact dD q hq,λq hq=>.tail _ (je q hq)⟩
   intro jU;refine LC ?_;refine ag (((r,ds),F),i+1) ⟨by dsimp only;omega,aK,ae,by dsimp only;rw[DF aq,aX,Mr Mu zEc];simp,iS,by dsimp only;omega,dD,je⟩
 intro kY;refine B 12 ?_;have c4:i=xs.length:=by omega
 rw[c4,ur]at aX;refine bS (.inl rfl) results47 bD λW hS=>?_;refine⟨ds,r,F,rfl,(hS.links w A1).below (λk hk hx=>by rcases hx with hx|hx;(exact hx);simp only[gN,dP,fu,iv,eY,ec,cd]at hx;rcases hx with hx|hx;(omega);have:=Rw.mem_ge bK hx;omega),Rw.ge_mono bK aa,ae,?_,λp hp=>⟨dD p hp,(hS.fzLies p hp).2,λhr=>?_⟩,?_,iS,by omega⟩
 ·cases r with
  |nil=>trivial
  |row b c sp=>exact hS.own (b,_) o8
 ·have h8:=Rw.mem_at (enc:=iG) (t:=142) (xs:=ds) hr;obtain⟨q,hq,e⟩:=bU.1 h8;exact hS.apart q (by simp[hq]) (bU.2 ⟨p,hp,e.symm⟩)
 rw[aX];unfold ml;rw[<-lU,List.flatMap_map]
section
variable {C:Cx} {Q:bE} {E:Env} {D:List Deferred} {G:Gh} {L:List World} {H:ad} {ops:Array Oper} {l:List Oper}
variable {d ty f:Nat} {pos:String} {aE:Array Edge} {g:Option (Nat×Bool)} {fx:Operand} {xo:List Operand} {vs first cap:List Value} {eL:Array Nat}
theorem nkj{α:Type}{v:α->Value}{ob:α->Obj}{Φ:α->Prop}{i b:Nat}{o:Obj}(hi:H[i]? =some (b,o))(hx:ev E fx=some (.func (.func f) first.toArray cap.toArray))(aB:eV C.P f)(hw:nr ops E g=some true)(hN:Nat.blt d C.N=true)(ha:jy E xo=some vs)(hc:∀W,St G L H W->W.heap[b]? =some o->Calls C.P f (first++vs++cap).toArray W (λe w'=>∃z,e= .returned (v z)/\aT (· =b) W w'/\w'.heap[b]? =some (ob z)/\Φ z))(k:∀z,Φ z->OJ C ops Q l ((d,v z)::E) D G L (H.set i (b,ob z))):OJ C ops Q (⟨some d,.call ⟨.value fx,xo.toArray,eL⟩,ty,pos,aE,g⟩::l) E D G L H:=
 nK rfl hw hx ha zI aB λa W jz hD hF hS=>(hc W hS (hS.own _ (cu hi))).mono (by
  rintro e W' ⟨z,rfl,hk,hb,J⟩;exact k z J (a.put (some d) (v z)) W' z7 z5 (hF.put _ z6) (hS.put hi hk hb))
end
theorem Hp{b c:Nat}{o p:Obj}(h:w.heap[b]? =some o)(h2:w.heap[c]? =some p)(hne:b≠c):St (Gh.lent (λk=>k=b\/k=c)) [w] [(b,o),(c,p)] w where
 ghost:=trivial
 vlt:=λ_ h=>h.elim
 xlt:=λk hk=>by rcases hk with rfl|rfl;(exact(bB.1 h).1);exact(bB.1 h2).1
 links:=λw' hw=>by rw[fC.1 hw];exact aT.refl _ _
 own:=λq hq=>by
  simp only[cd,dZ,or_false]at hq;rcases hq with rfl|rfl
  ·exact h
  exact h2
 nodup:=W4 hne
 apart:=λ_ _ h=>h.elim
abbrev Kv:=List (Se×Bool)
def kB (kn:Kv) (s:Se):Bool:=(gQ kn s).getD false
def jf (kn:Kv) (d:Dv):Bool:=kB kn d.to|| !(d.fr.any λs=> !kB kn s)
def gS (kn gv:Kv) (d:Dv):Kv:=if kB kn d.to=true then gv else if(d.fr.any λs=> !kB kn s)=true then gv else gf gv d.to true
theorem abh{kn gv:Kv}{d:Dv}(h:kB kn d.to=true):true=jf kn d/\gv=gS kn gv d:=by unfold jf gS;rw[h];exact⟨rfl,(if_pos rfl).symm⟩
theorem abi{kn gv:Kv}{d:Dv}(h:kB kn d.to=false)(h2:(d.fr.any λs=> !kB kn s)=true):false=jf kn d/\gv=gS kn gv d:=by
 unfold jf gS;rw[h,h2];exact⟨rfl,rfl⟩
theorem abj{kn gv:Kv}{d:Dv}(h:kB kn d.to=false)(h2:(d.fr.any λs=> !kB kn s)=false):true=jf kn d/\gf gv d.to true=gS kn gv d:=by
 unfold jf gS;rw[h,h2];exact⟨rfl,rfl⟩
theorem TG(kn:Kv)(mk b5:Nat)(km:Mq)(CQ:km.Ok kn)(w:World)(Dg:w.heap[b5]? =some (oC #[.map (some mk)] 137))(J:w.heap[mk]? =some (km.obj cV Value.bool kn))(s:Se):Calls prog 51 #[cV s,ptr b5 0] w (aU w (.bool (!kB kn s))):=by
 have cN:¬Gh.no.X b5:=λh=>h;have hb1:=Dg;have my:=(bB.1 Dg).1;have Jk:=(bB.1 J).1;refine eN func51 ntmps51 ?_;refine cK 2 ?_;intro b2 w2 dz bY ft dL dH;refine B 5 ?_;refine rv rfl rfl rfl (ar (v:=.map (some mk)) isAgg137 rfl A1 Dg cN True.intro rfl) ?_;refine du (cV s) ?_;refine rq (.bool (kB kn s)) (rk (m:=km) (k:=s) underlying137 LZ zeroValue4 CQ (bF.old A1 J zH True.intro) rfl rfl) (nTh _) ?_;refine B 5 ?_;refine aL results51 rfl A1 ?_;rfl
theorem TH(kn:Kv)(mk b5:Nat)(km:Mq)(CQ:km.Ok kn)(fN J:Nat)(gm:Mq)(gv:Kv)(ql:gm.Ok gv)(d:Dv)(N:Nat)(w:World)(hN:N<=w.heap.size)(rM:∀b off,d.fa=some ⟨b,off,none⟩->b≠J)(Dg:w.heap[b5]? =some (oC #[.map (some mk)] 137))(al:w.heap[mk]? =some (km.obj cV Value.bool kn))(ay:w.heap[fN]? =some (oC #[.map (some J)] 137))(DL:w.heap[J]? =some (gm.obj cV Value.bool gv))(aI:ai seA 35 N w d.fa d.fr)(kC:d.fr.length<=1000)(n5:J≠b5)(nk:J≠mk)(n10:J≠fN):Calls prog 49 #[.agg (vG d),ptr b5 0,ptr fN 0] w (λe w'=>e= .returned (.bool (jf kn d))/\∃vM:Mq,vM.Ok (gS kn gv d)/\aT (· =J) w w'/\w'.heap[J]? =some (vM.obj cV Value.bool (gS kn gv d))):=by
 have vZ:=(bB.1 DL).1;refine nB (Gh.lent (· =J)) [(J,gm.obj cV Value.bool gv)] (vs:=[_,_,_]) func49 rfl ntmps49 rfl (Eo DL) ?_;refine cK 2 ?_;intro b3 w3 dE da gi eO fw;refine B 6 ?_;refine rv rfl rfl rfl (ar (v:=.map (some mk)) isAgg137 rfl A1 Dg (λh=>n5 h.symm) ⟨n5,trivial⟩ rfl) ?_;refine aF 1 (cV d.to) ?_;refine rq (.bool (kB kn d.to)) (rk (m:=km) (k:=d.to) underlying137 LZ zeroValue4 CQ (bF.old A1 al (λh=>nk h.symm) ⟨nk,trivial⟩) rfl rfl) (nTh _) ?_;refine aG 2 ?_ ?_
 ·intro av;refine B 7 ?_;have h9:=abh (gv:=gv) cY;exact zZg
 intro av;refine aF 6 (.slice d.fa d.fr.length d.fc) ?_;refine B 1 ?_;refine call (v:=.bool (d.fr.any λs=> !kB kn s)) call50 rfl rfl rfl (λW hS=>?_) ?_
 ·have u5:=hS.old A1 Dg (λh=>n5 h.symm) ⟨n5,trivial⟩;have uk:=hS.old A1 al (λh=>nk h.symm) ⟨nk,trivial⟩;exact nfj (λs=> !kB kn s) 51 [ptr b5 0] call51 d.fr aa W.heap.size d.fa d.fc W (aj _) (aI.toG hS A1 hN (λb off e=>.inr (λ_=>⟨λh=>rM b off e h,λh=>rM b off e h.symm,trivial⟩))) (λj x hx W2 hB=>TG kn mk b5 km CQ W2 (by rw[hB.block b5 (bB.1 u5).1];exact u5) (by rw[hB.block mk (bB.1 uk).1];exact uk) x)
 refine aG 2 ?_ ?_
 ·intro aS;refine B 7 ?_;have h9:=abi (gv:=gv) cY cY;exact zZg
 intro aS;refine B 4 ?_;refine rv rfl rfl rfl (ar (v:=.map (some J)) isAgg137 rfl A1 ay (λh=>n10 h.symm) ⟨n10,trivial⟩ rfl) ?_;refine aF 1 (cV d.to) ?_;refine nYi (i:=0) (k:=d.to) (v:=true) rfl ql underlying137 LZ rfl rfl rfl rfl ?_;intro m2 bY;refine B 8 ?_;have h9:=abj (gv:=gv) cY cY;refine bS (.inl rfl) results49 bD λW hS=>⟨by rw[<-h9.1];rfl,m2,by rw[<-h9.2];exact bY,(hS.links w A1).mono λk _ hk=>?_,by rw[<-h9.2];exact hS.own _ A0⟩;exact zfh
def kP (st:Kv->Dv->Kv) (gv:Kv) (xs:List Dv) (n:Nat):Kv:=(xs.take n).foldl st gv
variable {st:Kv->Dv->Kv}
theorem Pr{gv:Kv}{xs:List Dv}{x:Dv}(hx:xs[j]? =some x):kP st gv xs (j+1)=st (kP st gv xs j) x:=by unfold kP;rw[np hx,Ji];rfl
theorem nvg{gv:Kv}{xs:List Dv}{n:Nat}(h:xs.length<=n):kP st gv xs n=xs.foldl st gv:=by unfold kP;rw[iC h]
def Pst (f:Nat) (cap:List Value) (p:Dv->Bool) (st:Kv->Dv->Kv) (Z:Nat->Prop) (mg:Nat) (xs:List Dv) (w:World):Prop:=
 ∀(j:Nat) (x:Dv),xs[j]? =some x->∀(W:World) (gm:Mq) (gv:Kv),gm.Ok gv->aT Z w W->W.heap[mg]? =some (gm.obj cV Value.bool gv)->Calls prog f (.agg (vG x)::cap).toArray W (λe w'=>e= .returned (.bool (p x))/\∃vM:Mq,vM.Ok (st gv x)/\aT (· =mg) W w'/\w'.heap[mg]? =some (vM.obj cV Value.bool (st gv x)))
def IxS (p:Dv->Bool) (st:Kv->Dv->Kv) (gv:Kv) (xs:List Dv) (z:Int×Mq×Nat):Prop:=
 z.2.1.Ok (kP st gv xs z.2.2)/\((z.1= -1/\z.2.2=xs.length/\xs.any p=false)\/∃(j:Nat) (x:Dv),z.1=(j:Int)/\z.2.2=j+1/\xs[j]? =some x/\p x=true/\gE p xs j)
section
variable (p:Dv->Bool)(st:Kv->Dv->Kv)(f:Nat)(cap:List Value)(aB:eV prog f)(xs:List Dv)(hxl:xs.length<=100000)
include aB xs hxl
theorem nNg(N:Nat)(a:Option Addr)(c:Nat)(w:World)(hN:N<=w.heap.size)(aI:ai vG 36 N w a xs)(J:Nat)(rM:∀b off,a=some ⟨b,off,none⟩->b≠J)(gm:Mq)(gv:Kv)(ql:gm.Ok gv)(DL:w.heap[J]? =some (gm.obj cV Value.bool gv))(hp:Pst f cap p st (· =J) J xs w):Calls prog 98 #[.slice a xs.length c,.func (.func f) #[] cap.toArray] w (λe w'=>∃z:Int×Mq×Nat,e= .returned (ab z.1)/\aT (· =J) w w'/\w'.heap[J]? =some (z.2.1.obj cV Value.bool (kP st gv xs z.2.2))/\IxS p st gv xs z):=by
 refine nB (Gh.lent (· =J)) [(J,gm.obj cV Value.bool gv)] (vs:=[_,_]) func98 rfl ntmps98 rfl (Eo DL) ?_;refine B 14 ?_;refine CJ.lp (α:=Mq×Nat) [0,1,7] (λq=>[(8,ab (q.2:Int))]) (λq=>[(J,q.1.obj cV Value.bool (kP st gv xs q.2))]) (λq=>q.2<=xs.length/\q.1.Ok (kP st gv xs q.2)/\gE p xs q.2) (λq=>xs.length-q.2) (gm,0) ⟨cO _,ql,λi x hi=>absurd hi zS⟩ ?_;rintro⟨m1,j⟩ ⟨hj,cN,dR⟩;dsimp only at hj cN dR ⊢;refine aG 6 ?_ ?_
 ·intro av;refine B 11 ?_;obtain⟨bo,oo,an,to,fg,rfl,fh,bX,aR⟩:=aI.get aa;obtain⟨x,hx⟩:=ng xs j aa;refine B 5 ?_;refine rq (.agg (vG x)) (dt isAgg142 sizeOf142 rfl A0 bX (λh=>rM bo oo rfl h) ⟨λh=>rM bo oo rfl h.symm,trivial⟩ (de aR hx rfl)) (va (dY aR hx rfl)) ?_;refine nkj (i:=0) (b:=J) (f:=f) (first:=[]) (cap:=cap) (α:=Mq) (v:=λ_=>.bool (p x)) (ob:=λz=>z.obj cV Value.bool (st (kP st gv xs j) x)) (Φ:=λz=>z.Ok (st (kP st gv xs j) x)) rfl rfl aB rfl rfl rfl (λW hS hW=>(hp j x hx W m1 _ cN ((hS.links w A0).mono (λk _ hk=>by rcases hk with hk|hk;(exact hk);simpa using hk)) hW).mono ?_) ?_
  ·rintro e w' ⟨rfl,vM,h1,h2,h3⟩;exact⟨vM,rfl,h2,h3,h1⟩
  intro m2 bY;refine aG 2 ?_ ?_
  ·intro aS;refine B 12 ?_;refine bS (.inl rfl) results98 bD λW hS=>⟨((j:Int),m2,j+1),rfl,(hS.links w A0).mono λk _ hk=>?_,?_,?_,?_⟩
   ·exact zfh
   ·rw[Pr hx];exact hS.own _ A0
   ·dsimp only;rw[Pr hx];exact bY
   exact .inr ⟨j,x,rfl,rfl,hx,by assumption,dR⟩
  intro aS;refine B 7 ?_;refine PJ.again (m2,j+1) ⟨by dsimp only;omega,by dsimp only;rw[Pr hx];exact bY,dR.next hx AW⟩ zS zR (by dsimp only;rw[Pr hx];rfl) rfl zI
 intro av;refine B 11 ?_;refine bS (.inl rfl) results98 bD λW hS=>⟨(-1,m1,xs.length),rfl,(hS.links w A0).mono λk _ hk=>?_,?_,?_,?_⟩
 ·exact zfh
 ·rw[show xs.length=j by omega];exact hS.own _ A0
 ·dsimp only;rw[show xs.length=j by omega];exact cN
 exact .inl ⟨rfl,rfl,nAd dR aa⟩
theorem nUj(b cp:Nat)(sp:List Value)(w:World)(hb:w.heap[b]? =some (bj iG 142 xs sp))(bQ:(Rw.row b cp sp).Fit 36 xs)(J:Nat)(CF:b≠J)(gm:Mq)(gv:Kv)(ql:gm.Ok gv)(DL:w.heap[J]? =some (gm.obj cV Value.bool gv))(hp:Pst f cap p st (λk=>k=b\/k=J) J xs w):Calls prog 48 #[.slice (ao b) xs.length cp,.func (.func f) #[] cap.toArray] w (λe w'=>∃(bZ:List Value) (vM:Mq),e= .returned ((Rw.row b cp bZ).val (xs.filter (λx=> !p x)).length)/\aT (λk=>k=b\/k=J) w w'/\(Rw.row b cp bZ).Fit 36 (xs.filter (λx=> !p x))/\w'.heap[b]? =some (bj iG 142 (xs.filter (λx=> !p x)) bZ)/\vM.Ok (xs.foldl st gv)/\w'.heap[J]? =some (vM.obj cV Value.bool (xs.foldl st gv))):=by
 have iL:=bQ.1;have eP:=bQ.2;have jq:=(bB.1 hb).1;have vZ:=(bB.1 DL).1;refine nB (Gh.lent (λk=>k=b\/k=J)) [(b,bj iG 142 xs sp),(J,gm.obj cV Value.bool gv)] (vs:=[_,_]) func48 rfl ntmps48 rfl (Hp hb DL CF) ?_;refine B 9 ?_;refine nkj (i:=1) (b:=J) (f:=98) (first:=[]) (cap:=[]) (α:=Int×Mq×Nat) (v:=λz=>ab z.1) (ob:=λz=>z.2.1.obj cV Value.bool (kP st gv xs z.2.2)) (Φ:=IxS p st gv xs) rfl rfl call98 rfl rfl rfl (λW hS hW=>?_) ?_
 ·have zV:=hS.own (b,_) A0;have jP:ai vG 36 W.heap.size W (ao b) xs:=by
   obtain⟨a9,c9,e9,h9⟩:=(Rw.row b cp sp).sl (enc:=iG) (t:=142) (N:=W.heap.size) (w:=W) GR bQ zV (aj _);exact zHh
  exact nNg p st f cap aB xs hxl W.heap.size (ao b) cp W (aj _) jP J (λb9 off e=>by cases e;exact CF) gm gv ql hW (λj x hx W2 az br h1 h2 h3=>hp j x hx W2 az br h1 (((hS.links w A0).mono (λk _ hk=>by rcases hk with hk|hk;(exact hk);simpa using hk)).trans (h2.mono (λk _ hk=>.inr hk))) h3)
 intro z hi;refine B 5 ?_;rcases hi.2 with⟨gV,ft,r7⟩|⟨k,x0,gV,ft,tF,WA,sR⟩
 ·obtain⟨zi,m1,zn⟩:=z;dsimp only at hi gV ft ⊢;subst gV;subst ft;have cN:=hi.1;dsimp only at cN;refine B 2 ?_;refine Jr ?_;exact bS (.inl rfl) results48 bD λW hS=>⟨sp,m1,by rw[Lr r7];rfl,(hS.links w A0).mono (λk _ hk=>by rcases hk with hk|hk;(exact hk);simpa using hk),by rw[Lr r7];exact bQ,by rw[Lr r7];exact hS.own _ A0,by rw[<-nvg (aj _)];exact cN,by rw[<-nvg (aj _)];exact hS.own _ A1⟩
 obtain⟨zi,m1,zn⟩:=z;dsimp only at hi gV ft ⊢;subst gV;subst ft;have cN:=hi.1;dsimp only at cN;refine B 2 ?_;refine wX ?_;have sQ:=nq tF;refine B 7 ?_;refine CJ.lp (α:=((Nat×List Dv)×Mq)×Nat) [0,1] (λp9=>[(5,ab (p9.1.1.1:Int)),(6,ab (p9.2:Int))]) (λp9=>[(b,bj iG 142 p9.1.1.2 sp),(J,p9.1.2.obj cV Value.bool (kP st gv xs p9.2))]) (λp9=>p9.1.1.1<p9.2/\p9.2<=xs.length/\p9.1.1.2.length=xs.length/\p9.1.1.2.take p9.1.1.1=(xs.take p9.2).filter (λx=> !p x)/\p9.1.1.2.drop p9.2=xs.drop p9.2/\p9.1.2.Ok (kP st gv xs p9.2)) (λp9=>xs.length-p9.2) (((k,xs),m1),k+1) ⟨by dsimp only;omega,by dsimp only;omega,rfl,by dsimp only;rw[R9 tF,if_pos WA,nPg sR,ec],rfl,cN⟩ ?_;rintro⟨⟨⟨i2,cur⟩,m3⟩,j⟩ ⟨ve,tD,mB,vt,Aa,da⟩;dsimp only at ve tD mB vt Aa da ⊢;refine aG 9 ?_ ?_
 ·intro av;refine B 5 ?_;obtain⟨x,hx⟩:=ng xs j aa;obtain⟨wj,sa⟩:=ZP Aa hx;refine B 4 ?_;refine rq (.agg (vG x)) (fO (i:=0) rfl isAgg142 sizeOf142 rfl (Sb GR aa)) (va (Sa (sp:=sp) GR wj)) ?_;refine bM 1 ?_;intro b7 kh vY;refine B 7 ?_;refine nkj (i:=2) (b:=J) (f:=f) (first:=[]) (cap:=cap) (α:=Mq) (v:=λ_=>.bool (p x)) (ob:=λz=>z.obj cV Value.bool (st (kP st gv xs j) x)) (Φ:=λz=>z.Ok (st (kP st gv xs j) x)) rfl rfl aB rfl rfl rfl (λW hS hW=>(hp j x hx W m3 _ da ((hS.links w A0).mono (λk JV hk=>by rcases hk with hk|hk;(exact hk);(simp at hk;first|exact hk|(rcases hk with hk|hk;(exfalso;omega);exact hk)))) hW).mono ?_) ?_
  ·rintro e w' ⟨rfl,vM,h1,h2,h3⟩;exact⟨vM,rfl,h2,h3,h1⟩
  intro m2 bY;refine aG 3 ?_ ?_
  ·intro aS;refine B 6 ?_;refine Ls (enc:=iG) (m:=36) (i:=1) (j:=i2) (z:=x) rfl GR nAh sizeOf142 rfl rfl rfl zI aa rfl rfl ?_;refine B 14 ?_;refine qD ?_;refine PJ.again (((i2+1,cur.set i2 x),m2),j+1) ⟨by dsimp only;omega,by dsimp only;omega,by dsimp only;rw[List.length_set];exact mB,by dsimp only;rw[nad aa,vt,R9 hx,if_neg AW],by dsimp only;rw[n3d aa];exact sa,by dsimp only;rw[Pr hx];exact bY⟩ zS zR (by dsimp only;rw[Pr hx];rfl) rfl zI
  intro aS;refine B 8 ?_;refine qD ?_;refine PJ.again (((i2,cur),m2),j+1) ⟨by dsimp only;omega,by dsimp only;omega,mB,by dsimp only;rw[vt,R9 hx,if_pos AW,ec],sa,by dsimp only;rw[Pr hx];exact bY⟩ zS zR (by dsimp only;rw[Pr hx];rfl) rfl zI
 intro av;refine B 6 ?_;have Ab:j=xs.length:=by omega
 have kC:cur.take i2=(xs.filter (λx=> !p x)):=by rw[vt,Ab,ur]
 refine B 3 ?_;refine rq (.slice (some ⟨b,if cp=i2 then 0 else 0+i2*36,none⟩) (cur.drop i2).length (cp-i2)) (gy (l:=i2) (h:=xs.length) underlying138 sizeOf142 rfl ⟨_,_,rfl,rfl⟩ rfl aa aa rfl) (by rw[Cf,mB]) ?_;refine OJ.reH (H':=[(b,bj iG 142 (cur.take i2++cur.drop i2) sp),(J,m3.obj cV Value.bool (kP st gv xs j))]) (by rw[Ba]) ?_;refine Bb (i:=0) rfl GR underlying138 zeroValue142 rfl (nuf rfl _) rfl rfl zqb ?_;intro Sc Ac;refine B 6 ?_;refine rq (.slice (ao b) (cur.take i2).length cp) (fM (h:=i2) underlying138 sizeOf142 rfl ⟨_,_,rfl,rfl⟩ aa) WB ?_;refine B 4 ?_;exact bS (.inl rfl) results48 bD λW hS=>⟨Sc,m3,by rw[<-kC];rfl,(hS.links w A0).mono (λk _ hk=>by rcases hk with hk|hk;(exact hk);simpa using hk),by rw[<-kC];exact⟨by rw[kU];omega,by rw[Ac,Cf,kU,eP,Nat.min_eq_left aa,mB,<-qL];congr 1;omega⟩,by rw[<-kC];exact hS.own _ A0,by rw[<-nvg (aj _),<-Ab];exact da,by rw[<-nvg (aj _),<-Ab];exact hS.own _ A1⟩
end
theorem ndk(p:Dv->Bool)(st:Kv->Dv->Kv)(f:Nat)(cap:List Value)(aB:eV prog f)(w:World)(J:Nat)(gm:Mq)(gv:Kv)(ql:gm.Ok gv)(DL:w.heap[J]? =some (gm.obj cV Value.bool gv)):Calls prog 48 #[ak,.func (.func f) #[] cap.toArray] w (λe w'=>∃(vM:Mq),e= .returned (ak)/\aT (λk=>k=J) w w'/\vM.Ok gv/\w'.heap[J]? =some (vM.obj cV Value.bool gv)):=by
 refine nB (Gh.lent (· =J)) [(J,gm.obj cV Value.bool gv)] (vs:=[_,_]) func48 rfl ntmps48 rfl (Eo DL) ?_;refine B 9 ?_;refine nkj (i:=0) (b:=J) (f:=98) (first:=[]) (cap:=[]) (α:=Int×Mq×Nat) (v:=λz=>ab z.1) (ob:=λz=>z.2.1.obj cV Value.bool (kP st gv [] z.2.2)) (Φ:=IxS p st gv []) rfl rfl call98 rfl rfl rfl (λW hS hW=>?_) ?_
 ·exact nNg p st f cap aB [] zI 0 none 0 W (cO _) (.inl rfl) J (λb off e=>by cases e) gm gv ql hW (λj x hx=>by simp at hx)
 intro z hi;obtain⟨zi,m1,zn⟩:=z;have hz:=hi.2.resolve_right (by rintro⟨j,x,_,_,h,_⟩;simp at h);dsimp only at hz ⊢;obtain⟨rfl,rfl,_⟩:=hz;have cN:=hi.1;dsimp only at cN;refine B 7 ?_;refine Jr ?_;exact bS (.inl rfl) results48 bD λW hS=>⟨m1,rfl,(hS.links w A0).mono (λk _ hk=>by rcases hk with hk|hk;(exact hk);simpa using hk),cN,hS.own _ A0⟩
def Hq (D0:List (List Se×Se)) (L0 ls:List Se):Prop:=∀(i:Nat) (s:Se),ls[i]? =some s->s∈L0\/∃d∈D0,d.2=s/\∀f∈d.1,f∈ls.take i
def SeB (s:Se):Prop:=ey (fq s.com)
structure mM (D0:List (List Se×Se)) (L0:List Se) (lim:Nat) (ls:List Se):Prop where
 ord:Hq D0 L0 ls
 nd:(∀s∈L0,SeB s)->ls.Nodup
 l0:∀s∈L0,s∈ls
 cl:∀d∈D0,(∀f∈d.1,f∈ls)->d.2∈ls
 ln:ls.length<=lim
 pf:cI L0 <+:ls
structure Mw where
 lv:Value
 kn:Kv
 km:Mq
 r1:Rw
 acc:List Se
 r3:Rw
 mo:List Se
 r2:Rw
 ds:List Dv
structure Mx (D0:List (List Se×Se)) (L0:List Se) (v0:Value) (F:ad) (lim:Nat) (x:Mw):Prop where
 k:∀s,kB x.kn s=true↔s∈x.acc
 k0:x.kn=[]->x.acc=[]/\x.r1= .nil/\x.lv=v0/\x.mo=cI L0
 k1:x.kn≠ []->x.lv=x.r1.val x.acc.length
 ord:Hq D0 L0 (x.acc++x.mo)
 nd:(∀s∈L0,SeB s)->(x.acc++x.mo).Nodup
 l0:∀s∈L0,s∈x.acc++x.mo
 dr:∀d∈D0,(∃y∈x.ds,ig y=d)\/d.2∈x.acc++x.mo
 rs:∀y∈x.ds,ig y∈D0/\¬∀f∈y.fr,f∈x.acc
 df:∀y∈x.ds,yq F y
 ln:x.acc.length+x.mo.length+x.ds.length<=lim
 pf:cI L0 <+:x.acc++x.mo
def Mw.mu (x:Mw):Nat:=x.ds.length+if x.mo=[]then 0 else 1
theorem Hq.app{a b:List Se}(h:Hq D0 L0 a)(hb:∀s∈b,s∈L0\/∃d∈D0,d.2=s/\∀f∈d.1,f∈a):Hq D0 L0 (a++b):=by
 intro i s J;by_cases hi:i<a.length
 ·rw[TI hi]at J;rcases h i s J with h1|⟨d,h1,h2,h3⟩
  ·exact .inl h1
  refine .inr ⟨d,h1,h2,λf hf=>?_⟩;rw[List.take_append_of_le_length aa];exact h3 f hf
 rw[aur aa]at J;rcases hb s (cu J)with h1|⟨d,h1,h2,h3⟩
 ·exact .inl h1
 refine .inr ⟨d,h1,h2,λf hf=>?_⟩;rw[List.take_append];exact aY.2 (.inl (by rw[iC aa];exact h3 f hf))
def iO (kn:Kv) (mo:List Se):Kv:=mo.foldl (λk s=>gf k s true) kn
theorem nHm{kn:Kv}{mo:List Se}{s:Se}(h:mo[j]? =some s):iO kn (mo.take (j+1))=gf (iO kn (mo.take j)) s true:=by unfold iO;rw[np h,Ji];rfl
theorem nfk(s:Se):∀(mo:List Se) (kn:Kv),kB (iO kn mo) s=true↔s∈mo\/kB kn s=true
 | [],kn=>by simp[iO]
 |x::mo,kn=>by
  have ih:=nfk s mo (gf kn x true);show kB (iO (gf kn x true) mo) s=true↔_;rw[ih];unfold kB;rw[Hr];by_cases e:s=x
  ·simp[e]
  simp[e]
theorem TJ{mo:List Se}{kn:Kv}(h:mo≠ []):iO kn mo≠ []:=by
 intro he;cases mo with
 |nil=>exact h rfl
 |cons x l=>
  have:=(nfk x (x::l) kn).2 (.inl A0);rw[he]at this;simp[kB,gQ,fk]at this
theorem TL(kn:Kv)(s:Se):∀(xs:List Dv) (gv:Kv),s∈(xs.foldl (gS kn) gv).map (·.1)↔s∈gv.map (·.1)\/∃d∈xs,d.to=s/\kB kn d.to=false/\(d.fr.any λf=> !kB kn f)=false:=
 by intro x;induction x<;>(intros;grind [gS,kB,nwk])
theorem Hs(kn:Kv):∀(xs:List Dv) (gv:Kv),(gv.map (·.1)).Nodup->((xs.foldl (gS kn) gv).map (·.1)).Nodup:=
 by intro x;induction x<;>(intros;grind [gS,nsg])
theorem Ht(l:Kv)(s:Se):(gf l s true).length<=l.length+1:=by unfold gf;split<;>simp
theorem Hu(kn:Kv):∀(xs:List Dv) (gv:Kv),(xs.foldl (gS kn) gv).length+(xs.filter (λd=> !jf kn d)).length<=gv.length+xs.length:=
 by intro x;induction x<;>(intros;grind [gS,jf,kB,Ht])
theorem Mx.step{v0:Value}{x:Mw}(h:Mx D0 L0 v0 F lim x)(hm:x.mo≠ []){al:Mq}{J an aq:Rw}{ys:List Se}(hy:ys.Perm ((x.ds.foldl (gS (iO x.kn x.mo)) []).map (·.1))):Mx D0 L0 v0 F lim ⟨J.val (x.acc++x.mo).length,iO x.kn x.mo,al,J,x.acc++x.mo,aq,gR ys,an,x.ds.filter (λd=> !jf (iO x.kn x.mo) d)⟩/\Mw.mu ⟨J.val (x.acc++x.mo).length,iO x.kn x.mo,al,J,x.acc++x.mo,aq,gR ys,an,x.ds.filter (λd=> !jf (iO x.kn x.mo) d)⟩<x.mu:=by
 have hk:∀s,kB (iO x.kn x.mo) s=true↔s∈x.acc++x.mo:=λs=>by rw[nfk,aY,h.k s];exact Or.comm
 have TM:∀s,kB (iO x.kn x.mo) s=false↔s∉x.acc++x.mo:=λs=>by rw[<-hk s];simp
 have xV:∀s,s∈gR ys↔∃d∈x.ds,d.to=s/\s∉x.acc++x.mo/\∀f∈d.fr,f∈x.acc++x.mo:=λs=>by
  rw[nvi,hy.mem_iff,TL];constructor
  ·rintro(h1|⟨d,h1,h2,h3,h4⟩)
   ·simp at h1
   refine⟨d,h1,h2,h2▸(TM _).1 h3,λf hf=>(hk f).1 ?_⟩;have:=List.any_eq_false.1 h4 f hf;simpa using this
  rintro⟨d,h1,h2,h3,h4⟩;refine .inr ⟨d,h1,h2,(TM _).2 (h2.symm▸h3),List.any_eq_false.2 λf hf=>?_⟩;simp[(hk f).2 (h4 f hf)]
 have Kq:(gR ys).length+(x.ds.filter (λd=> !jf (iO x.kn x.mo) d)).length<=x.ds.length:=by
  have h1:=Hu (iO x.kn x.mo) x.ds [];have h2:=hy.length_eq;rw[L3];simp only[eK,fJ]at h1 h2;omega
 have kC:∀y,y∈x.ds.filter (λd=> !jf (iO x.kn x.mo) d)↔y∈x.ds/\y.to∉x.acc++x.mo/\¬∀f∈y.fr,f∈x.acc++x.mo:=λy=>by
  rw[xh];unfold jf;refine and_congr_right λ_=>?_;rw[Bool.not_or,mT,Bool.not_not,List.any_eq_true,Bool.not_eq_true',TM];refine and_congr_right λ_=>?_;simp only[Bool.not_eq_true',TM];constructor
  ·rintro⟨f,h1,h2⟩ h3;exact h2 (h3 f h1)
  intro h3;apply Classical.byContradiction;intro h4;exact h3 λf hf=>Classical.byContradiction λh5=>h4 ⟨f,hf,h5⟩
 refine⟨⟨hk,λhe=>absurd he (TJ hm),λ_=>rfl,?_,λhB=>?_,λs hs=>aY.2 (.inl (h.l0 s hs)),λd hd=>?_,λy hy=>?_,λy hy=>h.df y ((kC y).1 hy).1,?_,h.pf.trans (List.prefix_append _ _)⟩,?_⟩
 ·refine h.ord.app λs hs=>?_;obtain⟨d,h1,h2,h3,h4⟩:=(xV s).1 hs;exact .inr ⟨ig d,(h.rs d h1).1,h2,h4⟩
 ·dsimp only;rw[List.nodup_append];refine⟨h.nd hB,((WC CO.ord.swo ys).trans hy).nodup_iff.2 (Hs _ _ _ zI),?_⟩;intro a ha b hb e;subst e;exact((xV a).1 hb).choose_spec.2.2.1 ha
 ·dsimp only;by_cases hc:d.2∈x.acc++x.mo
  ·exact .inr (aY.2 (.inl hc))
  rcases h.dr d hd with⟨y,h1,h2⟩|h1
  ·by_cases hp:∀f∈y.fr,f∈x.acc++x.mo
   ·refine .inr (aY.2 (.inr ((xV _).2 ⟨y,h1,by rw[<-h2];rfl,hc,hp⟩)))
   exact .inl ⟨y,(kC y).2 ⟨h1,by rw[show y.to=d.2 from(by rw[<-h2];rfl)];exact hc,hp⟩,h2⟩
  exact absurd h1 hc
 ·exact⟨(h.rs y ((kC y).1 hy).1).1,((kC y).1 hy).2.2⟩
 ·dsimp only;have:=h.ln;rw[cB];omega
 unfold Mw.mu;dsimp only;rw[if_neg hm];split<;>rename_i he
 ·omega
 have:0<(gR ys).length:=azr.2 he;omega
theorem Mx.end_{v0:Value}{x:Mw}(h:Mx D0 L0 v0 F lim x)(hm:x.mo=[]):mM D0 L0 lim x.acc:=by
 have e:x.acc++x.mo=x.acc:=by rw[hm,ec]
 have h1:=h.ord;have h2:=h.nd;have h3:=h.l0;have h4:=h.dr;have h5:=h.ln
 rw[e]at h1 h2 h3;refine⟨h1,h2,h3,λd hd hp=>?_,by omega,by have J:=h.pf;rwa[e]at J⟩;rcases h4 d hd with⟨y,g1,g2⟩|g
 ·exact absurd (by rw[<-g2]at hp;exact hp) (h.rs y g1).2
 rw[e]at g;exact g
theorem Hv(a:Ap):∀d∈gK a,d.1.length<=2:=by
 intro d hd;unfold gK at hd;have hT:∀j,∀d∈kr a j,d.1.length<=2:=by
  intro j;induction j with
  |zero=>intro d hd;simp[kr]at hd
  |succ j ih=>
   intro d hd;unfold kr at hd;split at hd
   ·exact ih d hd
   rcases aY.1 hd with hd|hd
   ·exact ih d hd
   unfold Bi at hd;rcases cd.1 hd with rfl|hd
   ·simp
   split at hd
   ·rw[fC.1 hd];simp
   cases hd
 all_goals grind [yo,Me,Bj]
theorem Hw{cs:List Cm}{fos:List Fo}{gs:List Gr}{xs:List Ir}(d:List Se×Se)(hd:d∈ml Z cs fos gs xs):d.1.length<=2:=by
 unfold ml at hd;simp only[aY]at hd;all_goals grind [Hv,xu,CP,Ar]
theorem Hx:∀{l:List Int},xl l=0->∀x∈l,x=0:=
 by intro x;induction x<;>(intros;grind [xl])
theorem nRk:∀{a b:List UInt8},Go.Lib.compareBytes a b=0->a=b
 | [],[],_=>rfl
 | [],_::_,h=>by simp[Go.Lib.compareBytes]at h
 |_::_,[],h=>by simp[Go.Lib.compareBytes]at h
 |x::a,y::b,h=>by
  unfold Go.Lib.compareBytes at h;split at h
  ·cases h
  split at h
  ·cases h
  rename_i h1 h2;rw[nRk h];have:x=y:=UInt8.le_antisymm (UInt8.not_lt.1 h2) (UInt8.not_lt.1 h1);rw[this]
theorem TN{f g:Nat->Int}(h:∀i,i<32->f i=g i):dk f=dk g:=by
 apply Subtype.ext;show[f 0,f 1,f 2,f 3,f 4,f 5,f 6,f 7,f 8,f 9,f 10,f 11,f 12,f 13,f 14,f 15,f 16,f 17,f 18,f 19,f 20,f 21,f 22,f 23,f 24,f 25,f 26,f 27,f 28,f 29,f 30,f 31]=[g 0,g 1,g 2,g 3,g 4,g 5,g 6,g 7,g 8,g 9,g 10,g 11,g 12,g 13,g 14,g 15,g 16,g 17,g 18,g 19,g 20,g 21,g 22,g 23,g 24,g 25,g 26,g 27,g 28,g 29,g 30,g 31];simp[h]
theorem nJk{x y:Se}(hx:SeB x)(hy:SeB y)(h:mh x y=0):x=y:=by
 have h1:=Hx h;have a:=h1 (dy x.kind y.kind) zI;have b:=h1 (dy x.pub y.pub) zI;have c:=nRk (h1 (Go.Lib.compareBytes (cM (fq x.com)) (cM (fq y.com))) zI);have d:=h1 (dy x.lev y.lev) zI;have e:∀{p q:Int},dy p q=0->p=q:=λ{p q} h=>by unfold dy at h;split at h;(cases h);split at h;(cases h);omega
 have f:x.com=y.com:=by
  rw[<-DA x.com,<-DA y.com];exact TN λi hi=>by rw[<-Vy _ hx i hi,<-Vy _ hy i hi,c]
 cases x;cases y
 all_goals grind
theorem nbi{α:Type}[Inhabited α]{cf:α->α->Int}(hO:CO cf)(xs:List α):∀(i j:Nat) (x y:α),i<j->(gY cf xs)[i]? =some x->(gY cf xs)[j]? =some y->cf x y<=0:=by
 intro i j x y J hx hy;have h:=(Go.Sort.pdq_sorts (ltOf cf) hO.swo xs.toArray 0 xs.toArray.size (Lib.bitLen xs.toArray.size) true true (cO _) (aj _) (Or.inl rfl)).2;have C8:=nq hy;have hl:=(WC hO.swo xs).length_eq;have h2:=h i j (cO _) J (by rw[rf];omega);unfold gY at hx hy;rw[OZ]at hx hy;have e:∀{k:Nat} {z:α} {d:Array α},d[k]? =some z->d[k]! =z:=λ{k z d} hk=>by obtain⟨h3,h4⟩:=bB.1 hk;rw[getElem!_pos d k h3];exact h4
 rw[e hx,e hy]at h2;simp only[ltOf,decide_eq_false_iff_not]at h2;have:=hO.anti x y;omega
theorem nMk{xs:List Se}(J:∀(i j:Nat) (x y:Se),i<j->xs[i]? =some x->xs[j]? =some y->mh x y<=0)(hB:∀s∈xs,SeB s):∀j,(mL xs j).Nodup
 |0=>List.nodup_nil
 |j+1=>by
  have ih:=nMk J hB j;unfold mL;split
  ·exact ih
  rename_i x hx;split
  ·exact ih
  rename_i hn;rw[List.nodup_append];refine⟨ih,by simp,?_⟩;intro a ha b hb e;rw[fC]at hb;subst hb;subst e;rw[nCj]at ha;obtain⟨i,hi⟩:=ju.1 ha;have lQ:=nq hi;rw[kU]at lQ;rw[R0 aa]at hi;have Pm:0<j:=by omega
  obtain⟨y,hy⟩:=ng xs (j-1) VM;have h1:=J (j-1) j y a aa hy hx;have h2:mh a y<=0:=by
   by_cases e:i=j-1
   ·subst e;rw[hy]at hi;cases hi;have:=CO.ord.anti a a;omega
   exact J i (j-1) a y aa hi hy
  have h3:=CO.ord.anti a y;have h4:=nJk (hB _ (cu hy)) (hB _ (cu hx)) (show mh y a=0 by omega);exact hn ⟨Pm,by rw[hy,h4]⟩
theorem W6{l:List Se}(hB:∀s∈l,SeB s):(cI l).Nodup:=nMk (λi j x y h1 h2 h3=>nbi CO.ord l i j x y h1 h2 h3) (λs J=>hB s ((nvi l s).1 J)) _
theorem Mx.init{v0:Value}{km:Mq}{r2 r3:Rw}{ds:List Dv}(hm:ds.map ig=D0)(hd:∀d∈ds,yq F d)(hl:(cI L0).length+ds.length<=lim):Mx D0 L0 v0 F lim ⟨v0,[],km,.nil,[],r3,cI L0,r2,ds⟩:=by
 refine⟨λs=>by simp[kB,gQ,fk],λ_=>⟨rfl,rfl,rfl,rfl⟩,λh=>absurd rfl h,λi s J=>.inl ?_,λhB=>W6 hB,λs J=>(xm _ _).2 J,λd hd=>.inl ?_,λy hy=>⟨hm▸bU.2 ⟨y,hy,rfl⟩,λh=>?_⟩,hd,by simpa using hl,List.prefix_rfl⟩
 ·exact(xm _ _).1 (cu (by simpa using J))
 ·rw[<-hm]at hd;obtain⟨y,h1,h2⟩:=bU.1 hd;exact⟨y,h1,h2⟩
 cases hf:y.fr with
 |nil=>exact(hd y hy).ne hf
 |cons f l=>have:=h f (by rw[hf];exact .head _);simp at this
theorem Ps{α:Type}(p q:α)(l R:List α):(p::q::(l++(R++[]))).Perm ((R++[q])++(p::l)):=by
 rw[ec];refine(List.perm_append_comm (l₁:=p::q::l) (l₂:=R)).trans ?_;rw[iY];exact List.Perm.append_left R (List.Perm.swap q p l)
theorem abn{α:Type}(k a m p q c d:α)(J R2:List α):(J++(k::a::m::p::q::c::d::(R2++[]))).Perm (k::a::m::d::p::q::c::(J++(R2++[]))):=by
 have h1:(J++(k::a::m::p::q::c::d::(R2++[]))).Perm ((k::a::m::p::q::c::[d])++(J++(R2++[]))):=List.perm_append_comm_assoc J (k::a::m::p::q::c::[d]) (R2++[]);refine h1.trans ?_;show([k,a,m,p,q,c,d]++(J++(R2++[]))).Perm ([k,a,m,d,p,q,c]++(J++(R2++[])));refine List.Perm.append_right _ ?_;refine List.Perm.cons k (List.Perm.cons a (List.Perm.cons m ?_));exact(List.perm_append_comm (l₁:=[p,q,c]) (l₂:=[d]))
theorem ck.ownO{C:Cx}{G:Gh}{H:ad}{α:Type}{enc:α->List Value}{m J e' b c:Nat}{zs:List α}{sp:List Value}(hm:∀x,(enc x).length=m)(h1:∀x,∀u∈enc x,u.oneCell'=true)(hU:C.P.underlying J=some (.slice e'))(hb:(b,bj enc t zs sp)∈H):ck C G L H enc m J (.slice (ao b) zs.length c) zs:=
 ck.at hm h1 hU (λW hS=>hS.own _ hb) (by simp[sP hm]) (by
  simp only[Pt];rw[<-sP hm zs];exact List.take_left)
theorem My{C:Cx}{G:Gh}{H:ad}{E:Env}{x:Operand}{α:Type}{xs:List α}{m e:Nat}(hU:C.P.underlying t=some (.slice e))(hr:r.Fit m xs)(hx:ev E x=some (r.val xs.length)):RV C G L H E (.call ⟨.builtin .len,#[x],#[t]⟩) (ab (xs.length:Int)):=by
 cases r with
 |nil=>
  have h0:xs=[]:=hr;subst h0;exact mG hU hx
 |row b c sp=>exact mG hU hx
theorem nNp(hZ:FxOk Z)(cs:List Cm)(bX:cs.length<=1000)(dG:∀c∈cs,bO c)(N:Nat)(la:Option Addr)(lc:Nat)(w:World)(hN:N<=w.heap.size)(aI:ai cP 73 N w la cs)(hC:∀c∈cs,dC N w c)(fa:Option Addr)(fos:List Fo)(fc:Nat)(kC:fos.length<=10)(mB:cs.length<=10)(qS:ai qQ 33 N w fa fos)(ga:Option Addr)(gs:List Gr)(gc:Nat)(Qx:gs.length<=10)(ej:ai tW 39 N w ga gs)(Mt:∀g∈gs,pU g)(cz:∀g∈gs,sy N w g)(ia:Option Addr)(xs:List Ir)(ic:Nat)(lQ:xs.length<=10)(dK:ai Bq 68 N w ia xs)(e6:∀x∈xs,ku x)(xv:∀x∈xs,gH N w x.ba x.body)(o1 o5 o6 o7:Value)(hg:Glb w)(a0 a1:Addr)(hse:Sen w a0 a1)(qa:Option Addr)(L0:List Se)(qc:Nat)(W8:L0.length<=50000)(TO:ai seA 35 N w qa L0):Calls prog 26 #[.agg #[.slice fa fos.length fc,o1,.slice la cs.length lc,.slice ga gs.length gc,.slice ia xs.length ic,o5,o6,o7],.slice qa L0.length qc] w (dc w (λq:(Option Addr×Nat)×List Se=>.slice q.1.1 q.2.length q.1.2) (λq w1=>ai seA 35 w1.heap.size w1 q.1.1 q.2/\mM (ml Z cs fos gs xs) L0 71000 q.2/\q.2.length<=q.1.2)):=by
 have iQ:=hg.lt;refine nB (dJ []) [] (vs:=[_,_]) func26 rfl ntmps26 rfl (Lo w) ?_;refine cK 2 ?_;intro b2 w2 dz bY ft dL dH;refine B 5 ?_;refine LI cV Value.bool rfl rfl ?_;intro gD uY yQ;replace uY:=yb uY;refine bM 1 ?_;intro b5 tr tu;refine B 5 ?_;refine zIe ?_;refine nJn (H0:=[(b5,oC #[.map (some gD)] 137),(gD,(Mq.mk [] 0).obj cV Value.bool ([]:Kv))]) (H1:=[]) (r:=.nil) (xs:=([]:List Dv)) (enc:=iG) (m:=36) (t:=142) (γ:=List Dv) (ys:=λz=>z) (v:=λz r'=>r'.val z.length) (Φ:=λF' z=>z.map ig=(ml Z cs fos gs xs)/\(∀d∈z,yq F' d)/\z.length<=21000) (first:=[]) (cap:=[]) rfl True.intro rfl call47 rfl rfl rfl (λW hS=>?_) ?_
 ·refine(TC hZ cs bX dG N la lc W cR (aI.up (aj _) hS.sm) (λc hc=>(hC c hc).up (aj _) hS.sm) fa fos fc kC mB (qS.up (aj _) hS.sm) ga gs gc Qx (ej.up (aj _) hS.sm) Mt (λg hg=>(cz g hg).up (aj _) hS.sm) ia xs ic lQ (dK.up (aj _) hS.sm) e6 (λx hx=>(xv x hx).up (aj _) hS.sm) o1 o5 o6 o7 (hg.old hS A1 zF zD) a0 a1 (hse.oldG hS A1 zF zD)).mono ?_;rintro e w' ⟨ds,r,F',rfl,hb,jx,bQ,fF,wD,aX,lD,YL⟩;exact⟨ds,r,F',rfl,aT.of_below hb,λk hk=>.inr (Rw.ge_at jx hk),bQ,fF,wD,aX,lD,YL⟩
 rintro al a8 F1 ⟨bL,lD,uP⟩ TP Hy wB;obtain⟨F,bx⟩:∃F,F1++[]=F:=⟨_,rfl⟩;rw[bx]at Hy ⊢;have cy:∀y∈al,y.fr.length<=1000:=λy hy=>eB (Hw _ (bL▸bU.2 ⟨y,hy,rfl⟩)) zz;have lD:∀d∈al,yq F d:=λd hd=>(lD d hd).mono (λq hq=>bx▸aY.2 (.inl hq));refine aF 6 (.slice qa L0.length qc) ?_;have eE:a8.ge w2.heap.size:=Rw.ge_fz Hy A0;refine Jh (enc:=dX) (m:=35) (t:=35) (xs:=cI L0) (v:=id) (first:=[]) (cap:=[]) rfl call32 rfl rfl rfl (λW hS=>nVg L0 aa N qa qc W cR (TO.up (aj _) (hS.same A1 hN zF (by simp only[Over,nC,iv,eY,ec,and_true];(repeat' apply And.intro);all_goals first|omega|exact True.intro|exact Rw.over (Rw.ge_mono eE aa))))) ?_;intro bA eX TQ;refine B 4 ?_;refine CJ.prm (H':=[(b5,oC #[.map (some gD)] 137),(gD,(Mq.mk [] 0).obj cV Value.bool ([]:Kv))]++(Rw.nil.hp dX 35 ([]:List Se)++(bA.hp dX 35 (cI L0)++(a8.hp iG 142 al++[])))) (List.perm_append_comm_assoc _ _ _) ?_;have iR:=ngg L0;refine CJ.lp (α:=Mw) [5] (λx=>[(1,x.lv),(6,x.r2.val x.ds.length),(7,x.r3.val x.mo.length)]) (λx=>[(b5,oC #[.map (some gD)] 137),(gD,x.km.obj cV Value.bool x.kn)]++(x.r1.hp dX 35 x.acc++(x.r3.hp dX 35 x.mo++(x.r2.hp iG 142 x.ds++[])))) (λx=>Mx (ml Z cs fos gs xs) L0 (.slice qa L0.length qc) F 71000 x/\x.km.Ok x.kn/\(x.r1.Fr (dJ F) [w2,w]/\x.r1.Fit 35 x.acc)/\(x.r3.Fr (dJ F) [w2,w]/\x.r3.Fit 35 x.mo)/\(x.r2.Fr (dJ F) [w2,w]/\x.r2.Fit 36 x.ds)/\∀y∈x.ds,y.fr.length<=1000) (λx=>x.mu) ⟨(.slice qa L0.length qc),[],Mq.mk [] 0,.nil,[],bA,cI L0,a8,al⟩ ⟨Mx.init bL lD aa,Mq.nil,⟨True.intro,rfl⟩,⟨eX,TQ⟩,⟨Hy,TP⟩,cy⟩ ?_
 rintro⟨lv,kn,km,r1,acc,r3,mo,r2,ds⟩ ⟨hI,CQ,⟨Mz,iL⟩,⟨u7,oi⟩,⟨lW,eP⟩,bu⟩;dsimp only at CQ Mz iL u7 oi lW eP bu ⊢;have oN:r1.ge w2.heap.size:=Rw.ge_fz Mz A0;have eE:r2.ge w2.heap.size:=Rw.ge_fz lW A0;have qe:r3.ge w2.heap.size:=Rw.ge_fz u7 A0;refine B 4 ?_;refine rv rfl rfl rfl (My underlying38 oi rfl) ?_;refine aG 3 ?_ ?_
 ·intro av;refine B 5 ?_;have hne:mo≠ []:=by intro h;subst h;simp at*
  obtain⟨b3,c3,s3,rfl⟩:=Rw.row_of oi (azr.2 hne);have YL:=hI.ln;dsimp only at YL;refine B 2 ?_;refine rv rfl rfl rfl (Bs underlying137 CQ (bF.own (i:=1) rfl) rfl) ?_;refine B 3 ?_;refine CJ.mid (t:=1) (v:=r1.val acc.length) (E0:=[(5,_),(6,_),(7,_),(16,_),(17,_),(18,_),(19,_),(20,_),(21,_)]) zR ?_ ?_
  ·refine uf ?_ ?_
   ·intro aS;refine B 3 ?_;exact PJ.mid ⟨(by obtain⟨h1,h2,_⟩:=hI.k0 (mF zS);dsimp only at h1 h2;rw[h1,h2];rfl),rfl,rfl,rfl,rfl,rfl,rfl,rfl,rfl,rfl,trivial⟩
   intro aS;refine B 1 ?_;exact PJ.mid ⟨(congrArg some (hI.k1 (λh=>by have h2:kn=[]:=h;subst h2;simp_all))),rfl,rfl,rfl,rfl,rfl,rfl,rfl,rfl,rfl,trivial⟩
  refine B 5 ?_;refine jV (r:=r1) (xs:=acc) (zs:=mo) (enc:=dX) (m:=35) (H0:=[(b5,oC #[.map (some gD)] 137),(gD,km.obj cV Value.bool kn)]) (H1:=((Rw.row b3 c3 s3).hp dX 35 mo++(r2.hp iG 142 ds++[]))) rfl Pf nv rfl rfl rfl rfl (ck.ownO (b:=b3) (t:=35) (sp:=s3) nv Jz underlying38 o8) iL Mz (azr.2 hne) aa ?_;intro lV u3 mI qC rP;have eD:(Rw.row lV u3 mI).Fr (dJ F) [w2,w]:=qC.elim (λh=>Rw.Fr_at Mz h) .inr;replace qC:=yb qC;refine B 12 ?_;refine CJ.lp (α:=Mq×Nat) [1,5,6,25,26] (λp=>[(27,ab (p.2:Int))]) (λp=>[(b5,oC #[.map (some gD)] 137),(gD,p.1.obj cV Value.bool (iO kn (mo.take p.2))),(lV,bj dX 35 (acc++mo) mI),(b3,bj dX 35 mo s3)]++(r2.hp iG 142 ds++[])) (λp=>p.2<=mo.length/\p.1.Ok (iO kn (mo.take p.2))) (λp=>mo.length-p.2) (km,0) ⟨cO _,CQ⟩ ?_;rintro⟨m,j⟩ ⟨hj,hm⟩;dsimp only at hj hm ⊢;refine aG 6 ?_ ?_
  ·intro dh;refine B 5 ?_;obtain⟨s,hs⟩:=ng mo j aa;refine B 2 ?_;refine rq (.agg (seA s)) (fO (i:=3) rfl isAgg35 sizeOf35 rfl (Sb nv aa)) (va (Sa (sp:=s3) nv hs)) ?_;refine bM 1 ?_;intro b9 xP uh;refine aF 5 (cV s) ?_;refine nYi (i:=2) (k:=s) (v:=true) rfl hm underlying137 LZ rfl rfl rfl rfl ?_;intro m2 bY;refine xW ?_;refine PJ.again (m2,j+1) ⟨by dsimp only;omega,by dsimp only;rw[nHm hs];exact bY⟩ zS zR (by dsimp only;rw[nHm hs];rfl) rfl zI
  intro dh;refine B 6 ?_;have Ab:j=mo.length:=by omega
  rw[Ab,ur]at hm ⊢;refine B 1 ?_;refine LI cV Value.bool rfl rfl ?_;intro fK jQ gz;replace jQ:=yb jQ;refine bM 1 ?_;intro fN lq oj;refine B 7 ?_;refine OJ.perm (Ps _ _ [(b5,oC #[.map (some gD)] 137),(gD,m.obj cV Value.bool (iO kn mo)),(lV,bj dX 35 (acc++mo) mI),(b3,bj dX 35 mo s3)] (r2.hp iG 142 ds)) ?_;refine CR (Hz:=(r2.hp iG 142 ds++[(fK,(Mq.mk [] 0).obj cV Value.bool ([]:Kv))])) (H0:=[(fN,oC #[.map (some fK)] 137),(b5,oC #[.map (some gD)] 137),(gD,m.obj cV Value.bool (iO kn mo)),(lV,bj dX 35 (acc++mo) mI),(b3,bj dX 35 mo s3)]) (α:=Rw×Mq) (v:=λz=>z.1.val (ds.filter (λd=> !jf (iO kn mo) d)).length) (Hn:=λz=>z.1.hp iG 142 (ds.filter (λd=> !jf (iO kn mo) d))++[(fK,z.2.obj cV Value.bool (ds.foldl (gS (iO kn mo)) []))]) (Φ:=λz=>z.1.Fit 36 (ds.filter (λd=> !jf (iO kn mo) d))/\z.2.Ok (ds.foldl (gS (iO kn mo)) [])/\∀k,z.1.isAt k->r2.isAt k) (first:=[]) (cap:=[]) rfl rfl call48 rfl rfl rfl ?_ (λW hS=>?_) ?_
  ·cases r2 with
   |nil=>exact⟨.inr jQ,trivial⟩
   |row b c sp=>exact⟨lW,.inr jQ,trivial⟩
  ·have DL:=hS.own (fK,(Mq.mk [] 0).obj cV Value.bool ([]:Kv)) zI;have eb:=hS.own (b5,oC #[.map (some gD)] 137) zI;have dp:=hS.own (gD,m.obj cV Value.bool (iO kn mo)) zI;have en:=hS.own (fN,oC #[.map (some fK)] 137) zI;have hnd:=(vN _).1 hS.nodup;simp only[gN,dP,fu,iY,iv,eY]at hnd;have As:=(List.nodup_append.1 hnd).2.1;simp only[List.nodup_cons,cd,dZ,or_false,not_or]at As;cases r2 with
   |nil=>
    have h0:ds=[]:=eP;subst h0;refine(ndk (jf (iO kn mo)) (gS (iO kn mo)) 49 [ptr b5 0,ptr fN 0] call49 W fK (Mq.mk [] 0) [] Mq.nil DL).mono ?_;rintro e w' ⟨vM,rfl,hk,iU,hl⟩;exact⟨(.nil,vM),rfl,hk.mono (λk _ hk=>by subst hk;simp[keys]),⟨rfl,iU,λk hk=>hk.elim⟩,λp hp=>by simp[Rw.hp]at hp;subst hp;exact⟨hl,.inl (by simp[keys])⟩,EL _⟩
   |row b c sp=>
    have Xa:=hS.own (b,bj iG 142 ds sp) o8;have HA:b≠fK/\b≠fN/\b≠b5/\b≠gD:=by
     simp only[Rw.hp,dP,fu,iv,eY,List.nodup_cons,cd,dZ,or_false,not_or]at hnd;exact⟨hnd.1.1,hnd.1.2.1,hnd.1.2.2.1,hnd.1.2.2.2.1⟩
    refine(nUj (jf (iO kn mo)) (gS (iO kn mo)) 49 [ptr b5 0,ptr fN 0] call49 ds aa b c sp W Xa eP fK HA.1 (Mq.mk [] 0) [] Mq.nil DL (λj y hy W2 gm gv ql hk e7=>?_)).mono ?_
    ·have keep:∀{q:Nat} {o:Obj},W.heap[q]? =some o->q≠b->q≠fK->W2.heap[q]? =some o:=λ{q o} h1 h2 h3=>(hk.block q (bB.1 h1).1 (λhx=>hx.elim h2 h3)).trans h1;have b0:=hI.df y (cu hy);have wC:ai seA 35 W2.heap.size W2 y.fa y.fr/\∀b' off,y.fa=some ⟨b',off,none⟩->b'≠fK:=by
      rcases b0.sl with h1|⟨b',off,eH,t',Dd,e1,e2,e3⟩
      ·exact absurd h1 b0.ne
      have h2:=hS.fzLies _ e2;have hv:∀q:Nat×Obj,q∈(((Rw.row b c sp).hp iG 142 ds++[(fK,(Mq.mk [] 0).obj cV Value.bool ([]:Kv))])++[(fN,oC #[.map (some fK)] 137),(b5,oC #[.map (some gD)] 137),(gD,m.obj cV Value.bool (iO kn mo)),(lV,bj dX 35 (acc++mo) mI),(b3,bj dX 35 mo s3)]:ad)->b'≠q.1:=λq hq h9=>hS.apart q hq (bU.2 ⟨_,e2,h9⟩);have cT:=hv (b,bj iG 142 ds sp) o8;have mS:=hv (fK,(Mq.mk [] 0).obj cV Value.bool ([]:Kv)) o8;exact⟨.inr ⟨b',off,eH,t',Dd,e1,by have:=hk.size;have:=h2.1;omega,keep h2.2 cT mS,e3⟩,λb2 ij h=>by rw[e1]at h;cases h;exact mS⟩
     exact TH (iO kn mo) gD b5 m hm fN fK gm gv ql y W2.heap.size W2 (aj _) wC.2 (keep eb (λh=>HA.2.2.1 h.symm) (λh=>As.1.2.1 h.symm)) (keep dp (λh=>HA.2.2.2 h.symm) (λh=>As.1.2.2.1 h.symm)) (keep en (λh=>HA.2.1 h.symm) (λh=>As.1.1 h.symm)) e7 wC.1 (bu y (cu hy)) As.1.2.1 As.1.2.2.1 As.1.1
    rintro e w' ⟨bZ,vM,rfl,hk,bQ,eQ,iU,hl⟩;refine⟨(.row b c bZ,vM),rfl,hk.mono (λk _ hk=>by rcases hk with rfl|rfl<;>simp[keys,Rw.hp]),⟨bQ,iU,λk hk=>hk⟩,λp hp=>?_,W4 HA.1⟩;simp only[Rw.hp,iv,eY,cd,dZ,or_false]at hp;rcases hp with rfl|rfl
    ·exact⟨eQ,.inl (by simp[keys,Rw.hp])⟩
    exact⟨hl,.inl (by simp[keys,Rw.hp])⟩
  rintro⟨J,gm⟩ ⟨HB,ql,Pu⟩ gU;dsimp only at HB ql Pu ⊢;have db:J.Fr (dJ F) [w2,w]:=by
   cases J with
   |nil=>trivial
   |row b c sp=>exact Rw.Fr_at lW (Pu b rfl)
  refine OJ.perm ((Ps (fN,oC #[.map (some fK)] 137) (fK,gm.obj cV Value.bool (ds.foldl (gS (iO kn mo)) [])) [(b5,oC #[.map (some gD)] 137),(gD,m.obj cV Value.bool (iO kn mo)),(lV,bj dX 35 (acc++mo) mI),(b3,bj dX 35 mo s3)] (J.hp iG 142 (ds.filter (λd=> !jf (iO kn mo) d)))).symm) ?_;refine B 5 ?_;refine QC (α:=Nat) (v:=λb:Nat=>.func (.func 101) #[] #[ptr b 0]) (bo:=λb=>(b,oC #[.map (some fK)] 137)) (Φ:=λ_=>True) call53 rfl rfl rfl (λW hS=>(nip (some fK) W).mono (λe w1 h=>?_)) ?_
  ·obtain⟨b,h1,h2,h3,h4⟩:=h;exact⟨b,h1,h2,h3,trivial,h4⟩
  intro bk az c6 _;dsimp only at az c6 ⊢;replace az:=yb az;refine VL (enc:=dX) (m:=35) (t:=35) (Fin:=λzs=>∃ys:List Se,ys.Perm ((ds.foldl (gS (iO kn mo)) []).map (·.1))/\zs=gR ys) (v:=id) call52 rfl rfl rfl (λW hS=>?_) ?_
  ·have TR:=hS.own (bk,_) A0;have TS:=hS.own (fK,gm.obj cV Value.bool (ds.foldl (gS (iO kn mo)) [])) A2;have Qx:(ds.foldl (gS (iO kn mo)) []).length<=100000:=by have:=Hu (iO kn mo) ds [];simp only[fJ]at this;omega
   refine(nxl (Pre:=λp=>p.length<=(ds.foldl (gS (iO kn mo)) []).length) (Fin:=λys=>ys.Perm ((ds.foldl (gS (iO kn mo)) []).map (·.1))) (RO:=λk=>k=bk\/k=fK) (f:=101) (cap:=[ptr bk 0]) call101 W (λk hk=>?_) (λp hp=>by omega) (λW2 hB=>nWo fK bk gm ql W2 (by rw[hB.block bk (bB.1 TR).1];exact TR) (by rw[hB.block fK (bB.1 TS).1];exact TS)) (λys h=>by rw[h.length_eq,eK];omega)).mono ?_
   ·rcases hk with rfl|rfl
    ·exact(bB.1 TR).1
    exact(bB.1 TS).1
   rintro e w' ⟨ys,h1,h2⟩;exact⟨gR ys,⟨ys,h1,rfl⟩,h2⟩
  rintro _ cb ⟨ys,xV,rfl⟩ e5 TT;refine B 3 ?_;refine PJ.perm (abn (bk,oC #[.map (some fK)] 137) (fN,oC #[.map (some fK)] 137) (fK,gm.obj cV Value.bool (ds.foldl (gS (iO kn mo)) [])) (b5,oC #[.map (some gD)] 137) (gD,m.obj cV Value.bool (iO kn mo)) (lV,bj dX 35 (acc++mo) mI) (b3,bj dX 35 mo s3) (cb.hp dX 35 (gR ys)) (J.hp iG 142 (ds.filter (λd=> !jf (iO kn mo) d)))) ?_;refine PJ.dropAt (i:=0) rfl az ?_;refine PJ.dropAt (i:=0) rfl lq ?_;refine PJ.dropAt (i:=0) rfl jQ ?_;refine PJ.dropAt (i:=0) rfl (u7.elim (λh=>h.elim) id) ?_;refine PJ.again (⟨(Rw.row lV u3 mI).val (acc++mo).length,(iO kn mo),m,.row lV u3 mI,acc++mo,cb,gR ys,J,(ds.filter (λd=> !jf (iO kn mo) d))⟩:Mw) ⟨(hI.step hne xV).1,hm,⟨eD,rP⟩,⟨e5,TT⟩,⟨db,HB⟩,λy hy=>bu y (xh.1 hy).1⟩ (hI.step hne xV).2 zR rfl rfl zI
 intro av;refine B 12 ?_;have Bl:mo=[]:=mF aa;have hE:=hI.end_ Bl;dsimp only at hE;refine Q3 λWd yF=>?_;obtain⟨q,eJ,ed,dU⟩:∃q:Option Addr×Nat,lv= .slice q.1 acc.length q.2/\acc.length<=q.2/\(acc=[]\/∃b c sp,r1= .row b c sp/\q.1=some ⟨b,0,none⟩):=by
  by_cases WN:kn=[]
  ·obtain⟨h1,h2,h3,h4⟩:=hI.k0 WN;dsimp only at h1 h3 h4;have h5:L0=[]:=by
    have h6:cI L0=[]:=by rw[<-Bl];exact h4.symm
    apply List.eq_nil_iff_forall_not_mem.2;intro s hs;have:=(xm L0 s).2 hs;rw[h6]at this;cases this
   exact⟨(qa,qc),by rw[h1,h3,h5],by rw[h1];exact cO _,.inl h1⟩
  have h1:lv=r1.val acc.length:=hI.k1 WN;cases r1 with
  |nil=>exact⟨(none,0),by rw[h1];have h2:acc=[]:=iL;rw[h2];rfl,by have h2:acc=[]:=iL;rw[h2];exact cO _,.inl iL⟩
  |row b c sp=>exact⟨(some ⟨b,0,none⟩,c),h1,iL.1,.inr ⟨b,c,sp,rfl,rfl⟩⟩
 refine bS (.inl rfl) results26 bD λW hS=>⟨(q,acc),by rw[eJ];rfl,(hS.links w A1).below (λk hk hx=>by
  rcases hx with hx|hx
  ·exact hx
  simp only[gN,dP,fu,iv,eY,ec,aY,cd]at hx;rcases hx with hx|hx|hx|hx|hx
  ·omega
  ·omega
  ·have:=Rw.mem_ge oN hx;omega
  ·have:=Rw.mem_ge qe hx;omega
  have:=Rw.mem_ge eE hx;omega),?_,hE,ed⟩
 rcases dU with h|⟨b,c,sp,rfl,h⟩
 ·exact .inl h
 have h1:=hS.own (b,bj dX 35 acc sp) o8;obtain⟨a9,c9,e9,h9⟩:=(Rw.row b c sp).sl (enc:=dX) (t:=35) (N:=W.heap.size) (w:=W) nv iL h1 (aj _);simp only[Rw.val,Value.slice.injEq]at e9;rw[<-e9.1]at h9;rw[h];exact h9
section
variable {C:Cx} {Q:bE} {E:Env} {D:List Deferred} {L:List World} {H F:ad}
theorem PJ.unfz{e:Exit}(k:PJ C Q e E D Gh.no L H):PJ C Q e E D (dJ F) L H:=λa W hN hD hF hS=>k a W hN hD hF hS.unfz
end
abbrev Ow:=Int×Int
def HC (x:Ow):Array Value:=#[ab x.1,ab x.2]
structure eF where
 fa:Option Addr
 fos:List Fo
 fc:Nat
 oa:Option Addr
 os:List Ow
 oc:Nat
 la:Option Addr
 cs:List Cm
 lc:Nat
 ga:Option Addr
 gs:List Gr
 gc:Nat
 ia:Option Addr
 xs:List Ir
 ic:Nat
 o5:Value
 o6:Value
 o7:Value
def rdA (r:eF):Array Value:=#[.slice r.fa r.fos.length r.fc,.slice r.oa r.os.length r.oc,.slice r.la r.cs.length r.lc,.slice r.ga r.gs.length r.gc,.slice r.ia r.xs.length r.ic,r.o5,r.o6,r.o7]
structure fG (r:eF):Prop where
 fl:r.fos.length<=10
 ol:r.os.length<=20
 cl:r.cs.length<=10
 cg:∀c∈r.cs,bO c
 gl:r.gs.length<=10
 gg:∀g∈r.gs,pU g
 il:r.xs.length<=10
 ii:∀x∈r.xs,ku x
structure fH (N:Nat) (w:World) (r:eF):Prop where
 f:ai qQ 33 N w r.fa r.fos
 o:ai HC 2 N w r.oa r.os
 c:ai cP 73 N w r.la r.cs
 C:∀c∈r.cs,dC N w c
 g:ai tW 39 N w r.ga r.gs
 G:∀g∈r.gs,sy N w g
 i:ai Bq 68 N w r.ia r.xs
 I:∀x∈r.xs,gH N w x.ba x.body
theorem fH.up{N J:Nat}{w':World}{r:eF}(h:fH N w r)(hN:N<=J)(hw:∀k,k<N->w'.heap[k]? =w.heap[k]?):fH J w' r:=
 ⟨h.f.up hN hw,h.o.up hN hw,h.c.up hN hw,λc hc=>(h.C c hc).up hN hw,h.g.up hN hw,λg hg=>(h.G g hg).up hN hw,h.i.up hN hw,λx hx=>(h.I x hx).up hN hw⟩
noncomputable def eF.D (r:eF) (Z:Fx):List (List Se×Se):=ml Z r.cs r.fos r.gs r.xs
def sC (os:List Ow) (dv:Int):List Se:=(os.filter λo=>decide (o.1=dv)).map λo=>aN o.2
def tX (ps:List Ap) (dv:Int):List Se:=(ps.filter λp=>decide (p.1.author=dv)).map λp=>nj (dk p.2.2.2.last) 0
noncomputable def eF.fs0 (r:eF) (Z:Fx) (dv:Int):List Se:=sC r.os dv++tX (eR Z r.cs r.fos) dv
noncomputable def eF.fs (r:eF) (Z:Fx) (dv:Int):List Se:=cI (r.fs0 Z dv)
theorem n3j{os:List Ow}{dv:Int}{o:Ow}(h:os[j]? =some o)(e:o.1=dv):sC (os.take (j+1)) dv=sC (os.take j) dv++[aN o.2]:=by unfold sC;rw[np h,List.filter_append];simp[e]
theorem nem{os:List Ow}{dv:Int}{o:Ow}(h:os[j]? =some o)(e:¬o.1=dv):sC (os.take (j+1)) dv=sC (os.take j) dv:=by unfold sC;rw[np h,List.filter_append];simp[e]
theorem nQj{dv:Int}(h:pls[j]? =some p)(e:p.c.author=dv):tX ((pls.take (j+1)).map aW) dv=tX ((pls.take j).map aW) dv++[nj (dk p.x.g.last) 0]:=by simp_all[tX,np,aW]
theorem nNm{dv:Int}(h:pls[j]? =some p)(e:¬p.c.author=dv):tX ((pls.take (j+1)).map aW) dv=tX ((pls.take j).map aW) dv:=by simp_all[tX,np,aW]
theorem n7n(os:List Ow)(dv:Int):(sC os dv).length<=os.length:=by unfold sC;rw[eK];exact Sd _ _
theorem nzo(ps:List Ap)(dv:Int):(tX ps dv).length<=ps.length:=by unfold tX;rw[eK];exact Sd _ _
inductive Au (D:List (List Se×Se)) (L0:List Se):Se->Prop
 |base {s:Se}:s∈L0->Au D L0 s
 |step {d:List Se×Se}:d∈D->(∀f∈d.1,Au D L0 f)->Au D L0 d.2
theorem mM.iff{ls:List Se}(h:mM D0 L0 lim ls)(s:Se):s∈ls↔Au D0 L0 s:=by
 constructor
 ·intro J;obtain⟨i,hi⟩:=ju.1 J;clear J;induction i using Nat.strongRecOn generalizing s with
  |_ i ih=>
   rcases h.ord i s hi with h1|⟨d,h1,h2,h3⟩
   ·exact .base h1
   rw[<-h2];refine .step h1 λf hf=>?_;obtain⟨j,hj⟩:=ju.1 (h3 f hf);have hl:=nq hj;rw[kU]at hl;rw[R0 aa]at hj;exact ih j aa f hj
 intro J;induction J with
 |base h1=>exact h.l0 _ h1
 |step h1 _ ih=>exact h.cl _ h1 ih
theorem Au.mono{D J:List (List Se×Se)}{L L':List Se}(hD:∀d∈D,d∈J)(hL:∀s∈L,s∈L'){s:Se}(h:Au D L s):Au J L' s:=by
 induction h with
 |base h1=>exact .base (hL _ h1)
 |step h1 _ ih=>exact .step (hD _ h1) ih
theorem nsm{ls:List Se}(h:mM D0 L0 lim ls)(s:Se):s∈cI ls↔Au D0 L0 s:=(xm _ _).trans (h.iff s)
section
variable (hZ:FxOk Z)(r:eF)(hr:fG r)(N:Nat)(w:World)(hN:N<=w.heap.size)(hrA:fH N w r)(hg:Glb w)
include hZ hr N hN hrA hg
theorem nlg(a0 a1:Addr)(hse:Sen w a0 a1)(J:Option Addr)(L0:List Se)(qc:Nat)(W8:L0.length<=50000)(TO:ai seA 35 N w J L0):Calls prog 26 #[.agg (rdA r),.slice J L0.length qc] w (dc w (λq:(Option Addr×Nat)×List Se=>.slice q.1.1 q.2.length q.1.2) (λq w1=>ai seA 35 w1.heap.size w1 q.1.1 q.2/\mM (r.D Z) L0 71000 q.2/\q.2.length<=q.1.2)):=
 nNp hZ r.cs (eB hr.cl zz) hr.cg N r.la r.lc w hN hrA.c hrA.C r.fa r.fos r.fc hr.fl hr.cl hrA.f r.ga r.gs r.gc hr.gl hrA.g hr.gg hrA.G r.ia r.xs r.ic hr.il hrA.i hr.ii hrA.I _ r.o5 r.o6 r.o7 hg a0 a1 hse J L0 qc W8 TO
theorem nxg(dv:Int):Calls prog 11 #[.agg (rdA r),ab dv] w (aD w dX 35 35 (r.fs Z dv) id):=by
 have bz:=hg.lt;have Ag:=hr.ol;refine nB (dJ []) [] (vs:=[_,_]) func11 rfl ntmps11 rfl (Lo w) ?_;refine cK 2 ?_;intro b2 w2 dz bY ft dL dH;refine aF 7 (.slice r.oa r.os.length r.oc) ?_;refine B 5 ?_;refine CJ.loop (α:=Rw×Nat) (λp=>[(1,ab dv),(2,ptr b2 0),(4,p.1.val (sC (r.os.take p.2) dv).length),(10,.slice r.oa r.os.length r.oc),(11,ab (r.os.length:Int)),(12,ab (p.2:Int))]) (λp=>p.1.hp dX 35 (sC (r.os.take p.2) dv)++[]) (λp=>[w2,w]) (λp=>dJ []) (λp=>p.2<=r.os.length/\p.1.Fr (dJ []) [w2,w]/\p.1.Fit 35 (sC (r.os.take p.2) dv)) (λp=>r.os.length-p.2) (.nil,0) ⟨cO _,True.intro,rfl⟩ zR rfl rfl zI ?_;rintro⟨ro,j⟩ ⟨hj,aK,ae⟩;dsimp only at hj aK ae ⊢;have bK:ro.ge w2.heap.size:=Rw.ge_fz aK A0;refine aG 6 ?_ ?_
 ·intro av;refine B 5 ?_;have Hh:=hrA.o;obtain⟨bo,oo,cq,to,fg,ez,fh,bX,aR⟩:=Hh.get aa;obtain⟨o,ho⟩:=ng r.os j aa;rw[ez];refine aF 2 (.agg (HC o)) ?_;refine bM 1 ?_;intro b6 ky rh;refine aF 6 (ab o.1) ?_;refine aG 4 ?_ ?_
  ·intro aS;refine aF 3 (ab o.2) ?_;refine zxe ?_;refine DC ?_;refine yW ?_;intro lV Q6 Q7;refine jV (r:=ro) (xs:=(sC (r.os.take j) dv)) (zs:=[(aN o.2)]) (enc:=dX) (m:=35) (H0:=[(lV,oC (seA (aN o.2)) 35),(b6,oC (HC o) 71)]) (H1:=[]) zW Pf nv rfl rfl rfl rfl (ck.one (z:=aN o.2) nv Jz underlying38 (bF.own (i:=0) rfl)) ae aK zI (by have h9:=n7n (r.os.take j) dv;rw[kU]at h9;simp only[dI,fJ];omega) ?_;intro VJ Q8 Q9 zb zc;replace zb:=yb zb;refine zd ?_;refine PJ.again (Rw.row VJ Q8 Q9,j+1) ⟨by dsimp only;omega,zb.elim (λh=>Rw.Fr_at aK h) (λh=>.inr h),by dsimp only;rw[n3j ho cY];exact zc⟩ zS ⟨rfl,rfl,by dsimp only;rw[n3j ho cY];rfl,rfl,rfl,rfl,trivial⟩ (by dsimp only;rw[n3j ho cY];rfl) rfl zI
  intro aS;refine xW ?_;refine PJ.again (ro,j+1) ⟨by dsimp only;omega,aK,by dsimp only;rw[nem ho cY];exact ae⟩ zS ⟨rfl,rfl,by dsimp only;rw[nem ho cY];rfl,rfl,rfl,rfl,trivial⟩ (by dsimp only;rw[nem ho cY];rfl) rfl zI
 intro av;refine B 7 ?_;have cH:r.os.take j=r.os:=iC aa;rw[cH]at ae ⊢;have bZ:=n7n r.os dv;refine aF 1 (.agg (rdA r)) ?_;refine Pe (γ:=(Option Addr×Nat)×List Pl) (v:=λq=>.slice q.1.1 q.2.length q.1.2) (Φ:=λF' q=>q.2.map aW=eR Z r.cs r.fos/\(∀p∈q.2,DD F' p/\p.c∈r.cs)/\q.2.length<=100/\iN (λx=>(An x).toArray) 111 F' q.1.1 q.2) call30 rfl rfl rfl (λW hS=>?_) ?_
 ·have Zy:=hrA.up (aj _) (hS.same A1 hN zF zC);exact nei hZ r.cs (eB hr.cl zz) hr.cg N r.la r.lc W cR Zy.c Zy.C r.fa r.fos r.fc hr.fl hr.cl Zy.f _ _ _ r.o5 r.o6 r.o7 (hg.old hS A1 zF zC)
 rintro⟨⟨pa,yt⟩,pls⟩ F1 ⟨lU,DK,gq,J⟩ wB;dsimp only at lU DK gq J ⊢;have J:iN kV 111 F1 pa pls:=J;obtain⟨F,al⟩:∃F,F1++[]=F:=⟨_,rfl⟩;rw[al];have J:iN kV 111 F pa pls:=J.mono (λq hq=>al▸aY.2 (.inl hq));have gO:ro.Fr (dJ F) [w2,w]:=by
  cases ro with
  |nil=>trivial
  |row b c sp=>exact aK.elim (λh=>h.elim) .inr
 refine B 5 ?_;refine CJ.loop (α:=Rw×Nat) (λp=>[(1,ab dv),(4,p.1.val (sC r.os dv++tX ((pls.take p.2).map aW) dv).length),(28,.slice pa pls.length yt),(29,ab (pls.length:Int)),(30,ab (p.2:Int))]) (λp=>p.1.hp dX 35 (sC r.os dv++tX ((pls.take p.2).map aW) dv)++[]) (λp=>[w2,w]) (λp=>dJ F) (λp=>p.2<=pls.length/\p.1.Fr (dJ F) [w2,w]/\p.1.Fit 35 (sC r.os dv++tX ((pls.take p.2).map aW) dv)) (λp=>pls.length-p.2) (ro,0) ⟨cO _,gO,by dsimp only;rw[show tX ((pls.take 0).map aW) dv=[]from rfl,ec];exact ae⟩ ⟨rfl,by dsimp only;rw[show tX ((pls.take 0).map aW) dv=[]from rfl,ec];rfl,rfl,rfl,rfl,trivial⟩ (by dsimp only;rw[show tX ((pls.take 0).map aW) dv=[]from rfl,ec (sC r.os dv)]) rfl zI ?_;rintro⟨ro,i⟩ ⟨hi,aK,ae⟩;dsimp only at hi aK ae ⊢;have bK:ro.ge w2.heap.size:=Rw.ge_fz aK A0;refine aG 6 ?_ ?_
 ·intro dh;refine B 5 ?_;obtain⟨bp,op,Za,tp,Zb,WX,AM,WY⟩:=J.get aa;obtain⟨p,hp⟩:=ng pls i aa;refine B 1 ?_;refine zMd ?_;refine bM 1 ?_;intro b8 C4 Jb;refine aF 7 (ab p.c.author) ?_;refine aG 4 ?_ ?_
  ·intro iR;refine B 4 ?_;refine DG ?_;refine zse ?_;refine DC ?_;refine yW ?_;intro ay bQ bx;refine jV (r:=ro) (xs:=(sC r.os dv++tX ((pls.take i).map aW) dv)) (zs:=[(nj (dk p.x.g.last) 0)]) (enc:=dX) (m:=35) (H0:=[(ay,oC (seA (nj (dk p.x.g.last) 0)) 35),(b8,oC (kV p) 92)]) (H1:=[]) zW Pf nv rfl rfl rfl rfl (ck.one (z:=nj (dk p.x.g.last) 0) nv Jz underlying38 (bF.own (i:=0) rfl)) ae aK zI (by have h9:=nzo ((pls.take i).map aW) dv;rw[eK,kU]at h9;simp only[cB,dI,fJ];omega) ?_;intro bh an az TU TV;replace TU:=yb TU;refine zd ?_;refine PJ.again (Rw.row bh an az,i+1) ⟨by dsimp only;omega,TU.elim (λh=>Rw.Fr_at aK h) (λh=>.inr h),by dsimp only;rw[nQj hp cY,<-iY];exact TV⟩ zS ⟨rfl,by dsimp only;rw[nQj hp cY,<-iY];rfl,rfl,rfl,rfl,trivial⟩ (by dsimp only;rw[nQj hp cY,<-iY];rfl) rfl zI
  intro iR;refine xW ?_;refine PJ.again (ro,i+1) ⟨by dsimp only;omega,aK,by dsimp only;rw[nNm hp cY];exact ae⟩ zS ⟨rfl,by dsimp only;rw[nNm hp cY];rfl,rfl,rfl,rfl,trivial⟩ (by dsimp only;rw[nNm hp cY];rfl) rfl zI
 intro dh;refine B 6 ?_;have FB:pls.take i=pls:=iC aa;rw[FB,lU]at ae ⊢;have tC:=nzo (eR Z r.cs r.fos) dv;have bw:(eR Z r.cs r.fos).length<=100:=by rw[<-lU,eK];exact gq
 refine B 2 ?_;refine Jh (enc:=dX) (m:=35) (t:=35) (xs:=r.fs Z dv) (v:=id) (first:=[]) (cap:=[]) rfl call32 rfl rfl rfl (λW hS=>?_) ?_
 ·obtain⟨a9,c9,e9,h9⟩:=ro.sl (enc:=dX) (t:=35) (N:=W.heap.size) (w:=W) nv ae (by
   cases ro with
   |nil=>trivial
   |row b c sp=>exact hS.own (b,_) o8) (aj _)
  have h8:=nVg (r.fs0 Z dv) (by unfold eF.fs0;rw[cB];omega) W.heap.size a9 c9 W (aj _) h9;have e8:(Value.slice a9 (r.fs0 Z dv).length c9)=ro.val (sC r.os dv++tX (eR Z r.cs r.fos) dv).length:=e9.symm;rw[e8]at h8;exact h8
 intro r9 TW HD;have oM:r9.ge w2.heap.size:=Rw.ge_fz TW A0;refine B 4 ?_;refine PJ.unfz ?_;exact nQ (H0:=[]) (H1:=_) (r:=r9) (.inl rfl) results11 bD A1 (by refine nC.2 ⟨Rw.over (Rw.ge_mono oM aa),?_⟩;rw[ec];exact Rw.over (Rw.ge_mono bK aa)) rfl HD (Rw.ge_mono oM aa) rfl
theorem nze(a0 a1:Addr)(hse:Sen w a0 a1)(qa:Option Addr)(L0:List Se)(qc:Nat)(W8:L0.length<=50000)(TO:ai seA 35 N w qa L0):Calls prog 15 #[.agg (rdA r),.slice qa L0.length qc] w (λe w'=>∃ls,mM (r.D Z) L0 71000 ls/\aD w dX 35 35 (cI ls) id e w'):=by
 refine eN func15 ntmps15 ?_;refine cK 2 ?_;intro b2 w2 dz bY ft dL dH;refine aF 5 (.agg (rdA r)) ?_;refine B 1 ?_;refine ny (α:=(Option Addr×Nat)×List Se) (v:=(λq:(Option Addr×Nat)×List Se=>.slice q.1.1 q.2.length q.1.2)) (Φ:=λW q w1=>ai seA 35 w1.heap.size w1 q.1.1 q.2/\mM (r.D Z) L0 71000 q.2/\q.2.length<=q.1.2) call26 rfl rfl rfl (λW hS=>nlg hZ r hr N W cR (hrA.up (aj _) hS.sm) (hg.old hS A1 zF trivial) a0 a1 (hse.old hS A1) qa L0 qc W8 (TO.up (aj _) hS.sm)) ?_;rintro Wq ⟨⟨Pw,JH⟩,ls⟩ wq Cn RM ⟨oQ,J,Je⟩;dsimp only at oQ J Je ⊢;have TX:=J.ln;refine Jh (enc:=dX) (m:=35) (t:=35) (xs:=cI ls) (v:=id) (first:=[]) (cap:=[]) rfl call32 rfl rfl rfl (λW hS=>nVg ls aa wq.heap.size Pw JH W (hS.links wq A0).size (oQ.up (aj _) (hS.same A0 (aj _) zF trivial))) ?_;intro r9 TW HD;have oM:r9.ge w.heap.size:=Rw.ge_of TW A2;refine B 4 ?_;exact bS (.inl rfl) results15 bD λW hS=>⟨ls,J,r9,rfl,hS.base A2 (by rw[ec];exact Rw.over oM),oM,HD,by cases r9 with|nil=>exact True.intro|row b cap sp=>exact hS.own _ A0⟩
theorem nui(a0 a1:Addr)(hse:Sen w a0 a1)(dv:Int)(s:Se)(kC:(r.fs Z dv).length<=200):Calls prog 10 #[.agg (rdA r),ab dv,cV s] w (dc w (λb:Bool=>.bool b) (λb _=>∃ls,mM (r.D Z) (r.fs Z dv) 71000 ls/\b=decide (s∈ls))):=by
 refine eN func10 ntmps10 ?_;refine cK 2 ?_;intro b3 w3 dE da gi eO fw;refine yX ?_;intro b5 w5 Dg Yx an tr tu;refine B 4 ?_;refine eS 6 3 [4] (sp:=[some (.agg (rdA r)),some (.agg (rdA r)),_,_,_,some (cV s)]) (h:=?_);intro _ _ hk;refine zZd ?_;intro Wf af cf wf aq az Av Py;refine zG ?_;intro _ _ hk;have Pz:ai seA 35 wf.heap.size wf af (r.fs Z dv):=Av;refine zjd ?_;rintro Wq ⟨⟨Pw,JH⟩,ls⟩ wq Cn RM ⟨oQ,J,Je⟩;dsimp only at oQ J Je ⊢;refine zE ?_;have TX:=J.ln;refine call (v:=.bool (decide (s∈ls))) call28 rfl rfl rfl (λW hS=>nyn ls aa wq.heap.size Pw JH W (hS.links wq A0).size (oQ.up (aj _) (hS.same A0 (aj _) zF trivial)) s) ?_;refine B 4 ?_;refine sM (decide (s∈ls)) results10 rfl A4 rfl ?_;exact λW hS=>⟨ls,J,rfl⟩
theorem HE(a0 a1:Addr)(hse:Sen w a0 a1)(dv:Int)(s:Se)(kC:(r.fs Z dv).length<=200):Calls prog 9 #[.agg (rdA r),ab dv,cV s] w (dc w (λq:((Option Addr×Nat)×List Se)×Bool=>.tuple #[.slice q.1.1.1 q.1.2.length q.1.1.2,.bool q.2]) (λq w1=>ai seA 35 w1.heap.size w1 q.1.1.1 q.1.2/\q.1.2.length<=q.1.1.2/\∃ls,mM (r.D Z) (r.fs Z dv) 71000 ls/\((s∉ls/\q.1.2=[]/\q.2=false)\/∃j,ls[j]? =some s/\q.1.2=ls.take (j+1)/\q.2=true))):=by
 refine eN func9 ntmps9 ?_;refine cK 2 ?_;intro b3 w3 dE da gi eO fw;refine yX ?_;intro b5 w5 Dg Yx bh tr tu;refine B 5 ?_;refine eS 4 3 [] (sp:=[some (.agg (rdA r)),some (.agg (rdA r)),_,_]) (h:=?_);intro _ _ hk;refine zZd ?_;intro Wf af cf wf br bx Av Py;refine zE ?_;have Pz:ai seA 35 wf.heap.size wf af (r.fs Z dv):=Av;refine zjd ?_;rintro Wq ⟨⟨Pw,JH⟩,ls⟩ wq Cn RM ⟨oQ,J,Je⟩;dsimp only at oQ J Je ⊢;have TX:=J.ln;refine aF 6 (cV s) ?_;refine call (v:=ab (GC ls (λy=>decide (s=y)))) call27 rfl rfl rfl (λW hS=>n2l ls aa wq.heap.size Pw JH W (hS.links wq A0).size (oQ.up (aj _) (hS.same A0 (aj _) zF trivial)) s) ?_;refine B 5 ?_;have DE:=nZl (λy=>decide (s=y)) ls;obtain⟨ix,az⟩:∃ix,GC ls (λy=>decide (s=y))=ix:=⟨_,rfl⟩;rw[az]at DE ⊢;refine aG 5 ?_ ?_
 ·intro av;refine B 8 ?_;refine bS (.inl rfl) results9 bD λW hS=>?_;refine⟨(((none,0),[]),false),rfl,hS.base A4 trivial,.inl rfl,aj _,ls,J,.inl ⟨λhm=>?_,rfl,rfl⟩⟩;rcases DE with⟨_,h2⟩|⟨j,x,h1,_⟩
  ·have:=h2 s hm;simp at this
  omega
 intro av;refine B 3 ?_;obtain⟨j,y,rfl,hy,xV,_⟩:=DE.resolve_left (λh=>by have:=h.1;omega);obtain rfl:s=y:=by simpa using xV
 have C8:=nq hy;obtain⟨bo,oo,al,to,fg,rfl,fh,bX,aR⟩:=oQ.get aa;refine aF 3 (ab ((j+1:Nat):Int)) ?_;refine rq (.slice (some ⟨bo,oo,none⟩) (ls.take (j+1)).length JH) (fM (h:=j+1) underlying38 sizeOf35 rfl ⟨_,_,rfl,rfl⟩ aa) WB ?_;refine B 5 ?_;refine bS (.inl rfl) results9 bD λW hS=>?_;refine⟨((((some ⟨bo,oo,none⟩),JH),ls.take (j+1)),true),rfl,hS.base A4 trivial,?_,by dsimp only;rw[kU];omega,ls,J,.inr ⟨j,hy,rfl,rfl⟩⟩;have h9:=hS.old A0 bX zH trivial;exact .inr ⟨bo,oo,al,to,fg,rfl,(bB.1 h9).1,h9,λi hi=>by rw[kU]at hi;rw[List.getElem_take];exact aR i aa⟩
end
def epL (l:List Se):List Dk:=(l.filter λs=>decide (s.kind=3)).map λs=>s.com
theorem n1j{l:List Se}{s:Se}(h:l[j]? =some s)(e:s.kind=3):epL (l.take (j+1))=epL (l.take j)++[s.com]:=by unfold epL;rw[np h,List.filter_append];simp[e]
theorem nEm{l:List Se}{s:Se}(h:l[j]? =some s)(e:¬s.kind=3):epL (l.take (j+1))=epL (l.take j):=by unfold epL;rw[np h,List.filter_append];simp[e]
theorem MA(l:List Se):(epL l).length<=l.length:=by unfold epL;rw[eK];exact Sd _ _
theorem n3p(hZ:FxOk Z)(r:eF)(hr:fG r)(N:Nat)(w:World)(hN:N<=w.heap.size)(hrA:fH N w r)(hg:Glb w)(a0 a1:Addr)(hse:Sen w a0 a1)(dv:Int)(kC:(r.fs Z dv).length<=200):Calls prog 21 #[.agg (rdA r),ab dv] w (λe w'=>∃ls,mM (r.D Z) (r.fs Z dv) 71000 ls/\aD w cZ 32 33 (epL (cI ls)) id e w'):=by
 refine eN func21 ntmps21 ?_;refine cK 2 ?_;intro b2 w2 dz bY ft dL dH;refine B 5 ?_;refine eS 7 3 [4,5] (sp:=((some (.agg (rdA r)))::(some (.agg (rdA r)))::_)) (h:=?_);intro _ _ hk;refine nH (enc:=dX) (m:=35) (t:=35) (xs:=(r.fs Z dv)) (v:=id) (first:=[]) (cap:=[]) rfl call11 rfl rfl rfl nv (λW hS=>nxg hZ r hr N W cR (hrA.up (aj _) hS.sm) (hg.old hS A1 zF trivial) dv) ?_;intro Wf af cf wf br bz Av Py;refine zG ?_;intro _ _ hk;have Pz:ai seA 35 wf.heap.size wf af (r.fs Z dv):=Av;refine MB (enc:=dX) (m:=35) (t:=35) (v:=id) (Φ:=λ_ _ zs=>∃ls,mM (r.D Z) (r.fs Z dv) 71000 ls/\zs=cI ls) call15 rfl rfl rfl nv (λW hS=>(nze hZ r hr W.heap.size W (aj _) (hrA.up cR hS.sm) (hg.old hS A2 zF trivial) a0 a1 (hse.old hS A2) af (r.fs Z dv) cf aa (Av.up (hS.links wf A0).size (hS.same A0 (aj _) zF trivial))).mono ?_) ?_
 ·rintro e w' ⟨ls,h1,h2⟩;exact⟨cI ls,⟨ls,h1,rfl⟩,h2⟩
 rintro Wq zs Pw JH wq Cn RM ⟨ls,mN,rfl⟩ J OU;refine zG ?_;intro _ _ hk;refine B 1 ?_;refine zE ?_;have TX:=mN.ln;have al:=ngg ls;obtain⟨zs,uw⟩:∃zs,cI ls=zs:=⟨_,rfl⟩;rw[uw]at J al ⊢;have J:ai seA 35 wq.heap.size wq Pw zs:=J;refine B 3 ?_;refine CJ.loop (α:=Rw×Nat) (λp=>[(4,p.1.val (epL (zs.take p.2)).length),(11,.slice Pw zs.length JH),(12,ab (zs.length:Int)),(13,ab (p.2:Int))]) (λp=>p.1.hp cZ 33 (epL (zs.take p.2))++[]) (λp=>[wq,wf,w2,w]) (λp=>Gh.no) (λp=>p.2<=zs.length/\p.1.Fr Gh.no [wq,wf,w2,w]/\p.1.Fit 32 (epL (zs.take p.2))) (λp=>zs.length-p.2) (.nil,0) ⟨cO _,True.intro,rfl⟩ zR rfl rfl zI ?_;rintro⟨ro,j⟩ ⟨hj,aK,ae⟩;dsimp only at hj aK ae ⊢;have bK:ro.ge wq.heap.size:=Rw.ge_of aK A0;refine aG 6 ?_ ?_
 ·intro av;refine B 5 ?_;obtain⟨bo,oo,bw,to,fg,ez,fh,bX,aR⟩:=J.get aa;obtain⟨x,hx⟩:=ng zs j aa;refine B 1 ?_;refine rv rfl rfl rfl (bC underlying38 sizeOf35 (congrArg (λq=>some (Value.slice q zs.length JH)) ez) rfl aa aa) ?_;refine du (.agg (seA x)) ?_;refine bM 1 ?_;intro b6 ky rh;refine aF 6 (ab x.kind) ?_;refine aG 3 ?_ ?_
  ·intro aS;refine aF 3 (.agg (dg (fq x.com))) ?_;refine z2d ?_;refine yW ?_;intro an Yu QX;refine jV (r:=ro) (xs:=(epL (zs.take j))) (zs:=[(dk (fq x.com))]) (enc:=cZ) (m:=32) (H0:=[(an,oC (dg (fq x.com)) 33),(b6,oC (seA x) 35)]) (H1:=[]) zW ndj yj rfl rfl rfl rfl (ck.one (z:=dk (fq x.com)) yj WG underlying72 (bF.own (i:=0) rfl)) ae aK zI (by have h9:=MA (zs.take j);rw[kU]at h9;simp only[dI,fJ];omega) ?_;intro lV u3 mI qC rP;replace qC:=yb qC;refine zd ?_;refine PJ.again (Rw.row lV u3 mI,j+1) ⟨by dsimp only;omega,qC.elim (λh=>Rw.Fr_at aK h) (λh=>.inr h),by dsimp only;rw[n1j hx cY,<-DA x.com];exact rP⟩ zS ⟨by dsimp only;rw[n1j hx cY,<-DA x.com];rfl,rfl,rfl,rfl,trivial⟩ (by dsimp only;rw[n1j hx cY,<-DA x.com];rfl) rfl zI
  intro aS;refine xW ?_;refine PJ.again (ro,j+1) ⟨by dsimp only;omega,aK,by dsimp only;rw[nEm hx cY];exact ae⟩ zS ⟨by dsimp only;rw[nEm hx cY];rfl,rfl,rfl,rfl,trivial⟩ (by dsimp only;rw[nEm hx cY];rfl) rfl zI
 intro av;refine B 6 ?_;have cH:zs.take j=zs:=iC aa;rw[cH,<-uw]at ae ⊢;refine B 6 ?_;exact bS (.inl rfl) results21 bD λW hS=>⟨ls,mN,ro,rfl,hS.base A3 (by rw[ec];exact Rw.over (Rw.ge_of aK A3)),Rw.ge_of aK A3,ae,by cases ro with|nil=>exact True.intro|row b cap sp=>exact hS.own _ A0⟩
def xw (r:eF):Bool:=decide (r.fos.length<=3)&&CC r.cs&&decide (r.gs.length<=4)&&decide (r.xs.length<=4)&&decide (r.os.length<=20)&&r.gs.all λg=>decide (g.olds.length<=6)
structure Aw (r:eF):Prop where
 f:r.fos.length<=9223372036854775807
 g:r.gs.length<=9223372036854775807
 x:r.xs.length<=9223372036854775807
 o:r.os.length<=9223372036854775807
 c:∀c∈r.cs,Gx c
theorem nGj(r:eF)(hl:Aw r)(N:Nat)(w:World)(hN:N<=w.heap.size)(hrA:fH N w r):Calls prog 8 #[.agg (rdA r)] w (aU w (.bool (xw r))):=by
 refine eN func8 ntmps8 ?_;refine cK 2 ?_;intro b1 w1 hb1 cN gV gb jJ;refine aF 7 (.slice r.fa r.fos.length r.fc) ?_;refine B 3 ?_;refine ni (t:=8) rfl (λav=>?_) (λav=>?_)
 ·replace av:=ya av;refine B 33 ?_;exact TY
 replace av:=ya av;refine aF 1 (.slice r.la r.cs.length r.lc) ?_;refine call call25 rfl rfl rfl (λW hS=>LX r.cs hl.c N r.la r.lc W cR (hrA.c.up (aj _) hS.sm) (λc hc=>(hrA.C c hc).up (aj _) hS.sm)) ?_;refine B 3 ?_;refine ni (t:=14) rfl (λaS=>?_) (λaS=>?_)
 ·replace aS:=ya aS;refine B 27 ?_;exact TY
 replace aS:=ya aS;refine B 1 ?_;refine z2e ?_;refine B 4 ?_;refine ni (t:=20) rfl (λdh=>?_) (λdh=>?_)
 ·replace dh:=ya dh;refine B 21 ?_;exact TY
 replace dh:=ya dh;refine aF 1 (.slice r.ia r.xs.length r.ic) ?_;refine B 4 ?_;refine ni (t:=26) rfl (λJ=>?_) (λJ=>?_)
 ·replace J:=ya J;refine B 15 ?_;exact TY
 replace J:=ya J;refine aF 1 (.slice r.oa r.os.length r.oc) ?_;refine aG 5 ?_ ?_
 ·intro gU;refine B 7 ?_;exact TY
 intro gU;refine B 9 ?_;refine CJ.lp (α:=Nat) [1] (λj=>[(3,ab (j:Int))]) (λj=>[]) (λj=>j<=r.gs.length/\(r.gs.take j).all (λg:Gr=>decide (g.olds.length<=6))=true) (λj=>r.gs.length-j) 0 ⟨cO _,rfl⟩ ?_;rintro j ⟨hj,Aq⟩;refine B 5 ?_;refine z2e ?_;refine aG 4 ?_ ?_
 ·intro kY;refine B 5 ?_;have an:=hrA.g;obtain⟨bg,og,a8,tg,ay,aq,CF,al,kN⟩:=an.get aa;obtain⟨g,Mt⟩:=ng r.gs j aa;refine B 2 ?_;refine rq (.slice (some ⟨bg,og,none⟩) r.gs.length r.gc) (ar isAgg25 rfl A0 hb1 cN trivial rfl) (by show Value.slice r.ga r.gs.length r.gc=_;rw[aq]) ?_;refine B 3 ?_;refine rv rfl rfl rfl (ar (v:=.slice g.oa g.olds.length g.oc) isAgg85 rfl A1 al zH trivial (by have:=uA kN Mt rfl 36 zz;simpa[tW]using this)) ?_;refine aG 4 ?_ ?_
  ·intro jU;refine B 11 ?_;exact TY
  intro jU;refine B 8 ?_;refine ag (j+1) ⟨by omega,npg Aq Mt (decide_eq_true aa)⟩
 intro kY;refine B 6 ?_;have cH:=nsh Aq aa;refine B 5 ?_;exact TY
theorem n6f(a:Int)(k:Nat)(m:Int):(a%m)^k%m=a^k%m:=by
 induction k with
 |zero=>rw[Int.pow_zero,Int.pow_zero]
 |succ k ih=>rw[Int.pow_succ,Int.pow_succ,Int.mul_emod,ih,Int.emod_emod,<-Int.mul_emod]
theorem nBo(h:eo a):a^2305843009213688669%4611686018427377339=1:=by grind [nIj]
theorem MC(h:eo a)(k:Nat):a^k%4611686018427377339=a^(k%2305843009213688669)%4611686018427377339:=by
 have h1:∀q r:Nat,a^(2305843009213688669*q+r)%4611686018427377339=a^r%4611686018427377339:=by
  intro q r;have h0:=nBo h
  revert h0
  generalize (2305843009213688669:Nat)=Q;intro h0;rw[Int.pow_add,Int.pow_mul,Int.mul_emod,<-n6f (a^Q) q,h0,Int.one_pow];simp
 all_goals grind [Nat.div_add_mod]
theorem MD(h:eo a)(k:Nat):eo (a^k%4611686018427377339):=by
 have hb:0<=a^k%4611686018427377339/\a^k%4611686018427377339<4611686018427377339:=⟨Int.emod_nonneg _ zz,Int.emod_lt_of_pos _ zz⟩;have h1:uU (a^k%4611686018427377339) 2305843009213688669 4611686018427377339=1:=by
  rw[nIj _ _ _ zz zz];show _^(2305843009213688669:Nat)%_=_;have h0:=nBo h
  revert h0
  generalize (2305843009213688669:Nat)=Q;intro h0;rw[n6f,<-Int.pow_mul,I7,Int.pow_mul,<-n6f (a^Q),h0,Int.one_pow];rfl
 refine⟨?_,hb.2,h1⟩;rcases Int.lt_or_le 0 (a^k%4611686018427377339)with h2|h2
 ·omega
 have h3:a^k%4611686018427377339=0:=by omega
 rw[h3]at h1;exact absurd h1 (by decide +kernel)
theorem geP(hZ:FxOk Z)(h:eo a){k:Int}(hk:qZ k):(Z.ge a k).1=a^k.toNat%4611686018427377339:=by
 rw[<-hZ.ge];unfold gExp;rw[if_pos h,if_pos hk];exact nIj a _ _ hk.1 zz
theorem PA(hZ:FxOk Z)(h:eo a){k:Int}(hk:qZ k):eo (Z.ge a k).1:=by rw[geP hZ h hk];exact MD h _
theorem Xb(hZ:FxOk Z){k:Int}(hk:qZ k):eo (Z.ge 4 k).1:=PA hZ B0 hk
theorem ME(hZ:FxOk Z){x:Int}(hx:D7 x)(msg:List UInt8):pD Z (Z.ge 4 x).1 msg (rO Z x msg) (wQ Z x msg)=true:=by
 have hn:=hZ.bd (⟨#[110,111,110,99,101]⟩:ByteArray) (AU [x]++msg);have hc:∀r p,1<=Df Z r p msg/\Df Z r p msg<2305843009213688669:=λr p=>hZ.bd _ _;unfold wQ rO;have hk:qZ (De Z x msg):=⟨by have:=hn.1;unfold De;omega,hn.2⟩;have OY:qZ x:=⟨by omega,hx.2⟩;generalize De Z x msg=k at hk;have Ke:=hc (Z.ge 4 k).1 (Z.ge 4 x).1;unfold pD;generalize Df Z (Z.ge 4 k).1 (Z.ge 4 x).1 msg=e at Ke;have J:qZ e:=⟨by omega,Ke.2⟩;have hm:qZ (e*x%2305843009213688669):=⟨Int.emod_nonneg _ zz,Int.emod_lt_of_pos _ zz⟩;have h1:(qA e x).1=e*x%2305843009213688669:=by unfold qA;rw[if_pos ⟨J,OY⟩]
 have h2:(rG k (qA e x).1).1=(k+e*x%2305843009213688669)%2305843009213688669:=by unfold rG;rw[h1,if_pos ⟨hk,hm⟩]
 rw[h2];have hs:qZ ((k+e*x%2305843009213688669)%2305843009213688669):=⟨Int.emod_nonneg _ zz,Int.emod_lt_of_pos _ zz⟩;have gr:=Xb hZ hk;have gp:=Xb hZ OY;refine decide_eq_true ⟨gp,gr,hs,?_⟩;have g2:=PA hZ gp J;have e1:(tA (Z.ge 4 k).1 (Z.ge (Z.ge 4 x).1 e).1).1=(Z.ge 4 k).1*(Z.ge (Z.ge 4 x).1 e).1%4611686018427377339:=by unfold tA;rw[if_pos ⟨gr,g2⟩]
 rw[e1,geP hZ gp J,geP hZ B0 hk,geP hZ B0 OY,geP hZ B0 hs,n6f,<-Int.mul_emod,<-Int.pow_mul,<-Int.pow_add,MC B0 (k.toNat+x.toNat*e.toNat)];congr 2;have e2:((k+e*x%2305843009213688669)%2305843009213688669)=(k+e*x)%2305843009213688669:=by rw[Int.add_emod_emod]
 rw[e2];have e3:k+e*x=((k.toNat+x.toNat*e.toNat:Nat):Int):=by
  rw[Int.natCast_add,Int.natCast_mul,Int.toNat_of_nonneg hk.1,Int.toNat_of_nonneg OY.1,Int.toNat_of_nonneg J.1,Int.mul_comm]
 rw[e3];omega

def aZ (s:Value) (r:Int):Array Value:=#[s,ab 0,.int .i8 r]
def jA (n:Nat):List Value:=List.replicate n (C6)
theorem MF(bI:Nat)(lr:Int)(t:Nat)(fr:Nat×Nat)(w:World)(J:w.heap[bI]? =some (.cells (aZ (ak) lr) t fr)):Calls prog 309 #[ptr bI 0] w (aU w (ab 0)):=by
 have xO:¬Gh.no.X bI:=λh=>h;refine ei 6 func309 ntmps309 ?_;refine eA 9 (k:=?_);refine B 5 ?_;refine aL results309 rfl A0 ?_;rfl
theorem n3h(bI:Nat)(lr:Int)(t:Nat)(fr:Nat×Nat)(n:Nat)(hn:0<n)(w:World)(J:w.heap[bI]? =some (.cells (aZ (ak) lr) t fr)):Calls prog 269 #[ptr bI 0,ab (n:Int)] w (aU w (.tuple #[ab 0,bH])):=by
 exact zth
theorem ncn(bI bR m c n:Nat)(J:Int)(t:Nat)(hc:m+n<=c)(aS:c<=1000000)(w:World)(hb:w.heap[bI]? =some (oC (aZ (bW bR m c) J) t)):Calls prog 269 #[ptr bI 0,ab (n:Int)] w (mO w [bI] (λ_:Unit=>.tuple #[ab (m:Int),cD]) (λ_=>[(bI,oC (aZ (bW bR (m+n) c) J) t)]) (λ_=>True)):=by
 have jq:=(bB.1 hb).1;refine nB (vs:=[_,_]) (Gh.lent (λk=>k∈keys [(bI,oC (aZ (bW bR m c) J) t)])) [(bI,oC (aZ (bW bR m c) J) t)] func269 rfl ntmps269 rfl (HF (fP.mem ⟨hb,trivial⟩) (EL _)) ?_;refine B 27 ?_;refine YZ ?_;refine du (ab ((m+n:Nat):Int)) ?_;refine rv rfl rfl rfl (fM (h:=m+n) underlying106 sizeOf5 rfl ⟨_,_,rfl,rfl⟩ aa) ?_;refine B 2 ?_;refine kT (i:=0) rfl sizeOf106 rfl rfl rfl rfl (er rfl) rfl ?_;refine B 11 ?_;exact tY (Hz:=[(bI,oC (aZ (bW bR m c) J) t)]) (H0:=[]) () (.inl rfl) results269 bD A0 JI rfl z7b
theorem mkz(c:Nat):cf c (λ_=>C6)=(ub ([]:List UInt8)++jA c).toArray:=by
 apply Array.ext';simp[cf,ub,jA,List.map_const']
theorem n3f(c n:Nat):(jA c).drop n=jA (c-n):=by simp[jA,List.drop_replicate]
theorem PC(n:Nat):(jA n).length=n:=by simp[jA]
theorem n1f(xs zs:List UInt8)(sp:List Value)(h:zs.length<=sp.length):setCells (ub xs++sp).toArray xs.length (ub zs)=(ub (xs++zs)++sp.drop zs.length).toArray:=by
 apply Array.ext';rw[nZ];show jT (ub xs++sp) xs.length (ub zs)=ub (xs++zs)++sp.drop zs.length;have J:sp=sp.take zs.length++sp.drop zs.length:=(Ba _ _).symm;all_goals grind [wP,nHd,HG]
theorem HH(bI n:Nat)(J:Int)(t:Nat)(aq:0<n)(hn:n<=64)(w:World)(hb:w.heap[bI]? =some (oC (aZ (ak) J) t)):Calls prog 270 #[ptr bI 0,ab (n:Int)] w (mO w [bI] (λ_:Nat=>ab 0) (λbR=>[(bI,oC (aZ (bW bR n 64) J) t),(bR,oC (cf 64 (λ_=>C6)) 5)]) (λ_=>True)):=by
 have jq:=(bB.1 hb).1;refine nB (vs:=[_,_]) (Gh.lent (λk=>k∈keys [(bI,oC (aZ (ak) J) t)])) [(bI,oC (aZ (ak) J) t)] func270 rfl ntmps270 rfl (HF (fP.mem ⟨hb,trivial⟩) (EL _)) ?_;refine B 8 ?_;refine call call309 rfl rfl rfl (λW hS=>MF bI J _ _ W (hS.own _ A0)) ?_;refine B 7 ?_;refine VR ?_;refine du bH ?_;refine B 11 ?_;refine call call269 rfl rfl rfl (λW hS=>n3h bI J _ _ n aq W (hS.own _ A0)) ?_;refine B 22 ?_;refine rv rfl rfl rfl (TZ underlying106 rfl rfl) ?_;refine aF 2 cD ?_;refine B 8 ?_;refine XU (ln:=n) (cp:=64) underlying106 Vn rfl rfl rfl rfl rfl rfl rfl aa zz aa ?_;intro ay al an;replace al:=yb al;try simp only[bN,ne_eq,and_true]at an
 refine B 2 ?_;refine zQe ?_;refine B 9 ?_;refine PJ.swp ?_;exact tY (Hz:=[(bI,oC (aZ (ak) J) t)]) (H0:=[]) ay (.inl rfl) results270 bD A0 JI rfl z7b
theorem Rd.seg{C:Cx}{G:Gh}{H:ad}{b off c:Nat}{zs:List UInt8}{w1:World}(hm:w1∈L)(h:cC w1 b off zs)(hG:¬G.X b)(hO:bN H b):Rd C G L H 1 zs.length (.slice (some ⟨b,off,none⟩) zs.length c) (ub zs):=by
 obtain⟨cs,t,fr,h1,h2,h3⟩:=h;all_goals grind [Rd.old,nqk,n8n]
theorem MG(zs:List UInt8):bG (ub zs)=true:=by induction zs<;>grind [ub,bG,yN]
theorem nll(bI:Nat)(J:Int)(t:Nat)(zs:List UInt8)(bz oz cz:Nat)(hz0:0<zs.length)(gV:zs.length<=64)(w:World)(hb:w.heap[bI]? =some (oC (aZ (ak) J) t))(sD:cC w bz oz zs)(hne:bz≠bI):Calls prog 208 #[ptr bI 0,.slice (some ⟨bz,oz,none⟩) zs.length cz] w (mO w [bI] (λ_:Nat=>.tuple #[ab (zs.length:Int),.nilIface]) (λbR=>[(bI,oC (aZ (bW bR zs.length 64) 0) t),(bR,aV 5 zs (jA (64-zs.length)))]) (λ_=>True)):=by
 have jq:=(bB.1 hb).1;have aI:=sD.lt;refine nB (vs:=[_,_]) (Gh.lent (λk=>k∈keys [(bI,oC (aZ (ak) J) t)])) [(bI,oC (aZ (ak) J) t)] func208 rfl ntmps208 rfl (HF (fP.mem ⟨hb,trivial⟩) (EL _)) ?_;refine B 11 ?_;refine zRe ?_;refine B 7 ?_;refine call call269 rfl rfl rfl (λW hS=>n3h bI 0 _ _ zs.length hz0 W (hS.own _ A0)) ?_;refine B 19 ?_;refine CR (Hz:=[(bI,oC (aZ (ak) 0) t)]) (H0:=[]) (first:=[]) (cap:=[]) (v:=λ_:Nat=>ab 0) (Hn:=λbR=>[(bI,oC (aZ (bW bR zs.length 64) 0) t),(bR,oC (cf 64 (λ_=>C6)) 5)]) (Φ:=λ_=>True) rfl rfl call270 rfl rfl rfl ⟨.inl T0,trivial⟩ (λW hS=>HH bI zs.length 0 t hz0 gV W (hS.own _ A0)) ?_;rintro bR-jX;have xx:bR=bI\/w.heap.size<=bR:=by
  rcases jX (bR,_) A1 with h|h
  ·left;simpa[keys]using h
  right;exact h.1.1
 refine OJ.reH (H':=[(bI,oC (aZ (bW bR zs.length 64) 0) t),(bR,aV 5 [] (jA 64))]) (by rw[mkz];rfl) ?_;refine B 10 ?_;refine rv rfl rfl rfl (gy (l:=0) (h:=zs.length) (off':=0) underlying106 sizeOf5 rfl ⟨_,_,rfl,rfl⟩ rfl aa aa XR) ?_;refine B 1 ?_;refine Vm (i:=1) (m:=1) (n:=zs.length) (k:=zs.length) (news:=ub zs) rfl underlying106 sizeOf5 rfl rfl rfl rfl (λ_=>rfl) aa (Rd.seg A0 sD yw zy) (by simp only[rf,cB,wP,PC];omega) (MG _) ?_;refine B 5 ?_;refine PJ.reH (H':=[(bI,oC (aZ (bW bR zs.length 64) 0) t),(bR,aV 5 zs (jA (64-zs.length)))]) (by have:=n1f [] zs (jA 64) (by rw[PC];omega);simp only[fJ,eY]at this;simp only[eh,dA,aV];rw[this,n3f]) ?_;exact tY (Hz:=[(bI,oC (aZ (ak) J) t)]) (H0:=[]) bR (.inl rfl) results208 bD A0 JI rfl z7b
theorem nMg(bI bR t:Nat)(xs:List UInt8)(sp:List Value)(zs:List UInt8)(J oz cz:Nat)(gV:xs.length+zs.length<=64)(wG:sp.length=64-xs.length)(hx:xs.length<64)(w:World)(hb:w.heap[bI]? =some (oC (aZ (bW bR xs.length 64) 0) t))(xx:w.heap[bR]? =some (aV 5 xs sp))(wH:bI≠bR)(sD:cC w J oz zs)(hne:J≠bI)(tO:J≠bR):Calls prog 208 #[ptr bI 0,.slice (some ⟨J,oz,none⟩) zs.length cz] w (mO w [bI,bR] (λ_:Unit=>.tuple #[ab (zs.length:Int),.nilIface]) (λ_=>[(bI,oC (aZ (bW bR (xs++zs).length 64) 0) t),(bR,aV 5 (xs++zs) (sp.drop zs.length))]) (λ_=>True)):=by
 have jq:=(bB.1 hb).1;have Ep:=(bB.1 xx).1;have aI:=sD.lt;refine nB (vs:=[_,_]) (Gh.lent (λk=>k∈keys [(bI,oC (aZ (bW bR xs.length 64) 0) t),(bR,aV 5 xs sp)])) [(bI,oC (aZ (bW bR xs.length 64) 0) t),(bR,aV 5 xs sp)] func208 rfl ntmps208 rfl (HF (fP.mem ⟨hb,xx,trivial⟩) (W4 wH)) ?_;refine B 11 ?_;refine zRe ?_;refine B 7 ?_;refine CR (Hz:=[(bI,oC (aZ (bW bR xs.length 64) 0) t)]) (H0:=[(bR,aV 5 xs sp)]) (first:=[]) (cap:=[]) (v:=λ_:Unit=>.tuple #[ab (xs.length:Int),cD]) (Hn:=λ_=>[(bI,oC (aZ (bW bR (xs.length+zs.length) 64) 0) t)]) (Φ:=λ_=>True) rfl rfl call269 rfl rfl rfl ⟨.inl T0,trivial⟩ (λW hS=>ncn bI bR xs.length 64 zs.length 0 t aa zz W (hS.own _ A0)) ?_;rintro _-jX;refine OJ.reH (H':=[(bI,oC (aZ (bW bR (xs.length+zs.length) 64) 0) t),(bR,aV 5 xs sp)]) rfl ?_;refine B 24 ?_;refine rv rfl rfl rfl (gy (l:=xs.length) (h:=xs.length+zs.length) (off':=xs.length) underlying106 sizeOf5 rfl ⟨_,_,rfl,rfl⟩ rfl aa aa zCc) ?_;refine B 1 ?_;refine Vm (i:=1) (m:=1) (n:=zs.length) (k:=zs.length) (news:=ub zs) rfl underlying106 sizeOf5 rfl rfl rfl rfl (λ_=>rfl) aa (Rd.seg A0 sD yw zy) (by simp only[rf,cB,wP];omega) (MG _) ?_;refine B 5 ?_;refine PJ.reH (H':=[(bI,oC (aZ (bW bR (xs++zs).length 64) 0) t),(bR,aV 5 (xs++zs) (sp.drop zs.length))]) (by have:=n1f xs zs sp aa;show[(bI,_),(bR,Obj.cells (setCells (ub xs++sp).toArray xs.length (ub zs)) _ _)]=_;rw[this,cB];first|done|rfl) ?_
 exact tY (Hz:=[(bI,oC (aZ (bW bR xs.length 64) 0) t),(bR,aV 5 xs sp)]) (H0:=[]) () (.inl rfl) results208 bD A0 JI rfl z7b
theorem nsp(bI bR n:Nat)(lr:Int)(t:Nat)(fr:Nat×Nat)(hn:n<=64)(w:World)(J:w.heap[bI]? =some (.cells (aZ (bW bR n 64) lr) t fr)):Calls prog 271 #[ptr bI 0] w (aU w (bW bR n 64)):=by
 have xO:¬Gh.no.X bI:=λh=>h;refine ei 6 func271 ntmps271 ?_;refine eA 8 (k:=?_);refine rv rfl rfl rfl (gy (l:=0) (h:=n) (off':=0) underlying106 sizeOf5 rfl ⟨_,_,rfl,rfl⟩ rfl aa aa XR) ?_;refine B 4 ?_;refine aL results271 rfl A0 ?_;rfl
end Px
