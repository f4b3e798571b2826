/- Memory, operations, iterators, slices, maps. No condition beyond those stated. -/
import Derived.Test.YtpgobjebhigaoaaGreatDoorXc
import Derived.Shelf.SlSortCmp.NoneTotal
import Derived.Maps.RangeRun
import Derived.WideKeyRuns
import Derived.Sort.Grow
import Derived.Deep.Draws
set_option linter.unusedSimpArgs false
set_option linter.unusedVariables false
set_option linter.unusedSectionVars false
set_option linter.unnecessarySimpa false
set_option maxRecDepth 20000
set_option maxHeartbeats 8000000
namespace Px
open Go Go.RowKit
/-! ### iterators whose consumer lays blocks on the way -/
abbrev aB:=Nat->Prop
def oI (V:aB) (W1 W2:World):aB:=λk=>V k\/(W1.heap.size<=k/\k<W2.heap.size)
def vm (P:Program) (f:Nat) (cap:List Value) {α:Type} (enc:α->List Value) (Pre Fin:List α->Prop) (MI RO:aB) (W:World):Prop:=
 ∀(l:Nat) (M:aB) (I:List α->aB->World->Prop) (X:aB->World->Prop),
  (∀k,M k->k<W.heap.size/\¬MI k/\¬RO k)->
  (∀pre V,eA (λk=>(k<W.heap.size/\¬MI k)\/V k) (I pre V))->(∀V,eA (λk=>(k<W.heap.size/\¬MI k)\/V k) (X V))->
  (∀pre x V W1,Pre (pre++[x])->(∀k,V k->W.heap.size<=k/\k<W1.heap.size)->I pre V W1->JZ P l (enc x).toArray W1 (λb W2=>aI (λk=>M k\/V k) W1 W2/\(if b then I (pre++[x]) (oI V W1 W2) W2 else X (oI V W1 W2) W2)))->
  I [] (λ_=>False) W->
  Calls P f (yv l::cap).toArray W (λe W'=>(∃v,e= .returned v)/\aI (λk=>M k\/MI k) W W'/\∃V,(∃xs,Fin xs/\I xs V W')\/X V W')
abbrev xW {α:Type} (xs:List α):List α->Prop:=(· <+:xs)
abbrev Is {α:Type} (xs:List α):List α->Prop:=(· =xs)
variable {aD:Array Edge} {ea:Array Nat} {os:Array Obj} {cs:Array Value} {assign body y:Code} {C:Cx} {R:Ending->World->Prop} {E:Env} {G:Gh} {H H' H0:ae} {eB:List (List Nat)} {Ph:List (Option Value)->List World->ae->Prop} {D:List Deferred} {bs ch ds js rest:List Nat} {rs:List ResultVar} {sp us vs:List Value} {L:List World} {rec:Loop} {N N' T b e et f i j k kt m size tx ty u:Nat} {fr:Nat×Nat} {MI RO:Nat->Prop} {o:Obj} {fv x:Operand} {a:Option Addr} {r:Rw} {pos:String} {sv v zv:Value} {W W' w':World} {I:World->Prop}
theorem St.yield2{G':Gh}(h:St G L H W)(hk:aI G.M W W')(hX:∀k,G.X k->G'.X k)(hX':∀k,G'.X k->G.X k\/(W.heap.size<=k/\k<W'.heap.size))(hV:∀k,G'.V k->G.V k\/(W.heap.size<=k/\k<W'.heap.size))(hR:G'.R W'):St G' L H W' where
 ghost:=hR
 vlt:=λk hv=>by
  rcases hV k hv with h1|h1
  ·exact kJ (h.vlt k h1) hk.size
  exact h1.2
 xlt:=λk hv=>by
  rcases hX' k hv with h1|h1
  ·exact kJ (h.xlt k h1) hk.size
  exact h1.2
 links:=λw hw=>((h.links w hw).mono (Y:=λk=>G'.X k\/k∈H.map (·.1)) λk _ hx=>hx.imp (hX k) id).trans (hk.mono λk _ hm=>.inl (hX k (G.subX k hm)))
 own:=λp hp=>by rw[hk.block p.1 (h.lt p hp) (λhm=>h.apart p hp (G.sub _ hm))];exact h.own p hp
 nodup:=h.nodup
 apart:=λp hp hv=>by
  rcases hV _ hv with h1|h1
  ·exact h.apart p hp h1
  have:=h.lt p hp;omega
section
variable {C:Cx} {Q:aG} {E:Env} {D:List Deferred} {G:Gh} {L:List World} {H:ae} {ops:Array Oper} {l:List Oper}
variable {d ty:Nat} {pos:String} {aD:Array Edge} {g:Option (Nat×Bool)} {x:Operand} {xs:List Operand} {vs:List Value} {ea:Array Nat}
structure Next (G:Gh) (W W':World) (G':Gh):Prop where
 x:∀k,G.X k->G'.X k
 x':∀k,G'.X k->G.X k\/(W.heap.size<=k/\k<W'.heap.size)
 v:∀k,G'.V k->G.V k\/(W.heap.size<=k/\k<W'.heap.size)
 r:G'.R W'
theorem Od{y:Nat}(T1 T2:Gh->Prop)(hw:nq ops E g=some true)(hN:Nat.blt d C.N=true)(hx:ev E x=some (yv y))(ha:iv E xs=some vs)(hy:∀W,St G L H W->JZ C.P y vs.toArray W (λb W'=>aI G.M W W'/\∃G',(if b then T1 G' else T2 G')/\Next G W W' G'))(k1:∀G',T1 G'->OJ C ops Q l ((d,.bool true)::E) D G' L H)(k2:∀G',T2 G'->OJ C ops Q l ((d,.bool false)::E) D G' L H):OJ C ops Q (⟨some d,.call ⟨.value x,xs.toArray,ea⟩,ty,pos,aD,g⟩::l) E D G L H:=by
 intro a W iu hD hF hS;obtain⟨fn,tmps,assign,body,gy,gz⟩:=hy W hS;unfold wpListIn;rw[if_pos (uW hF hw)];refine⟨λ_ _=>trivial,?_⟩;have hr:(execOp a.eval ⟨some d,.call ⟨.value x,xs.toArray,ea⟩,ty,pos,aD,g⟩).run C.P W= .ok (.round y fn tmps assign body) W:=by
  exact ztk
 rw[Oper.semAt_eq _ _ _ z1,hr,Oper.uponIn_round];refine⟨by simp,(nQi gz).mono ?_⟩;rintro e W' ⟨b,rfl,hk,G',hT,hn⟩;have bT:=λv=>hF.put (d:=d) v lM;have fZ:=hS.yield2 hk hn.x hn.x' hn.v hn.r;cases b with
 |true=>exact k1 G' hT (a.put (some d) (.bool true)) W' kO jW (bT _) fZ
 |false=>exact k2 G' hT (a.put (some d) (.bool false)) W' kO jW (bT _) fZ
end
def cj {W:World} {MI RO M:aB} (hM:∀k,M k->k<W.heap.size/\¬MI k/\¬RO k) (V:aB) {R:World->Prop} (hR:eA (λk=>(k<W.heap.size/\¬MI k)\/V k) R):Gh where
 M:=λk=>M k\/V k
 V:=λk=>(k<W.heap.size/\¬MI k)\/V k
 R:=R
 X:=λk=>M k\/V k
 sub:=λk hk=>hk.imp (λh=>⟨(hM k h).1,(hM k h).2.1⟩) id
 subX:=λ_ hk=>hk
 stab:=hR
def Gh.ext (G:Gh) (Z:aB):Gh:={G with X:=λk=>G.X k\/Z k,subX:=λk h=>.inl (G.subX k h)}
theorem Rw.Fr_ext{α:Type}{enc:α->List Value}{t:Nat}{xs:List α}{Z:aB}(h:∀p∈r.hp enc t xs,Z p.1):r.Fr (G.ext Z) L:=by
 cases r with
 |nil=>trivial
 |row b cap sp=>exact .inl (.inr (h (b,cD enc t xs sp) vv))
variable {M:aB}
theorem IP{MI RO:aB}(hM:∀k,M k->k<W.heap.size/\¬MI k/\¬RO k){R:World->Prop}(hR:eA (λk=>(k<W.heap.size/\¬MI k)\/(λ_=>False) k) R)(h0:R W)(ho:∀p∈H,W.heap[p.1]? =some p.2)(hd:qQ H)(hm:∀p∈H,MI p.1):St (cj hM (λ_=>False) hR) [W] H W where
 ghost:=h0
 vlt:=λk hk=>by rcases hk with h|h;exact h.1;exact h.elim
 xlt:=λk hk=>by rcases hk with h|h;exact(hM k h).1;exact h.elim
 links:=λw hw=>by simp at hw;subst hw;exact aI.refl _ _
 own:=ho
 nodup:=hd
 apart:=λp hp hv=>by rcases hv with h|h;exact h.2 (hm p hp);exact h.elim
section
variable {C:Cx} {Q:aG} {E:Env} {D:List Deferred} {L:List World} {H:ae} {ops:Array Oper} {l:List Oper}
variable {d ty:Nat} {pos:String} {aD:Array Edge} {g:Option (Nat×Bool)} {x:Operand} {xs:List Operand} {vs:List Value} {ea:Array Nat}
variable {W0:World} {MI RO M:aB} {hM:∀k,M k->k<W0.heap.size/\¬MI k/\¬RO k}
variable {I1 X1:aB->World->Prop}
theorem FA{y:Nat}{V:aB}{hI:eA (λk=>(k<W0.heap.size/\¬MI k)\/V k) I}(kI:∀V,eA (λk=>(k<W0.heap.size/\¬MI k)\/V k) (I1 V))(fk:∀V,eA (λk=>(k<W0.heap.size/\¬MI k)\/V k) (X1 V))(hV:∀k,V k->W0.heap.size<=k)(hw0:W0∈L)(hw:nq ops E g=some true)(hN:Nat.blt d C.N=true)(hx:ev E x=some (yv y))(ha:iv E xs=some vs)(hy:∀W1,(∀k,V k->W0.heap.size<=k/\k<W1.heap.size)->I W1->JZ C.P y vs.toArray W1 (λb W2=>aI (λk=>M k\/V k) W1 W2/\(if b then I1 (oI V W1 W2) W2 else X1 (oI V W1 W2) W2)))(k1:∀V2,(∀k,V2 k->W0.heap.size<=k)->OJ C ops Q l ((d,.bool true)::E) D (cj hM V2 (kI V2)) L H)(k2:∀V2,(∀k,V2 k->W0.heap.size<=k)->OJ C ops Q l ((d,.bool false)::E) D (cj hM V2 (fk V2)) L H):OJ C ops Q (⟨some d,.call ⟨.value x,xs.toArray,ea⟩,ty,pos,aD,g⟩::l) E D (cj hM V hI) L H:=by
 refine Od (λG'=>∃V2,(∀k,V2 k->W0.heap.size<=k)/\G'=cj hM V2 (kI V2)) (λG'=>∃V2,(∀k,V2 k->W0.heap.size<=k)/\G'=cj hM V2 (fk V2)) hw hN hx ha (λW1 hS=>?_) (by rintro _ ⟨V2,h2,rfl⟩;exact k1 V2 h2) (by rintro _ ⟨V2,h2,rfl⟩;exact k2 V2 h2);obtain⟨fn,tmps,assign,body,gy,gz⟩:=hy W1 (λk hk=>⟨hV k hk,hS.xlt k (.inr hk)⟩) hS.ghost;have h0:W0.heap.size<=W1.heap.size:=(hS.links W0 hw0).size;have hv:∀W2 k,oI V W1 W2 k->W0.heap.size<=k:=λW2 k hk=>by
  rcases hk with hk|hk
  ·exact hV k hk
  omega
 refine⟨fn,tmps,assign,body,gy,gz.mono ?_⟩;rintro e W2 ⟨b,rfl,hk,hb⟩;refine⟨b,rfl,hk,?_⟩;have YL:∀{p:aB} (k:Nat),(p k\/oI V W1 W2 k)->(p k\/V k)\/(W1.heap.size<=k/\k<W2.heap.size):=λk h=>h.elim (λh=>.inl (.inl h)) (λh=>h.elim (λh=>.inl (.inr h)) .inr);cases b with
 |true=>exact⟨cj hM (oI V W1 W2) (kI _),⟨_,hv W2,rfl⟩,⟨λk h=>h.imp id .inl,λk h=>YL (p:=M) k h,λk h=>YL (p:=λk=>k<W0.heap.size/\¬MI k) k h,hb⟩⟩
 |false=>exact⟨cj hM (oI V W1 W2) (fk _),⟨_,hv W2,rfl⟩,⟨λk h=>h.imp id .inl,λk h=>YL (p:=M) k h,λk h=>YL (p:=λk=>k<W0.heap.size/\¬MI k) k h,hb⟩⟩
theorem FB{fn:Func}{V:aB}{hI:eA (λk=>(k<W0.heap.size/\¬MI k)\/V k) I}{α:Type}{Fin:List α->Prop}{I':List α->aB->World->Prop}{X:aB->World->Prop}{e:Exit}(he:e= .ret\/e= .normal)(hr:fn.results=#[])(hw:W0∈L)(hV:∀k,V k->W0.heap.size<=k)(hH:∀k,k<W0.heap.size->k∈H.map (·.1)->MI k)(h:∀A,I A->(∃xs,Fin xs/\I' xs V A)\/X V A):PJ C (bodyPost C.P fn (λe W'=>(∃v,e= .returned v)/\aI (λk=>M k\/MI k) W0 W'/\∃V,(∃xs,Fin xs/\I' xs V W')\/X V W')) e E [] (cj hM V hI) L H:=by
 intro a W' _ hD _ hS;have key:bodyPost C.P fn (λe W'=>(∃v,e= .returned v)/\aI (λk=>M k\/MI k) W0 W'/\∃V,(∃xs,Fin xs/\I' xs V W')\/X V W') .normal a W':=by
  refine⟨hD,.tuple #[],results_none hr _ _ _,⟨_,rfl⟩,(hS.links W0 hw).mono λk hk hx=>?_,V,h W' hS.ghost⟩;exact z7k
 exact PU
end
/-! #### the consumer -/
section
variable {α:Type}
structure Loc (W1:World) (MI M V:aB) (G':Gh) (Hc:ae):Prop where
 v:∀k,G'.V k->(k<W1.heap.size/\¬MI k)\/V k
 x:∀k,G'.X k->M k\/V k
 h:∀p∈Hc,M p.1\/V p.1
def YM (W1:World) (MI M:aB) (L:List World) (Inv:List α->Gh->ae->Prop) (l:Nat) (rec:Loop) (bx:ae) (pre:List α) (V:aB) (W:World):Prop:=
 ∃G' Hc,Inv pre G' Hc/\Loc W1 MI M V G' Hc/\St G' L (book Hc l rec bx) W
def YN (W1:World) (MI M:aB) (L:List World) (bX:Code->Gh->ae->Prop) (l:Nat) (rec:Loop) (bx:ae) (V:aB) (W:World):Prop:=
 ∃c G' Hc,bX c G' Hc/\Loc W1 MI M V G' Hc/\St G' L (book Hc l {rec with state:=.done,pending:=some c} bx) W
def Oe (P:Program) (W1:World) (MI M:aB) (L:List World) (V:aB) (Wy:World) (Inv:List α->Gh->ae->Prop) (bX:Code->Gh->ae->Prop) (l:Nat) (rec:Loop) (bx:ae) (pre:List α):aG:=
 roundPost P l (λe W'=>∃b,e= .returned (.bool b)/\aI (λk=>M k\/V k) Wy W'/\(if b then YM W1 MI M L Inv l rec bx pre (oI V Wy W') W' else YN W1 MI M L bX l rec bx (oI V Wy W') W'))
structure mo (G:Gh) (H:ae) (L:List World) (Dk:Nat) (W1:World) (MI M V:aB) (Wy:World) (G':Gh) (Hc:ae):Prop where
 loc:Loc W1 MI M V G' Hc
 m:∀k,M k->G.X k\/k∈H.map (·.1)\/k=Dk\/k=Dk+1
 m':∀k,k=Dk\/k=Dk+1->M k
 vge:∀k,V k->W1.heap.size<=k
 dk:Dk+1<W1.heap.size
 above:∀w∈L,w.heap.size<=Dk
theorem mo.z{Dk:Nat}{W1:World}{MI V:aB}{Wy:World}{G':Gh}{Hc:ae}(h:mo G H L Dk W1 MI M V Wy G' Hc)(hk:k<Dk)(hX:¬G.X k)(hH:k∉H.map (·.1))(hX':¬G'.X k):¬(G'.ext (λk=>M k\/V k)).X k:=by
 rintro(hx|hx|hx)
 ·exact hX' hx
 ·rcases h.m k hx with hx|hx|hx|hx
  ·exact hX hx
  ·exact hH hx
  ·omega
  omega
 have:=h.vge k hx;have:=h.dk;omega
section
variable {C:Cx} {E:Env} {D:List Deferred} {G G' G2:Gh} {L:List World} {H Hc Hc2:ae} {W1 Wy:World} {MI M V:aB} {Inv:List α->Gh->ae->Prop} {bX:Code->Gh->ae->Prop} {l Dk:Nat} {rec ik:Loop} {pre:List α}
structure H7 (G G' G2:Gh) (H Hc Hc2:ae) (L:List World) (Wy:World):Prop where
 gx:∀k,G.X k->G2.X k
 x:∀k,G2.X k->G'.X k\/Wy.heap.size<=k
 v:∀k,G2.V k->G'.V k\/Wy.heap.size<=k
 h:∀p∈Hc2,p.1∈Hc.map (·.1)\/Wy.heap.size<=p.1
 gone:∀p∈H,p.1∈Hc2.map (·.1)\/G2.X p.1\/ad L p.1
theorem H7.ok(he:H7 G G' G2 H Hc Hc2 L Wy)(hl:mo G H L Dk W1 MI M V Wy G' Hc)(fK:l=Dk+1){o:Loop}(hS:St (G2.ext λk=>M k\/V k) (Wy::L) (book Hc2 l o (bQ Dk)) W'):aI (λk=>M k\/V k) Wy W'/\Loc W1 MI M (oI V Wy W') G2 Hc2/\St G2 L (book Hc2 l o (bQ Dk)) W':=by
 have hin:∀p∈Hc,M p.1\/V p.1:=hl.loc.h;have sS:∀k,k∈Hc.map (·.1)->M k\/V k:=λk hk=>by obtain⟨p,hp,rfl⟩:=bU.1 hk;exact hin p hp
 have hb:∀k,k∈(book Hc2 l o (bQ Dk)).map (·.1)↔k∈Hc2.map (·.1)\/k=Dk+1\/k=Dk:=λk=>by subst fK;simp[book]
 refine⟨(hS.links Wy A0).mono λk hk hx=>?_,⟨λk hv=>?_,λk hx=>?_,λp hp=>?_⟩,?_⟩
 ·rcases hx with(hx|hx)|hx
  ·rcases he.x k hx with h1|h1
   ·exact hl.loc.x k h1
   omega
  ·exact hx
  rcases(hb k).1 hx with hx|hx
  ·obtain⟨p,hp,rfl⟩:=bU.1 hx;rcases he.h p hp with h1|h1
   ·exact sS _ h1
   omega
  exact .inl (hl.m' k hx.symm)
 ·rcases he.v k hv with h1|h1
  ·exact(hl.loc.v k h1).imp id .inl
  exact .inr (.inr ⟨h1,hS.vlt k hv⟩)
 ·rcases he.x k hx with h1|h1
  ·exact(hl.loc.x k h1).imp id .inl
  exact .inr (.inr ⟨h1,hS.xlt k (.inl hx)⟩)
 ·rcases he.h p hp with h1|h1
  ·exact(sS _ h1).imp id .inl
  exact .inr (.inr ⟨h1,hS.lt p (by simp[book,hp])⟩)
 refine⟨hS.ghost,hS.vlt,λk hk=>hS.xlt k (.inl hk),λw hw=>(hS.links w (.tail _ hw)).mono λk hk hx=>?_,hS.own,hS.nodup,hS.apart⟩;rcases hx with(hx|hx|hx)|hx
 ·exact .inl hx
 ·rcases hl.m k hx with hx|hx|hx
  ·exact .inl (he.gx k hx)
  ·obtain⟨p,hp,rfl⟩:=bU.1 hx;rcases he.gone p hp with h1|h1|h1
   ·exact .inr ((hb _).2 (.inl h1))
   ·exact .inl h1
   have:=h1.mem w hw;omega
  exact .inr ((hb k).2 (.inr hx.symm))
 ·have:=hl.vge k hx;have:=hl.above w hw;have:=hl.dk;omega
 exact .inr hx
theorem WJ{β:Type}{enc:β->List Value}{A A':ae}(hA:A'.map (·.1)=A.map (·.1)){b' c t n:Nat}{xs ys:List β}(hf:r.isAt b'\/n<=b'):∀p∈(A'++((Rw.row b' c sp).hp enc t ys++[]):ae),p.1∈(A++(r.hp enc t xs++[]):ae).map (·.1)\/n<=p.1:=by
 intro p hp;rw[gj,dE];rw[dE]at hp;rcases cO.1 hp with hp|hp
 ·exact .inl (cO.2 (.inl (hA▸bU.2 ⟨p,hp,rfl⟩)))
 simp only[Rw.hp,cP,fG,or_false]at hp;subst hp;exact hf.imp (λh=>cO.2 (.inr (Rw.mem_at h))) id
theorem DN(h1:rec.state= .ready)(h2:rec.pending=none):{({rec with state:=.busy}:Loop)with state:=.ready,pending:=none}=rec:=by cases rec;simp_all
theorem DM(hl:mo G H L Dk W1 MI M V Wy G' Hc)(fK:l=Dk+1)(he:H7 G G' G2 H Hc Hc2 L Wy)(hr:{ik with state:=.ready,pending:=none}=rec)(hI:Inv pre G2 Hc2):PJ C (Oe C.P W1 MI M L V Wy Inv bX l rec (bQ Dk) pre) .normal E D (G2.ext λk=>M k\/V k) (Wy::L) (book Hc2 l ik (bQ Dk)):=by
 intro a W hN hD hF hS;have fZ:=hS.loop {ik with state:=.ready,pending:=none};obtain⟨h1,h2,h3⟩:=he.ok hl fK fZ;refine⟨_,W.putObj l (.loop {ik with state:=.ready,pending:=none}),run_endRound none hS.loopAt,true,rfl,h1,G2,Hc2,hI,h2,?_⟩;rw[hr]at h3 ⊢;exact h3
theorem n9c{e:Exit}{c:Code}(hl:mo G H L Dk W1 MI M V Wy G' Hc)(fK:l=Dk+1)(NO:H7 G G' G2 H Hc Hc2 L Wy)(he:(e= .ret/\c= .ret)\/∃id,e= .exit id/\c= .exit id)(hr:{ik with state:=.done,pending:=some c}={rec with state:=.done,pending:=some c})(hI:bX c G2 Hc2):PJ C (Oe C.P W1 MI M L V Wy Inv bX l rec (bQ Dk) pre) e E D (G2.ext λk=>M k\/V k) (Wy::L) (book Hc2 l ik (bQ Dk)):=by
 intro a W hN hD hF hS;have fZ:=hS.loop {ik with state:=.done,pending:=some c};obtain⟨h1,h2,h3⟩:=NO.ok hl fK fZ;have key:∃v w',(Instr.endRound l (some c)).run C.P W= .ok v w'/\∃b,Ending.returned v= .returned (.bool b)/\aI (λk=>M k\/V k) Wy w'/\(if b then YM W1 MI M L Inv l rec (bQ Dk) pre (oI V Wy w') w' else YN W1 MI M L bX l rec (bQ Dk) (oI V Wy w') w'):=by
  refine⟨_,W.putObj l (.loop {ik with state:=.done,pending:=some c}),run_endRound (some c) hS.loopAt,false,rfl,h1,c,G2,Hc2,hI,h2,?_⟩;rw[hr]at h3 ⊢;exact h3
 rcases he with⟨rfl,rfl⟩|⟨id,rfl,rfl⟩<;>exact key
end
theorem O1{Q:aG}{e:Exit}(h:∀W,St G L H W->PJ C Q e E D G L H):PJ C Q e E D G L H:=λa W hN hD hF hS=>h W hS a W hN hD hF hS
theorem Lc{Hc:ae}{l Dk:Nat}(hS:St G L (book Hc l rec (bQ Dk)) W):∀p∈Hc,p.1≠Dk/\p.1≠l:=by
 intro p hp;have h:=(xD _).1 hS.nodup;rw[book,gj,List.nodup_append]at h;have h1:=h.2.2 p.1 (bU.2 ⟨p,hp,rfl⟩);exact⟨h1 Dk z1,h1 l z1⟩
theorem range2{B:World->Prop}{P:Program}{Q:aG}{g:Operand}{ps:Array Tmp}{cap:List Value}{enc:α->List Value}{Pre Fin:List α->Prop}(hg:ev E g=some (.func (.func f) #[] cap.toArray))(az:dR P f)(o3:∀W W2,St G L H W->B W->Below W.heap.size W W2->vm P f cap enc Pre Fin MI RO W2)(xC:∀W,St G L H W->B W->(∀k,MI k->k<W.heap.size/\ad L k/\k∉H.map (·.1)/\¬G.V k/\¬G.X k))(my:∀W,St G L H W->(∀k,RO k->k<W.heap.size/\k∉H.map (·.1)/\¬G.X k))(pT:∀x,(enc x).length=ps.size)(Inv:List α->Gh->ae->Prop)(bX:Code->Gh->ae->Prop)(h0:Inv [] G H)(tF:∀p∈ps.toList,p<N)(round:∀(pre:List α) (x:α) (G':Gh) (Hc:ae) (l Dk:Nat) (rec:Loop) (W1:World) (M V:aB) (Wy:World),rec.state= .ready->rec.pending=none->Pre (pre++[x])->Inv pre G' Hc->ad L Dk->l=Dk+1->l<Wy.heap.size->ad L Wy.heap.size->mo G H L Dk W1 MI M V Wy G' Hc->St G' L (book Hc l rec (bQ Dk)) Wy->CJ ⟨P,some l,N⟩ assign (NM ⟨P,some l,N⟩ l body (Oe P W1 MI M L V Wy Inv bX l rec (bQ Dk) (pre++[x]))) ((ps.toList.zip (enc x)).reverse++E) [] (G'.ext λk=>M k\/V k) (Wy::L) (book Hc l rec (bQ Dk)))(done:∀xs l Dk rec G' Hc,Fin xs->ad L Dk->l=Dk+1->Inv xs G' Hc->PJ ⟨P,none,N⟩ Q .normal E (er Dk::D) G' L (book Hc l rec (bQ Dk)))(stop:∀l Dk rec c G' Hc,ad L Dk->l=Dk+1->bX c G' Hc->CJ ⟨P,none,N⟩ c Q E (er Dk::D) G' L (book Hc l rec (bQ Dk))):∀a W,a.tmps.size=N->a.defers=D->Fits E a->St G L H W->B W->(Code.rangeFunc g ps assign body).wpIn (FW none) 0 P Q a W:=by
 intro a W hN hD hF hS NI;refine wpIn_rangeFunc ?_;intro fn _;have jy:(W.alloc (.deferred (some []))).heap.size=W.heap.size+1:=by simp
 obtain⟨rec,fF⟩:∃rec:Loop,rec={state:=.ready,pending:=none,fn,tmps:=a.tmps,params:=ps,assign,body,defers:=W.heap.size}:=⟨_,rfl⟩;obtain⟨W1,Es⟩:∃W1,W1=(W.alloc (.deferred (some []))).alloc (.loop rec):=⟨_,rfl⟩;have mm:St G L (book H (W.heap.size+1) rec (bQ W.heap.size)) W1:=by
  exact zwk
 have NK:Below W.heap.size W W1:=by
  rw[Es];exact((Below.refl _ _).alloc (ao _) _).alloc z1 _
 have af8:W1.heap.size=W.heap.size+2:=by rw[Es];simp
 have he:(Instr.enterLoop fn a.tmps ps assign body (none:Option Nat)).run P W= .ok (W.heap.size+1,[er W.heap.size]) W1:=by
  rw[Es,fF];exact run_enterLoop_outer _ _ _ _ _
 refine⟨W.heap.size+1,[er W.heap.size],W1,{target:=.fn (.func f) cap.toArray,args:=#[yv (W.heap.size+1)]},W1,f,(yv (W.heap.size+1)::cap).toArray,W1,he,?_,λ_ _=>trivial,?_,by simp,?_⟩
 ·simp[resolve,hF.ev hg,Deferred.ofValue];rfl
 ·simp[invoke,az _ W1]
 refine CG.2 ?_;have lx:∀k,MI k->k<W.heap.size/\ad L k/\k∉H.map (·.1)/\¬G.V k/\¬G.X k:=xC W hS NI
 let M:aB:=λk=>G.X k\/k∈H.map (·.1)\/k=W.heap.size\/k=W.heap.size+1
 have xJ:∀k,M k->k<W1.heap.size/\¬MI k/\¬RO k:=by
  exact zxj
 have stab:∀{V:aB} {G':Gh} {Hc:ae} {o:Loop},Loc W1 MI M V G' Hc->eA (λk=>(k<W1.heap.size/\¬MI k)\/V k) (St G' L (book Hc (W.heap.size+1) o (bQ W.heap.size))):=by
  intro V G' Hc o fX A B hA ho ht oX hs ee;exact zjj
 have Da:Loc W1 MI M (λ_=>False) G H:=⟨λk hv=>.inl ⟨mm.vlt k hv,λhm=>(lx k hm).2.2.2.1 hv⟩,λk hx=>.inl (.inl hx),λp hp=>.inl (.inr (.inl (bU.2 ⟨p,hp,rfl⟩)))⟩;have pY:∀x,(ps.zip (enc x).toArray).foldl (λtmps (p:Tmp×Value)=>match p with|(t,a)=>tmps.setIfInBounds t a) a.tmps=(ps.toList.zip (enc x)).foldl (λt (p:Nat×Value)=>t.setIfInBounds p.1 p.2) a.tmps:=by
  exact zil
 have sV:=o3 W W1 hS NI NK (W.heap.size+1) M (YM W1 MI M L Inv (W.heap.size+1) rec (bQ W.heap.size)) (YN W1 MI M L bX (W.heap.size+1) rec (bQ W.heap.size)) xJ
  (λpre V A B hA ho ht oX hs ee=>by
   obtain⟨G',Hc,hi,fX,bY⟩:=hA;exact⟨G',Hc,hi,fX,stab fX A B bY ho ht oX hs ee⟩)
  (λV A B hA ho ht oX hs ee=>by
   obtain⟨c,G',Hc,hi,fX,bY⟩:=hA;exact⟨c,G',Hc,hi,fX,stab fX A B bY ho ht oX hs ee⟩)
  (λpre x V Wy dU hV hI=>by
   obtain⟨G',Hc,hi,fX,bY⟩:=hI;have hy:=run_yield (P:=P) (args:=(enc x).toArray) bY.loopAt (by simp[pT,fF]);refine⟨_,_,_,_,hy,roundIn_of_wpIn (F:=FW none) trivial ?_⟩;have th:W1.heap.size<=Wy.heap.size:=by
    have h1:=bY.lt (W.heap.size+1,.loop rec) z1;simp only at h1;omega
   have bj:mo G H L W.heap.size W1 MI M V Wy G' Hc:=⟨fX,λk hk=>hk,λk hk=>.inr (.inr hk),λk hk=>(hV k hk).1,by omega,λw hw=>(hS.links w hw).size⟩;have wO:St (G'.ext λk=>M k\/V k) (Wy::L) (book Hc (W.heap.size+1) rec (bQ W.heap.size)) Wy:=by
    exact zGj
   have hr:=round pre x G' Hc (W.heap.size+1) W.heap.size rec W1 M V Wy (by rw[fF]) (by rw[fF]) dU hi hS.sizes rfl (aM.1 bY.loopAt).1 bY.sizes bj bY;have Of:rec.params=ps:=by rw[fF]
   have Og:rec.assign=assign:=by rw[fF]
   have Oh:rec.body=body:=by rw[fF]
   have Oi:rec.tmps=a.tmps:=by rw[fF]
   rw[Og,Oh,Oi,Of,pY x];have kn:=YA (zs:=ps.toList.zip (enc x)) hF (λp hp=>by rw[hN];exact tF p.1 (List.of_mem_zip hp).1);exact hr _ Wy (by have:=kn.1;rw[hN]at this;exact this) rfl kn.2 wO)
  ⟨G,H,h0,Da,mm⟩
 refine sV.mono ?_;rintro e W2 ⟨⟨v,rfl⟩,J0,V,⟨xs,bZ,hI⟩|hX⟩
 ·obtain⟨G',Hc,hi,fX,bY⟩:=hI;refine⟨rec.pending,_,run_endLoop bY.loopAt (by rw[fF];simp),?_⟩;rw[show rec.pending=none by rw[fF]];exact done xs _ _ _ G' Hc bZ hS.sizes rfl hi _ _ (by simpa using hN) (by simp[hD]) (λt v hv=>hF t v hv) (bY.loop _)
 exact z9j
theorem CJ.range2{P:Program}{Q:aG}{g:Operand}{ps:Array Tmp}{cap:List Value}{enc:α->List Value}{Pre Fin:List α->Prop}(hg:ev E g=some (.func (.func f) #[] cap.toArray))(az:dR P f)(o3:∀W W2,St G L H W->Below W.heap.size W W2->vm P f cap enc Pre Fin MI RO W2)(xC:∀W,St G L H W->(∀k,MI k->k<W.heap.size/\ad L k/\k∉H.map (·.1)/\¬G.V k/\¬G.X k))(my:∀W,St G L H W->(∀k,RO k->k<W.heap.size/\k∉H.map (·.1)/\¬G.X k))(pT:∀x,(enc x).length=ps.size)(Inv:List α->Gh->ae->Prop)(bX:Code->Gh->ae->Prop)(h0:Inv [] G H)(tF:∀p∈ps.toList,p<N)(round:∀(pre:List α) (x:α) (G':Gh) (Hc:ae) (l Dk:Nat) (rec:Loop) (W1:World) (M V:aB) (Wy:World),rec.state= .ready->rec.pending=none->Pre (pre++[x])->Inv pre G' Hc->ad L Dk->l=Dk+1->l<Wy.heap.size->ad L Wy.heap.size->mo G H L Dk W1 MI M V Wy G' Hc->St G' L (book Hc l rec (bQ Dk)) Wy->CJ ⟨P,some l,N⟩ assign (NM ⟨P,some l,N⟩ l body (Oe P W1 MI M L V Wy Inv bX l rec (bQ Dk) (pre++[x]))) ((ps.toList.zip (enc x)).reverse++E) [] (G'.ext λk=>M k\/V k) (Wy::L) (book Hc l rec (bQ Dk)))(done:∀xs l Dk rec G' Hc,Fin xs->ad L Dk->l=Dk+1->Inv xs G' Hc->PJ ⟨P,none,N⟩ Q .normal E (er Dk::D) G' L (book Hc l rec (bQ Dk)))(stop:∀l Dk rec c G' Hc,ad L Dk->l=Dk+1->bX c G' Hc->CJ ⟨P,none,N⟩ c Q E (er Dk::D) G' L (book Hc l rec (bQ Dk))):CJ ⟨P,none,N⟩ (.rangeFunc g ps assign body) Q E D G L H:=
 λa W hN hD hF hS=>Px.range2 (B:=λ_=>True) hg az (λW W2 h _ hb=>o3 W W2 h hb) (λW h _=>xC W h) my pT Inv bX h0 tF round done stop a W hN hD hF hS True.intro
theorem n1n{P:Program}{Q:aG}{g:Operand}{ps:Array Tmp}{cap:List Value}{enc:α->List Value}{Pre Fin:List α->Prop}(hi:H0[i]? =some (b,o))(hH:H0.eraseIdx i=H)(hb:ad L b)(hbX:¬G.X b)(hg:ev E g=some (.func (.func f) #[] cap.toArray))(az:dR P f)(o3:∀W W2,St G L H W->W.heap[b]? =some o->Below W.heap.size W W2->vm P f cap enc Pre Fin (· =b) RO W2)(my:∀W,St G L H W->(∀k,RO k->k<W.heap.size/\k∉H.map (·.1)/\¬G.X k))(pT:∀x,(enc x).length=ps.size)(Inv:List α->Gh->ae->Prop)(bX:Code->Gh->ae->Prop)(h0:Inv [] G H)(tF:∀p∈ps.toList,p<N)(round:∀(pre:List α) (x:α) (G':Gh) (Hc:ae) (l Dk:Nat) (rec:Loop) (W1:World) (M V:aB) (Wy:World),rec.state= .ready->rec.pending=none->Pre (pre++[x])->Inv pre G' Hc->ad L Dk->l=Dk+1->l<Wy.heap.size->ad L Wy.heap.size->mo G H L Dk W1 (· =b) M V Wy G' Hc->St G' L (book Hc l rec (bQ Dk)) Wy->CJ ⟨P,some l,N⟩ assign (NM ⟨P,some l,N⟩ l body (Oe P W1 (· =b) M L V Wy Inv bX l rec (bQ Dk) (pre++[x]))) ((ps.toList.zip (enc x)).reverse++E) [] (G'.ext λk=>M k\/V k) (Wy::L) (book Hc l rec (bQ Dk)))(done:∀xs l Dk rec G' Hc,Fin xs->ad L Dk->l=Dk+1->Inv xs G' Hc->PJ ⟨P,none,N⟩ Q .normal E (er Dk::D) G' L (book Hc l rec (bQ Dk)))(stop:∀l Dk rec c G' Hc,ad L Dk->l=Dk+1->bX c G' Hc->CJ ⟨P,none,N⟩ c Q E (er Dk::D) G' L (book Hc l rec (bQ Dk))):CJ ⟨P,none,N⟩ (.rangeFunc g ps assign body) Q E D G L H0:=by
 intro a W hN hD hF hS;have hp:=Oa H0 i _ hi;rw[hH]at hp;have mm:=hS.perm hp;have hbW:=hS.own _ (cC hi);have hlt:=(aM.1 hbW).1;have hk:b∉H.map (·.1):=by
  intro hm;obtain⟨p,hp',e⟩:=bU.1 hm;obtain⟨j,hj⟩:=jL.1 hp';have:=mm.nodup 0 (j+1) (b,o) p rfl (by simpa using hj) e.symm;omega
 have hV:¬G.V b:=mm.apart (b,o) z1;exact Px.range2 (B:=λW'=>W'.heap[b]? =some o) hg az (λW W2 h h1 hb=>o3 W W2 h h1 hb) (λW' _ hB' k Ej=>by
  subst Ej;exact⟨(aM.1 hB').1,hb,hk,hV,hbX⟩) my pT Inv bX h0 tF round done stop a W hN hD hF (mm.drop hb) hbW
section
variable {C:Cx} {fn:Func} {R:Ending->World->Prop} {E:Env} {G:Gh} {L:List World} {H:ae} {enc:α->List Value} {m:Nat}
theorem zV{Dk t tt ct:Nat}{uv:Value}{e:Exit}{w:World}{xs:List α}(he:e= .ret\/e= .normal)(hr:fn.results=#[.cell t T,.tmp u])(hA:fq C.P T false)(hx:look E t=some (ptr b 0))(hu:look E u=some uv)(hm:(Dk,.deferred (some []))∈H)(hb:(b,.cells cs ct fr)∈H)(dc:b≠Dk)(hv:cs[0]? =some (r.val xs.length))(bT:r.Fit m xs)(hrh:∀p∈r.hp enc tt xs,p∈H/\p.1≠Dk)(lN:r.ge w.heap.size)(h:∀W H',St G L H' W->H'.map (·.1)=H.map (·.1)->Below w.heap.size w W):PJ C (bodyPostM (FW none) 0 C.P fn (nC w enc m tt xs (λs=>.tuple #[s,uv]))) e E [er Dk] G L H:=
 uk he hm λa W H' hF hS bY bO=>by
  obtain⟨i,hi⟩:=jL.1 (bY _ hb dc);refine⟨_,(RS.w (C:=C) hi hA hx hv (RS.t hu RS.n)).res hr hF hS,r,rfl,h W H' hS bO,lN,bT,?_⟩;cases r with
  |nil=>trivial
  |row b' cap sp=>
   obtain⟨h1,h2⟩:=hrh (b',cD enc tt xs sp) vv;exact hS.own _ (bY _ h1 h2)
end
end
end Px
namespace Px
open Go Go.RowKit Go.Sort
/-! ### the library's sorts, over own rows -/
theorem nVj(w:World)(os:Array Obj):aI (λ_=>False) w (grow w os):=
 ⟨rfl,rfl,rfl,by simp[grow],λk hk _=>by simp only[grow];rw[PS hk]⟩
theorem npg(w:World)(b:Nat)(f:Array Value->Array Value):aI (· =b) w (mapBlock w b f):=
 ⟨rfl,rfl,rfl,by simp[mapBlock],λk _ hk=>by
  simp only[mapBlock,Yx];rw[if_neg (λe=>hk e.symm)]⟩
theorem nli(w:World)(n:Nat):aI (λ_=>False) w (Sort.ahead w n):=⟨rfl,rfl,rfl,ao _,λ_ _ _=>rfl⟩
variable {cs:Array Value} {b:Nat} {fr:Nat×Nat}
theorem nog{w:World}{t:Nat}(f:Array Value->Array Value)(h:w.heap[b]? =some (.cells cs t fr)):(mapBlock w b f).heap[b]? =some (.cells (f cs) t fr):=by
 simp only[mapBlock,Yx,if_true,h];rfl
variable {sp:List Value}
theorem Ab{w:World}{t:Nat}{xs:List Int}(h:w.heap[b]? =some (cD ai t xs sp)):Holds (Value.int .i64) w b 0 xs.toArray:=by
 intro j hj;have uX:j<xs.length:=by simpa using hj
 refine⟨?_,by simp[World.frozen?,h]⟩;rw[Dz h,i6];have e:=S6 (enc:=ai) nr xs sp j uX;rw[tX]at e;have e2:=congrArg (λl=>l[0]?) e;simp only[List.getElem?_take,wv,ai]at e2;simp only[Nat.lt_one_iff,Nat.add_zero,if_true]at e2;rw[Dr,e2];simp[uX]
variable {os:Array Obj}
theorem RU{w:World}{t n:Nat}{xs ys:List Int}(h:w.heap[b]? =some (cD ai t xs sp))(hl:ys.length=xs.length):aI (· =b) w (grow (putRow (Value.int .i64) (Sort.ahead w n) b 0 ys.toArray) os)/\(grow (putRow (Value.int .i64) (Sort.ahead w n) b 0 ys.toArray) os).heap[b]? =some (cD ai t ys sp):=by
 have hlt:=(aM.1 h).1;have k1:=(nli w n).mono (Y:=(· =b)) (λ_ _ h=>h.elim);have k2:=npg (Sort.ahead w n) b (putCells (Value.int .i64) 0 ys.toArray);have k3:=(nVj (mapBlock (Sort.ahead w n) b (putCells (Value.int .i64) 0 ys.toArray)) os).mono (Y:=(· =b)) (λ_ _ h=>h.elim);refine⟨(k1.trans k2).trans k3,?_⟩;have h2:=nog (w:=Sort.ahead w n) (putCells (Value.int .i64) 0 ys.toArray) (show(Sort.ahead w n).heap[b]? =_ from h);have h3:(grow (putRow (Value.int .i64) (Sort.ahead w n) b 0 ys.toArray) os).heap[b]? =(mapBlock (Sort.ahead w n) b (putCells (Value.int .i64) 0 ys.toArray)).heap[b]? :=by
  simp only[grow,putRow];rw[PS];have:=(aM.1 h2).1;exact this
 rw[h3,h2];congr 2;apply Array.ext';apply vg;intro i;have hx:(eJ ai xs).length=xs.length:=by rw[rY nr,tX]
 have hy:(eJ ai ys).length=ys.length:=by rw[rY nr,tX]
 have key:∀(zs:List Int) (i:Nat),(eJ ai zs)[i]? =(zs[i]?).map (Value.int .i64):=by
  intro zs;induction zs with
  |nil=>intro i;simp[eJ]
  |cons z zs ih=>intro i;cases i with
   |zero=>simp[eJ,ai]
   |succ i=>simpa[eJ,ai]using ih i
 rw[xO,xO];simp only[putCells,Array.getElem?_mapIdx,Dr,cZ,true_and,i6,rH,Nat.sub_zero];by_cases hi:i<ys.length
 ·rw[xP zM,xP zM,key,key];rw[gV (show i<xs.length by omega),gV hi];simp[hi]
 rw[Dq zM,Dq zM,hx,hy,hl];have:¬i<xs.length:=by omega
 cases sp[i-xs.length]?<;>simp[hl,this]
variable {k:Nat}
theorem nTj{α:Type}[Inhabited α]{enc:α->List Value}(hk:∀x,(enc x).length=k)(xs:List α):flatK enc k xs.toArray=(eJ enc xs).toArray:=by
 apply Array.ext';apply List.ext_getElem (by simp[flatK,rY hk]);intro i h1 h2;have hi:i<xs.length*k:=by simpa[rY hk]using h2
 have k0:0<k:=Nat.pos_of_ne_zero (λh=>by subst h;simp at hi);have hj:i/k<xs.length:=Nat.div_lt_of_lt_mul (by rw[sY];exact hi);have e:=S6 hk xs [] (i/k) hj;rw[dE]at e;have hm:i%k<k:=Nat.mod_lt _ k0;have e2:=congrArg (λl=>l[i%k]?) e;simp only[Kn hm,wv]at e2;have e3:i/k*k+i%k=i:=by rw[sY];exact wo i k
 rw[e3]at e2;have e4:(eJ enc xs)[i]? =some ((eJ enc xs)[i]'Ja):=gV _;rw[e4]at e2;have e5:(xs.toArray[i/k]!)=xs[i/k]:=by simp[hj]
 simp only[flatK,Array.getElem_map,Array.toList_map,JQ,Array.getElem_toList,Array.getElem_range];rw[e5];have h6:(enc xs[i/k])[i%k]? =some ((enc xs[i/k])[i%k]'(by rw[hk];exact hm)):=gV _;rw[h6]at e2;have e7:=Option.some.inj e2;rw[getElem!_pos (enc xs[i/k]) (i%k) (by rw[hk];exact hm),<-e7]
variable {us:List Value}
theorem Oj{w:World}{t:Nat}(h:w.heap[b]? =some (.cells (us++sp).toArray t (0,0))):Holds id w b 0 us.toArray:=by
 intro j hj;have uX:j<us.length:=by simpa using hj
 refine⟨?_,by simp[World.frozen?,h]⟩;rw[Dz h,i6,Dr,xP uX];simp[uX]
variable {vs:List Value}
theorem af9{w:World}{t n:Nat}(h:w.heap[b]? =some (.cells (us++sp).toArray t (0,0)))(hl:vs.length=us.length):aI (· =b) w (grow (putRow id (Sort.ahead w n) b 0 vs.toArray) os)/\(grow (putRow id (Sort.ahead w n) b 0 vs.toArray) os).heap[b]? =some (.cells (vs++sp).toArray t (0,0)):=by
 have k1:=(nli w n).mono (Y:=(· =b)) (λ_ _ h=>h.elim);have k2:=npg (Sort.ahead w n) b (putCells id 0 vs.toArray);have k3:=(nVj (mapBlock (Sort.ahead w n) b (putCells id 0 vs.toArray)) os).mono (Y:=(· =b)) (λ_ _ h=>h.elim);refine⟨(k1.trans k2).trans k3,?_⟩;have h2:=nog (w:=Sort.ahead w n) (putCells id 0 vs.toArray) (show(Sort.ahead w n).heap[b]? =_ from h);have h3:(grow (putRow id (Sort.ahead w n) b 0 vs.toArray) os).heap[b]? =(mapBlock (Sort.ahead w n) b (putCells id 0 vs.toArray)).heap[b]? :=by
  simp only[grow,putRow];rw[PS];exact(aM.1 h2).1
 rw[h3,h2];congr 2;apply Array.ext';apply vg;intro i;rw[xO,xO];simp only[putCells,Array.getElem?_mapIdx,Dr,cZ,true_and,i6,rH,Nat.sub_zero];by_cases hi:i<vs.length
 ·rw[xP zM,xP zM];rw[gV (show i<us.length by omega),gV hi];simp[hi]
 rw[Dq zM,Dq zM,hl];have:¬i<us.length:=by omega
 cases sp[i-us.length]?<;>simp[hl,this]
theorem nHl{α:Type}[Inhabited α]{enc:α->List Value}(hk:∀x,(enc x).length=k){w:World}{t:Nat}{xs:List α}(h:w.heap[b]? =some (cD enc t xs sp)):HoldsK enc k w b 0 xs.toArray:=by
 unfold HoldsK;rw[nTj hk];exact Oj h
theorem vN{α:Type}[Inhabited α]{enc:α->List Value}(hk:∀x,(enc x).length=k){w:World}{t n:Nat}{xs ys:List α}(h:w.heap[b]? =some (cD enc t xs sp))(hl:ys.length=xs.length):aI (· =b) w (Go.Proofs.sortWorldK enc k w b 0 n ys.toArray os)/\(Go.Proofs.sortWorldK enc k w b 0 n ys.toArray os).heap[b]? =some (cD enc t ys sp):=by
 unfold Go.Proofs.sortWorldK putRowK;rw[nTj hk];exact af9 h (by rw[rY hk,rY hk,hl])
section
variable {C:Cx} {Q:aG} {E:Env} {D:List Deferred} {G:Gh} {L:List World} {H H0 H1:ae} {ops:Array Oper} {l:List Oper}
variable {d ty f:Nat} {pos:String} {aD:Array Edge} {g:Option (Nat×Bool)} {xo:List Operand} {vs:List Value} {ea:Array Nat}
variable {α:Type} {enc:α->List Value} {m:Nat}
variable {r:Rw}
theorem wU{t:Nat}{xs ys:List α}(v:Rw->Value)(hH:H=H0++(r.hp enc t xs++H1))(az:dR C.P f)(hw:nq ops E g=some true)(hN:Nat.blt d C.N=true)(ha:iv E xo=some vs)(aga:r= .nil->∀W,St G L H W->Calls C.P f vs.toArray W (λe w'=>e= .returned (v .nil)/\ys=[]/\Below W.heap.size W w'))(qm:∀b cap sp,r= .row b cap sp->∀W,St G L H W->W.heap[b]? =some (cD enc t xs sp)->Calls C.P f vs.toArray W (λe w'=>∃bK,e= .returned (v (.row b cap bK))/\aI (· =b) W w'/\(Rw.row b cap bK).Fit m ys/\w'.heap[b]? =some (cD enc t ys bK)))(k:∀r':Rw,r'.Fit m ys->(r.Fr G L->r'.Fr G L)->(∀n,r.ge n->r'.ge n)->(∀n,r'.val n=r.val n)->OJ C ops Q l ((d,v r')::E) D G L (H0++(r'.hp enc t ys++H1))):OJ C ops Q (⟨some d,.call ⟨.value (.func f),xo.toArray,ea⟩,ty,pos,aD,g⟩::l) E D G L H:=by
 cases r with
 |nil=>
  refine nZ rfl hw rfl ha z1 az λa W iu hD hF hS=>(aga rfl W hS).mono ?_;rintro e W' ⟨rfl,rfl,hb⟩;refine k .nil rfl id (λ_ h=>h) (λ_=>rfl) (a.put (some d) (v .nil)) W' kO jW (hF.put _ lM) ?_;rw[hH]at hS;exact hS.step hb
 |row b cap sp=>
  have hi:H[H0.length]? =some (b,cD enc t xs sp):=by rw[hH];simp[Rw.hp]
  refine nZ rfl hw rfl ha z1 az λa W iu hD hF hS=>(qm b cap sp rfl W hS (hS.own _ (cC hi))).mono ?_;rintro e W' ⟨bK,rfl,hk,bT,gn⟩;refine k (.row b cap bK) bT zX (λ_ h=>h) (λ_=>rfl) (a.put (some d) (v (.row b cap bK))) W' kO jW (hF.put _ lM) ?_;have:=hS.put hi hk gn;rw[hH]at this;simpa[Rw.hp]using this
end
end Px
namespace Px
open Go Go.RowKit
/-! ### maps from numbers to values -/
section
variable {β:Type}
variable {i j:Nat}
theorem nCo{l:List Nat}(h:l.Nodup)(hi:i<l.length)(hj:j<l.length)(e:l[i]=l[j]):i=j:=by
 rw[List.Nodup,List.pairwise_iff_getElem]at h;rcases Nat.lt_trichotomy i j with hlt|heq|hlt
 ·exact absurd e (h i j hi hj hlt)
 ·exact heq
 exact absurd e.symm (h j i hj hi hlt)
def dZ (k:Int):List (Int×β)->Nat->Option (Nat×β)
 | [],_=>none
 |p::l,i=>if p.1=k then some (i,p.2)else dZ k l (i+1)
def aE (l:List (Int×β)) (k:Int):Option β:=(dZ k l 0).map (·.2)
def ck (l:List (Int×β)) (k:Int) (v:β):List (Int×β):=match dZ k l 0 with|some (i,_)=>l.set i (k,v)|none=>l++[(k,v)]
def gH (l:List (Int×β)) (k:Int):List (Int×β):=match dZ k l 0 with|some (i,_)=>l.eraseIdx i|none=>l
theorem n3i(k:Int):∀(l:List (Int×β)) (i j:Nat),dZ k l (i+j)=(dZ k l i).map λp=>(p.1+j,p.2)
 | [],_,_=>rfl
 |p::l,i,j=>by
  unfold dZ;split
  ·rfl
  rw[show i+j+1=i+1+j by omega];exact n3i k l (i+1) j
theorem n1g(k:Int)(l:List (Int×β)):dZ k l 1=(dZ k l 0).map λp=>(p.1+1,p.2):=by
 have:=n3i k l 0 1;simpa using this
theorem T9{k:Int}:∀{l:List (Int×β)} {i:Nat} {v:β},dZ k l 0=some (i,v)->l[i]? =some (k,v)
 | [],_,_,h=>by simp[dZ]at h
 |p::l,i,v,h=>by
  unfold dZ at h;split at h
  ·rename_i e;simp at h;obtain⟨rfl,rfl⟩:=h;subst e;simp
  rw[n1g]at h;obtain⟨q,hq,e⟩:=My.1 h;obtain⟨j,u⟩:=q;simp at e;obtain⟨rfl,rfl⟩:=e;simpa using T9 hq
theorem YO{k:Int}:∀{l:List (Int×β)} {i:Nat},dZ k l i=none↔k∉l.map (·.1)
 | [],_=>by simp[dZ]
 |p::l,i=>by
  unfold dZ;split
  ·rename_i e;simp[e]
  rename_i e;rw[YO];simp only[eE,cP,not_or];exact⟨λh=>⟨λx=>e x.symm,h⟩,λh=>h.2⟩
theorem n6o{l:List (Int×β)}{k:Int}:aE l k=none↔k∉l.map (·.1):=by
 unfold aE;rw[Option.map_eq_none_iff];exact YO
theorem JE(p:Int×β)(l:List (Int×β))(k:Int):aE (p::l) k=if p.1=k then some p.2 else aE l k:=by
 unfold aE;conv=>lhs;rw[dZ]
 split
 ·rfl
 rw[n1g];cases dZ k l 0<;>rfl
theorem Db(l l':List (Int×β))(k:Int):aE (l++l') k=(aE l k).or (aE l' k):=by
 induction l with
 |nil=>simp[aE,dZ]
 |cons p l ih=>
  rw[eY,JE,JE,ih];split<;>simp
theorem nBl(l:List (Int×β))(k:Int)(v:β)(j:Int):aE (ck l k v) j=if j=k then some v else aE l j:=by
 unfold ck;cases hi:dZ k l 0 with
 |none=>
  simp only;rw[Db,JE];have h1:=YO.1 hi;by_cases e:j=k
  ·subst e;rw[n6o.2 h1];simp
  rw[if_neg e,if_neg (λx=>e x.symm)];cases aE l j<;>simp[aE,dZ]
 |some q=>
  obtain⟨i,u⟩:=q;simp only;induction l generalizing i with
  |nil=>simp[dZ]at hi
  |cons p l ih=>
   unfold dZ at hi;split at hi
   ·rename_i e;simp at hi;obtain⟨rfl,rfl⟩:=hi;simp only[dz];rw[JE,JE,e];by_cases e2:j=k
    ·simp[e2]
    simp[e2,show ¬k=j from λx=>e2 x.symm]
   rename_i e;rw[n1g]at hi;obtain⟨q,hq,e3⟩:=My.1 hi;obtain⟨j',u'⟩:=q;simp at e3;obtain⟨rfl,rfl⟩:=e3;simp only[fj];rw[JE,JE,ih j' hq];by_cases e2:j=k
   ·simp[e2,e]
   simp[e2]
theorem nQo(l:List (Int×β))(k:Int)(v:β):(ck l k v).map (·.1)=if k∈l.map (·.1)then l.map (·.1)else l.map (·.1)++[k]:=by
 unfold ck;cases hi:dZ k l 0 with
 |none=>rw[if_neg (YO.1 hi)];simp
 |some q=>
  obtain⟨i,u⟩:=q;have h1:=T9 hi;exact zdk
theorem nlg{l:List (Int×β)}{k:Int}{v:β}(h:(l.map (·.1)).Nodup):((ck l k v).map (·.1)).Nodup:=by
 rw[nQo];exact zCk
theorem nZh(l:List (Int×β))(k:Int):(gH l k).Sublist l:=by
 unfold gH;split
 ·exact List.eraseIdx_sublist _ _
 exact List.Sublist.refl _
theorem nfo{l:List (Int×β)}{k:Int}(h:(l.map (·.1)).Nodup):((gH l k).map (·.1)).Nodup:=(((nZh l k).map (·.1)).nodup h)
structure Mp where
 bs:List Nat
 c:Nat
def kP (ev:β->Value) (l:List (Int×β)) (bs:List Nat):List MapEntry:=(l.zip bs).map λp=>{key:=.int .i64 p.1.1,val:=ev p.1.2,born:=p.2}
def Mp.obj (ev:β->Value) (l:List (Int×β)) (m:Mp):Obj:=.map (kP ev l m.bs).toArray m.c
structure Mp.Ok (l:List (Int×β)) (m:Mp):Prop where
 len:m.bs.length=l.length
 lt:∀b∈m.bs,b<m.c
 nd:m.bs.Nodup
 keys:(l.map (·.1)).Nodup
variable {bs:List Nat}
theorem Ol{ev:β->Value}{l:List (Int×β)}(h:bs.length=l.length)(i:Nat):(kP ev l bs)[i]? =(l[i]?).map λp=>{key:=.int .i64 p.1,val:=ev p.2,born:=bs.getD i 0}:=by
 simp only[kP,ra,List.zip,List.getElem?_zipWith];exact zJk
theorem ngi(ev:β->Value)(k:Int):∀(l:List (Int×β)) (bs:List Nat) (i:Nat),bs.length=l.length->Instr.findNow (.int .i64) (.int .i64 k) (kP ev l bs) i=some ((dZ k l i).map λp=>(p.1,ev p.2))
 | [],_,_,_=>rfl
 |p::l,[],_,h=>by simp at h
 |p::l,b::bs,i,h=>by
  have ih:=ngi ev k l bs (i+1) rB;simp only[kP,List.zip_cons_cons,eE,Instr.findNow,Instr.sameNow,if_true]at ih ⊢;unfold dZ;by_cases e:p.1=k
  ·rw[if_pos e,show(k==p.1)=true by simp[e]];rfl
  rw[if_neg e,show(k==p.1)=false by simp;exact λx=>e x.symm];exact ih
variable {kt:Nat} {W:World}
theorem nOf{P:Program}(hK:P.underlying kt=some (.int .i64))(ev:β->Value)(k:Int){l:List (Int×β)}(h:bs.length=l.length):(Instr.findKey kt (.int .i64 k) (kP ev l bs)).run P W= .ok ((dZ k l 0).map λp=>(p.1,ev p.2)) W:=by
 simp[Instr.findKey,run_underlying hK,ngi ev k l bs 0 h]
end
section
variable {C:Cx} {Q:aG} {E:Env} {D:List Deferred} {G:Gh} {L:List World} {H:ae} {ops:Array Oper} {l:List Oper}
variable {d T ty:Nat} {pos:String} {aD:Array Edge} {g:Option (Nat×Bool)} {x y z:Operand}
variable {β:Type} {ev:β->Value} {kv:List (Int×β)} {m:Mp}
theorem Mp.nil:(Mp.mk [] 0).Ok ([]:List (Int×β)):=⟨rfl,by simp,by simp,by simp⟩
theorem Mp.nil_obj:(Mp.mk [] 0).obj ev []= .map #[] 0:=rfl
variable {b et kt:Nat} {zv:Value} {W:World}
theorem nbi{k:Int}{P:Program}(c:Bool)(hU:P.underlying T=some (.map kt et))(hK:P.underlying kt=some (.int .i64))(hz:uY P et zv)(hm:m.Ok kv)(hb:W.heap[b]? =some (m.obj ev kv)):(Instr.lookup T (.map (some b)) (.int .i64 k) c).run P W= .ok (if c then .tuple #[((aE kv k).map ev).getD zv,.bool (aE kv k).isSome]else((aE kv k).map ev).getD zv) W:=by
 have eI:W.heap[b]? =some (.map (kP ev kv m.bs).toArray m.c):=hb;have h1:=nOf (P:=P) (W:=W) hK ev k hm.len;have e:aE kv k=(dZ k kv 0).map (·.2):=rfl;cases hi:dZ k kv 0 with
 |none=>
  rw[hi]at h1;have e1:aE kv k=none:=by rw[e,hi];rfl
  cases c<;>simp[Instr.lookup,run_underlying hU,Er eI,P5 hK,h1,hz W,e1]
 |some q=>
  rw[hi]at h1;have e1:aE kv k=some q.2:=by rw[e,hi];rfl
  cases c<;>simp[Instr.lookup,run_underlying hU,Er eI,P5 hK,h1,e1]
theorem hJ{k:Int}(hU:C.P.underlying T=some (.map kt et))(hK:C.P.underlying kt=some (.int .i64))(hz:uY C.P et zv)(hm:m.Ok kv)(hb:bL G L H b (m.obj ev kv))(hx:Px.ev E x=some (.map (some b)))(hy:Px.ev E y=some (.int .i64 k)):RV C G L H E (.lookup T x y true) (.tuple #[((aE kv k).map ev).getD zv,.bool (aE kv k).isSome]):=λd ty pos aD g a W hF hS=>by
 have:=nbi (W:=W) (k:=k) true hU hK hz hm (hb W hS);simp[execOp,hF.ev hx,hF.ev hy,this]
theorem qw{k:Int}(hU:C.P.underlying T=some (.map kt et))(hK:C.P.underlying kt=some (.int .i64))(hz:uY C.P et zv)(hm:m.Ok kv)(hb:bL G L H b (m.obj ev kv))(hx:Px.ev E x=some (.map (some b)))(hy:Px.ev E y=some (.int .i64 k)):RV C G L H E (.lookup T x y false) (((aE kv k).map ev).getD zv):=λd ty pos aD g a W hF hS=>by
 have:=nbi (W:=W) (k:=k) false hU hK hz hm (hb W hS);simp[execOp,hF.ev hx,hF.ev hy,this]
variable {i:Nat}
theorem IU{k:Int}{v:β}(hi:H[i]? =some (b,m.obj ev kv))(hm:m.Ok kv)(hU:C.P.underlying T=some (.map kt et))(hK:C.P.underlying kt=some (.int .i64))(hw:nq ops E g=some true)(hx:Px.ev E x=some (.map (some b)))(hy:Px.ev E y=some (.int .i64 k))(hz:Px.ev E z=some (ev v))(kk:∀m':Mp,m'.Ok (ck kv k v)->OJ C ops Q l E D G L (H.set i (b,m'.obj ev (ck kv k v)))):OJ C ops Q (⟨none,.mapUpdate T x y z,ty,pos,aD,g⟩::l) E D G L H:=by
 have h1:=λW:World=>nOf (P:=C.P) (W:=W) hK ev k hm.len;cases hk:dZ k kv 0 with
 |none=>
  have e:ck kv k v=kv++[(k,v)]:=by unfold ck;rw[hk]
  have jf:(Mp.mk (m.bs++[m.c]) (m.c+1)).Ok (ck kv k v):=by
   refine⟨by rw[e];simp[hm.len],λb hb=>?_,?_,nlg hm.keys⟩
   ·exact z5k
   exact zSk
  refine HL rfl z1 hw (λa W hF hS=>?_) (kk _ jf);have hb:=hS.own _ (cC hi);have hlt:b<W.heap.size:=(aM.1 hb).1;have eI:W.heap[b]? =some (.map (kP ev kv m.bs).toArray m.c):=hb;refine⟨.skip,_,.inl rfl,?_,hS.put hi (HO W b _) (World.putObj_heap_same hlt)⟩;have h2:=h1 W;rw[hk]at h2;have e2:((kP ev kv m.bs).toArray.push {key:=.int .i64 k,val:=ev v,born:=m.c})=(kP ev (ck kv k v) (m.bs++[m.c])).toArray:=by
   rw[e];apply Array.ext';simp only[kP,Array.toList_push];rw[List.zip_append hm.len.symm];simp
  simp[execOp,hF.ev hx,hF.ev hy,hF.ev hz,Instr.mapUpdate,run_underlying hU,Er eI,P5 hK,h2,P6 _ eI,e2,Mp.obj]
 |some q=>
  obtain⟨j,u⟩:=q;have e:ck kv k v=kv.set j (k,v):=by unfold ck;rw[hk]
  have jf:m.Ok (ck kv k v):=⟨by rw[e];simp[hm.len],hm.lt,hm.nd,nlg hm.keys⟩;refine HL rfl z1 hw (λa W hF hS=>?_) (kk _ jf);have hb:=hS.own _ (cC hi);have hlt:b<W.heap.size:=(aM.1 hb).1;have eI:W.heap[b]? =some (.map (kP ev kv m.bs).toArray m.c):=hb;refine⟨.skip,_,.inl rfl,?_,hS.put hi (HO W b _) (World.putObj_heap_same hlt)⟩;have h2:=h1 W;rw[hk]at h2;have h3:=T9 hk;have h4:=Ol (ev:=ev) hm.len j;rw[h3]at h4;have Ej:((((kP ev kv m.bs).toArray[j]?).map (·.key)).getD (.int .i64 k))= .int .i64 k:=by simp[h4]
  have hs:Instr.sameBits 10000 (.int .i64 k) (.int .i64 k)=true:=by
   show Instr.sameBits (9999+1) _ _=true;generalize 9999=n;simp[Instr.sameBits]
  have e2:((kP ev kv m.bs).toArray.modify j λen=>{en with key:=.int .i64 k,val:=ev v})=(kP ev (ck kv k v) m.bs).toArray:=by
   rw[e];apply Array.ext';apply vg;intro i';simp only[Array.toList_modify,List.getElem?_modify];rw[Ol hm.len,Ol (by simp[hm.len]),XP];exact zkl
  simp only[execOp,hF.ev hx,hF.ev hy,hF.ev hz,Instr.mapUpdate,Sem.run_bind,run_underlying hU,Result.andThen,Er eI,P5 hK,h2,wI,Ej,Instr.keyThatStays,hs,if_true,Sem.run_pure,P6 _ eI,e2];rfl
theorem RX{kt':Nat}{k:Int}{d:Option Nat}(hd:d=none)(hi:H[i]? =some (b,m.obj ev kv))(hm:m.Ok kv)(hU:C.P.underlying T=some (.map kt et))(hK:C.P.underlying kt=some (.int .i64))(hw:nq ops E g=some true)(hx:Px.ev E x=some (.map (some b)))(hy:Px.ev E y=some (.int .i64 k))(kk:∀m':Mp,m'.Ok (gH kv k)->OJ C ops Q l E D G L (H.set i (b,m'.obj ev (gH kv k)))):OJ C ops Q (⟨d,.call ⟨.builtin .delete,#[x,y],#[T,kt']⟩,ty,pos,aD,g⟩::l) E D G L H:=by
 subst hd;have h1:=λW:World=>nOf (P:=C.P) (W:=W) hK ev k hm.len;cases hk:dZ k kv 0 with
 |none=>
  have e:gH kv k=kv:=by unfold gH;rw[hk]
  have jf:m.Ok (gH kv k):=by rw[e];exact hm
  refine HL rfl z1 hw (λa W hF hS=>?_) (kk _ jf);have hb:=hS.own _ (cC hi);have hlt:b<W.heap.size:=(aM.1 hb).1;have eI:W.heap[b]? =some (.map (kP ev kv m.bs).toArray m.c):=hb;refine⟨.value (.tuple #[]),_,.inr ⟨_,rfl⟩,?_,hS.put hi (HO W b _) (World.putObj_heap_same hlt)⟩;have h2:=h1 W;rw[hk]at h2;simp[execOp,hF.ev hx,hF.ev hy,resolve,invoke,Deferred.ofValue,builtin,Builtin.delete_,run_underlying hU,Er eI,P5 hK,h2,P6 _ eI,e,Mp.obj]
 |some q=>
  obtain⟨j,u⟩:=q;have e:gH kv k=kv.eraseIdx j:=by unfold gH;rw[hk]
  have hj:=(gD.1 (T9 hk)).1;have jf:(Mp.mk (m.bs.eraseIdx j) m.c).Ok (gH kv k):=by
   refine⟨by rw[e,List.length_eraseIdx_of_lt hj,List.length_eraseIdx_of_lt (by rw[hm.len];exact hj),hm.len],λb hb=>hm.lt b (List.mem_of_mem_eraseIdx hb),(List.eraseIdx_sublist _ _).nodup hm.nd,nfo hm.keys⟩
  refine HL rfl z1 hw (λa W hF hS=>?_) (kk _ jf);have hb:=hS.own _ (cC hi);have hlt:b<W.heap.size:=(aM.1 hb).1;have eI:W.heap[b]? =some (.map (kP ev kv m.bs).toArray m.c):=hb;refine⟨.value (.tuple #[]),_,.inr ⟨_,rfl⟩,?_,hS.put hi (HO W b _) (World.putObj_heap_same hlt)⟩;have h2:=h1 W;rw[hk]at h2;have hz:∀(l:List (Int×β)) (bs:List Nat) (j:Nat),(l.zip bs).eraseIdx j=(l.eraseIdx j).zip (bs.eraseIdx j):=by
   intro l;induction l with
   |nil=>intro bs j;simp
   |cons p l ih=>
    intro bs j;cases bs with
    |nil=>simp
    |cons b bs=>cases j with
     |zero=>simp
     |succ j=>simp[ih]
  have e2:(kP ev kv m.bs).eraseIdx j=kP ev (gH kv k) (m.bs.eraseIdx j):=by
   rw[e];simp only[kP];rw[<-hz,ChangeMaps.map_eraseIdx]
  simp[execOp,hF.ev hx,hF.ev hy,resolve,invoke,Deferred.ofValue,builtin,Builtin.delete_,run_underlying hU,Er eI,P5 hK,h2,P6 _ eI,e2,Mp.obj]
def Mp.it (b:Nat) (m:Mp) (js:List Nat):Obj:=.mapIter (some b) m.c (js.map λj=>m.bs.getD j 0).toArray m.c
theorem Lf(hU:C.P.underlying T=some (.map kt et))(hb:bL G L H b (m.obj ev kv))(hw:nq ops E g=some true)(hN:Nat.blt d C.N=true)(hx:Px.ev E x=some (.map (some b)))(k:∀rb:Nat,ad L rb->bE H rb->OJ C ops Q l ((d,ptr rb 0)::E) D G L ((rb,m.it b [])::H)):OJ C ops Q (⟨some d,.range T x,ty,pos,aD,g⟩::l) E D G L H:=
 pw z1 hw hN λa W hF hS=>by
  have eI:W.heap[b]? =some (.map (kP ev kv m.bs).toArray m.c):=hb W hS;refine⟨_,_,_,_,?_,hS.alloc (m.it b []),k W.heap.size hS.sizes hS.offNew⟩;have:=run_range_map (P:=C.P) W T kt et b _ _ hU eI;simp[execOp,hF.ev hx,this,Mp.it]
theorem R0(hU:C.P.underlying T=some (.map kt et))(hw:nq ops E g=some true)(hN:Nat.blt d C.N=true)(hx:Px.ev E x=some (.map none))(k:∀rb:Nat,ad L rb->bE H rb->OJ C ops Q l ((d,ptr rb 0)::E) D G L ((rb,.mapIter none 0 #[] 0)::H)):OJ C ops Q (⟨some d,.range T x,ty,pos,aD,g⟩::l) E D G L H:=
 pw z1 hw hN λa W hF hS=>by
  refine⟨_,_,_,_,?_,hS.alloc (.mapIter none 0 #[] 0),k W.heap.size hS.sizes hS.offNew⟩;have:=run_range_nilMap (P:=C.P) W T kt et hU;simp[execOp,hF.ev hx,this]
theorem Lm{rb:Nat}(hi:H[i]? =some (rb,.mapIter none 0 #[] 0))(hw:nq ops E g=some true)(hN:Nat.blt d C.N=true)(hx:Px.ev E x=some (ptr rb 0))(k:OJ C ops Q l ((d,.tuple #[.bool false])::E) D G L H):OJ C ops Q (⟨some d,.next x false,ty,pos,aD,g⟩::l) E D G L H:=
 pw z1 hw hN λa W hF hS=>by
  have hr:=hS.own _ (cC hi);refine⟨_,W,L,H,?_,hS,k⟩;simp[execOp,hF.ev hx,Instr.next,getObj,Sem.run,hr]
variable {js:List Nat}
theorem Ak{rb:Nat}(hi:H[i]? =some (rb,m.it b js))(hm:m.Ok kv)(hb:bL G L H b (m.obj ev kv))(gB:∀j∈js,j<kv.length)(hw:nq ops E g=some true)(hN:Nat.blt d C.N=true)(hx:Px.ev E x=some (ptr rb 0))(k1:(∀j,j<kv.length->j∈js)->OJ C ops Q l ((d,.tuple #[.bool false])::E) D G L H)(k2:∀(j:Nat) (p:Int×β),kv[j]? =some p->j∉js->OJ C ops Q l ((d,.tuple #[.bool true,.int .i64 p.1,ev p.2])::E) D G L (H.set i (rb,m.it b (js++[j])))):OJ C ops Q (⟨some d,.next x false,ty,pos,aD,g⟩::l) E D G L H:=
 pw z1 hw hN λa W hF hS=>by
  have hr:W.heap[rb]? =some (.mapIter (some b) m.c (js.map λj=>m.bs.getD j 0).toArray m.c):=hS.own _ (cC hi);have eI:W.heap[b]? =some (.map (kP ev kv m.bs).toArray m.c):=hb W hS;have hlt:rb<W.heap.size:=(aM.1 hr).1;have Vo:∀e∈(kP ev kv m.bs).toArray.toList,e.born<m.c:=by
   intro e he;obtain⟨j,hj⟩:=jL.1 he;simp only at hj;rw[Ol hm.len]at hj;obtain⟨p,hp,rfl⟩:=My.1 hj;have Dn:=(gD.1 hp).1;have:j<m.bs.length:=by rw[hm.len];exact Dn
   exact hm.lt _ (by simp[List.getD,this])
  have hin:∀j,j<kv.length->((js.map λj=>m.bs.getD j 0).toArray.contains (m.bs.getD j 0)=true↔j∈js):=by
   intro j hj;rw[Array.contains_iff_mem];simp only[List.mem_toArray,bU];constructor
   ·rintro⟨j',h1,h2⟩;have h3:=gB j' h1;have aR:j<m.bs.length:=by rw[hm.len];exact hj
    have aH:j'<m.bs.length:=by rw[hm.len];exact h3
    simp only[List.getD,gV aR,gV aH,Option.getD_some]at h2;have:=nCo hm.nd aH aR h2;subst this;exact h1
   exact λh=>⟨j,h,rfl⟩
  have hex:∀{v W'},(Instr.next (.pointer (some ⟨rb,0,none⟩)) false ty).run C.P W= .ok v W'->(execOp a.eval ⟨some d,.next x false,ty,pos,aD,g⟩).run C.P W= .ok (.value v) W':=by
   intro v W' hh;simp[execOp,hF.ev hx,hh]
  rcases run_next_at (P:=C.P) W ty rb b m.c m.c _ _ m.c hr eI Vo (ao _)with⟨h0,gy⟩|⟨e,he,W1,Es,gy⟩
  ·refine⟨_,W,L,H,hex gy,hS,k1 λj hj=>?_⟩;apply(hin j hj).1;apply Decidable.byContradiction;intro hn;have gn:=Ol (ev:=ev) hm.len j;rw[gV hj]at gn;have jO:=cC gn;have:(leftOf (kP ev kv m.bs).toArray (js.map λj=>m.bs.getD j 0).toArray)=#[]:=Array.eq_empty_of_size_eq_zero h0;unfold leftOf at this;rw[Array.filter_eq_empty_iff]at this;have h2:=this _ (by simpa using jO);simp only[Bool.not_eq_true,Bool.not_eq_false']at h2;exact hn h2
  unfold leftOf at he;rw[Array.toList_filter,vz]at he;obtain⟨aY,aF⟩:=he;obtain⟨j,hj⟩:=jL.1 aY;simp only at hj;rw[Ol hm.len]at hj;obtain⟨p,hp,rfl⟩:=My.1 hj;have Dn:=(gD.1 hp).1;have hn:j∉js:=λh=>by
   have h1:=(hin j Dn).2 h;have h2:(!((js.map λj=>m.bs.getD j 0).toArray.contains (m.bs.getD j 0)))=true:=aF;rw[h1]at h2;cases h2
  have mm:St G L H W1:=by
   rcases Es with rfl|rfl
   ·exact hS
   exact hS.step (FE W _)
  have NL:rb<W1.heap.size:=(aM.1 (mm.own _ (cC hi))).1;have agd:=mm.put hi (HO W1 rb (m.it b (js++[j]))) (World.putObj_heap_same NL);refine⟨_,_,L,_,hex gy,?_,k2 j p hp hn⟩;have e1:ChangeMaps.setBlock W1 rb (.mapIter (some b) m.c ((js.map λj=>m.bs.getD j 0).toArray.push (m.bs.getD j 0)) m.c)=W1.putObj rb (m.it b (js++[j])):=by
   simp[ChangeMaps.setBlock,World.putObj,Mp.it]
  rw[e1];exact agd
variable {j:Nat}
theorem ur{rb:Nat}{p:Int×β}(hi:H[i]? =some (rb,m.it b (js++[j])))(hm:m.Ok kv)(hb:bL G L H b (m.obj ev kv))(hp:kv[j]? =some p)(hx:Px.ev E x=some (ptr rb 0)):RV C G L H E (.entry x) (.tuple #[.int .i64 p.1,ev p.2]):=λd ty pos aD g a W hF hS=>by
 have hr:W.heap[rb]? =some (.mapIter (some b) m.c (((js++[j]).map λj=>m.bs.getD j 0).toArray) m.c):=hS.own _ (cC hi);have eI:W.heap[b]? =some (.map (kP ev kv m.bs).toArray m.c):=hb W hS;have gn:=Ol (ev:=ev) hm.len j;rw[hp]at gn;have hnd:((kP ev kv m.bs).toArray.toList.map (·.born)).Nodup:=by
  have:(kP ev kv m.bs).toArray.toList.map (·.born)=m.bs:=by
   simp only[kP,List.map_map];rw[show((λx:MapEntry=>x.born)∘λp:(Int×β)×Nat=>({key:=.int .i64 p.1.1,val:=ev p.1.2,born:=p.2}:MapEntry))=Prod.snd from rfl];rw[List.map_snd_zip];exact Nat.le_of_eq hm.len
  rw[this];exact hm.nd
 have:=run_entry_at (P:=C.P) W rb b m.c (js.map λj=>m.bs.getD j 0).toArray _ m.c _ (by rw[hr];simp) eI (cC gn) hnd;simp[execOp,hF.ev hx,this]
theorem FK(ev:β->Value)(hw:nq ops E g=some true)(hN:Nat.blt d C.N=true)(k:∀(b:Nat),ad L b->bE H b->OJ C ops Q l ((d,.map (some b))::E) D G L ((b,(Mp.mk [] 0).obj ev [])::H)):OJ C ops Q (⟨some d,.makeMap T none,ty,pos,aD,g⟩::l) E D G L H:=
 pw z1 hw hN λa W _ hS=>⟨.map (some W.heap.size),W.alloc ((Mp.mk [] 0).obj ev []),_,_,by simp[execOp,Instr.makeMap,Mp.nil_obj],hS.alloc _,k W.heap.size hS.sizes hS.offNew⟩
end
section
variable {C:Cx} {Q:aG} {E:Env} {D:List Deferred} {G:Gh} {L:List World} {H H0 H1:ae} {ops:Array Oper} {l:List Oper}
variable {d ty f:Nat} {pos:String} {aD:Array Edge} {g:Option (Nat×Bool)} {xo:List Operand} {vs:List Value} {ea:Array Nat}
variable {β:Type} {ev:β->Value} {kv:List (Int×β)}
def vt (w:World) (ev:β->Value) (kv:List (Int×β)) (v:Value->Value):Ending->World->Prop:=λe w'=>
 ∃(b:Nat) (m:Mp),e= .returned (v (.map (some b)))/\Below w.heap.size w w'/\w.heap.size<=b/\m.Ok kv/\w'.heap[b]? =some (m.obj ev kv)
theorem nTg{v:Value->Value}(az:dR C.P f)(hw:nq ops E g=some true)(hN:Nat.blt d C.N=true)(ha:iv E xo=some vs)(hc:∀W,St G L H W->Calls C.P f vs.toArray W (vt W ev kv v))(k:∀(b:Nat) (m:Mp),ad L b->bE H b->m.Ok kv->OJ C ops Q l ((d,v (.map (some b)))::E) D G L ((b,m.obj ev kv)::H)):OJ C ops Q (⟨some d,.call ⟨.value (.func f),xo.toArray,ea⟩,ty,pos,aD,g⟩::l) E D G L H:=
 nZ rfl hw rfl ha z1 az λa W iu hD hF hS=>(hc W hS).mono (by
  rintro ed W' ⟨b,m,rfl,hb,lN,hm,gn⟩;exact k b m (J9 hS lN) (C5 hS lN) hm (a.put (some d) (v (.map (some b)))) W' kO jW (hF.put _ lM) ((hS.step hb).adopt gn (C5 hS lN) (λhv=>by have:=hS.vlt _ hv;omega)))
variable {rs:List ResultVar} {us:List Value} {b i:Nat}
theorem IV{fn:Func}{v:Value->Value}{w:World}{m:Mp}{e:Exit}(he:e= .ret\/e= .normal)(hr:fn.results=rs.toArray)(h:RS C Gh.no L H E rs us)(hw:w∈L)(ho:Over w.heap.size H)(hv:J7 us=v (.map (some b)))(hm:m.Ok kv)(hi:H[i]? =some (b,m.obj ev kv)):PJ C (bodyPost C.P fn (vt w ev kv v)) e E [] Gh.no L H:=
 bH he hr h λW hS=>⟨b,m,by rw[hv],hS.base hw ho,ho.mem _ (cC hi),hm,hS.own _ (cC hi)⟩
variable {m:Nat}
theorem RZ{α:Type}{enc:α->List Value}{t:Nat}{Fin:List α->Prop}{v:Value->Value}(az:dR C.P f)(hw:nq ops E g=some true)(hN:Nat.blt d C.N=true)(ha:iv E xo=some vs)(hc:∀W,St G L H W->Calls C.P f vs.toArray W (λe w'=>∃xs,Fin xs/\nC W enc m t xs v e w'))(k:∀(xs:List α) (r:Rw),Fin xs->r.Fr G L->r.Fit m xs->OJ C ops Q l ((d,v (r.val xs.length))::E) D G L (r.hp enc t xs++H)):OJ C ops Q (⟨some d,.call ⟨.value (.func f),xo.toArray,ea⟩,ty,pos,aD,g⟩::l) E D G L H:=
 nZ rfl hw rfl ha z1 az λa W iu hD hF hS=>(hc W hS).mono (by
  rintro ed W' ⟨xs,bZ,r,rfl,hb,lN,bT,gn⟩;refine k xs r bZ ?_ bT (a.put (some d) (v (r.val xs.length))) W' kO jW (hF.put _ lM) ?_
  ·cases r with
   |nil=>trivial
   |row b cap sp=>exact Fr.up hS lN
  cases r with
  |nil=>exact hS.step hb
  |row b cap sp=>exact(hS.step hb).adopt gn (C5 hS lN) (λhv=>by have:=hS.vlt _ hv;have:W.heap.size<=b:=lN;omega))
variable {o:Obj} {x:Operand}
theorem Ye{γ:Type}{v:γ->Value}{ob:γ->Obj}{Φ:γ->Prop}{first cap:List Value}(hi:H[i]? =some (b,o))(hx:Px.ev E x=some (.func (.func f) first.toArray cap.toArray))(az:dR C.P f)(hw:nq ops E g=some true)(hN:Nat.blt d C.N=true)(ha:iv E xo=some vs)(hc:∀W,St G L H W->W.heap[b]? =some o->Calls C.P f (first++vs++cap).toArray W (λe w'=>∃y,e= .returned (v y)/\aI (· =b) W w'/\Φ y/\w'.heap[b]? =some (ob y)))(k:∀y,Φ y->OJ C ops Q l ((d,v y)::E) D G L (H.set i (b,ob y))):OJ C ops Q (⟨some d,.call ⟨.value x,xo.toArray,ea⟩,ty,pos,aD,g⟩::l) E D G L H:=
 nZ rfl hw hx ha z1 az λa W iu hD hF hS=>(hc W hS (hS.own _ (cC hi))).mono (by
  rintro ed W' ⟨y,rfl,hk,hP,gn⟩;exact k y hP (a.put (some d) (v y)) W' kO jW (hF.put _ lM) (hS.put hi hk gn))
variable {N N':Nat} {a:Option Addr} {w':World}
theorem ah.blk{α:Type}{enc:α->Array Value}{n:Nat}{w:World}{xs:List α}(h:ah enc n N w a xs)(hw:∀b off,a=some ⟨b,off,none⟩->b<N->b<N'/\w'.heap[b]? =w.heap[b]?):ah enc n N' w' a xs:=by
 rcases h with h|⟨b,off,cs,t,fr,h1,h2,h3,h4⟩
 ·exact .inl h
 obtain⟨g1,g2⟩:=hw b off h1 h2;exact .inr ⟨b,off,cs,t,fr,h1,g1,g2.trans h3,h4⟩
def IX {α:Type} (w:World) (ev:β->Value) (kv:List (Int×β)) (enc:α->List Value) (n:Nat) (ds:List α) (v:Value->Value->Value):Ending->World->Prop:=λe w'=>
 ∃(b:Nat) (m:Mp) (a:Option Addr) (cp:Nat),e= .returned (v (.map (some b)) (.slice a ds.length cp))/\Below w.heap.size w w'/\w.heap.size<=b/\m.Ok kv/\w'.heap[b]? =some (m.obj ev kv)/\ah (λx=>(enc x).toArray) n w'.heap.size w' a ds/\∀q,a=some q->w.heap.size<=q.block/\q.block≠b
theorem nUi{α:Type}{enc:α->List Value}{n:Nat}{ds:List α}{v:Value->Value->Value}(az:dR C.P f)(hw:nq ops E g=some true)(hN:Nat.blt d C.N=true)(ha:iv E xo=some vs)(hc:∀W,St G L H W->Calls C.P f vs.toArray W (IX W ev kv enc n ds v))(k:∀(b:Nat) (m:Mp) (a:Option Addr) (cp:Nat) (W w1:World),St G L H W->Below W.heap.size W w1->W.heap.size<=b->b<w1.heap.size->ad L b->bE H b->m.Ok kv->ah (λx=>(enc x).toArray) n w1.heap.size w1 a ds->(∀q,a=some q->W.heap.size<=q.block/\q.block≠b)->OJ C ops Q l ((d,v (.map (some b)) (.slice a ds.length cp))::E) D G (w1::L) ((b,m.obj ev kv)::H)):OJ C ops Q (⟨some d,.call ⟨.value (.func f),xo.toArray,ea⟩,ty,pos,aD,g⟩::l) E D G L H:=
 nZ rfl hw rfl ha z1 az λac W iu hD hF hS=>(hc W hS).mono (by
  rintro ed W' ⟨b,m,a,cp,rfl,hb,lN,hm,gn,aJ,dc⟩;refine k b m a cp W W' hS hb lN (aM.1 gn).1 (J9 hS lN) (C5 hS lN) hm aJ dc (ac.put (some d) (v (.map (some b)) (.slice a ds.length cp))) W' kO jW (hF.put _ lM) ?_;exact((hS.step hb).snap.adopt gn (C5 hS lN) (λhv=>by have:=hS.vlt _ hv;omega)))
variable {H':ae}
theorem OJ.perm(hp:H.Perm H')(k:OJ C ops Q l E D G L H'):OJ C ops Q l E D G L H:=λa W hN hD hF hS=>k a W hN hD hF (hS.perm hp)
theorem PJ.perm{e:Exit}(hp:H.Perm H')(k:PJ C Q e E D G L H'):PJ C Q e E D G L H:=λa W hN hD hF hS=>k a W hN hD hF (hS.perm hp)
variable {fv:Operand}
theorem O7{α:Type}{enc:α->List Value}{t:Nat}{xs:List α}{v:Value->Value}{first cap:List Value}(hx:Px.ev E fv=some (.func (.func f) first.toArray cap.toArray))(az:dR C.P f)(hw:nq ops E g=some true)(hN:Nat.blt d C.N=true)(ha:iv E xo=some vs)(hc:∀W,St G L H W->Calls C.P f (first++vs++cap).toArray W (nC W enc m t xs v))(k:∀r:Rw,r.Fr G L->r.Fit m xs->OJ C ops Q l ((d,v (r.val xs.length))::E) D G L (H++(r.hp enc t xs++[]))):OJ C ops Q (⟨some d,.call ⟨.value fv,xo.toArray,ea⟩,ty,pos,aD,g⟩::l) E D G L H:=
 Aa hx az hw hN ha hc λr h1 h2=>OJ.perm Xr (k r h1 h2)
end
/-! ### loops whose rounds lay marks; ranges inside of iterators -/
section
variable {C:Cx} {Q:aG} {E:Env} {D:List Deferred} {G:Gh} {L:List World} {H:ae}
def Dc {α:Type} (C:Cx) (Di:α->List Deferred) (Ei:α->Env) (Hi:α->ae) (Li:α->List World) (Gi:α->Gh) (ok:α->Prop) (μ:α->Nat) (x:α):Act->World->Prop:=λa W=>
 ∃x',ok x'/\μ x'<μ x/\a.tmps.size=C.N/\a.defers=Di x'/\Fits (Ei x') a/\St (Gi x') (Li x') (Hi x') W
theorem nfm{α:Type}{c:Code}(Di:α->List Deferred)(Ei:α->Env)(Hi:α->ae)(Li:α->List World)(Gi:α->Gh)(ok:α->Prop)(μ:α->Nat)(x0:α)(h0:ok x0)(hE:Sub (Ei x0) E)(hH:Hi x0=H)(hG:Gi x0=G)(hL:∀w∈Li x0,w∈L)(hDi:Di x0=D)(round:∀x,ok x->CJ C c (Exit.then (Dc C Di Ei Hi Li Gi ok μ x) Q) (Ei x) (Di x) (Gi x) (Li x) (Hi x)):CJ C (.loop c) Q E D G L H:=by
 intro a W hN hD hF hS;subst hH;subst hG;subst hDi
 let Inv:Act->World->Nat->Prop:=λa W m=>∃x,μ x=m/\ok x/\a.tmps.size=C.N/\a.defers=Di x/\Fits (Ei x) a/\St (Gi x) (Li x) (Hi x) W
 refine zJh ?_;exact znj
theorem n7j{α:Type}{Di:α->List Deferred}{Ei:α->Env}{Hi:α->ae}{Li:α->List World}{Gi:α->Gh}{ok:α->Prop}{μ:α->Nat}{x:α}(x':α)(h0:ok x')(hlt:μ x'<μ x)(hE:Sub (Ei x') E)(hH:Hi x'=H)(hG:Gi x'=G)(hL:∀w∈Li x',w∈L)(hDi:Di x'=D):PJ C (Exit.then (Dc C Di Ei Hi Li Gi ok μ x) Q) .normal E D G L H:=by
 intro a W hN hD hF hS;subst hH;subst hG;subst hDi;exact⟨x',h0,hlt,hN,hD,hE.fits hF,hS.lessL hL⟩
abbrev Mk:=Nat×Loop×Nat
def jP (ms:List Mk):ae:=ms.flatMap λq=>[(q.1,.loop q.2.1),(q.2.2,.deferred (some []))]
def Sj (ms:List Mk):List Deferred:=ms.map λq=>er q.2.2
theorem WX(l Dk:Nat)(rec:Loop)(ms:List Mk)(H:ae):(book (H++jP ms) l rec (bQ Dk)).Perm (H++jP ((l,rec,Dk)::ms)):=by
 simp only[book,jP,Iy,i7];refine List.Perm.append_left H ?_;exact List.perm_append_comm
variable {ms:List Mk}
theorem H8:∀k∈ms.map (·.2.2),(k,.deferred (some []))∈jP ms:=by
 intro k hk;obtain⟨q,hq,rfl⟩:=bU.1 hk;exact OP.2 ⟨q,hq,by simp⟩
theorem Om(ms:List Mk):Sj ms=(ms.map (·.2.2)).map er:=by simp[Sj]
def uB (n:Nat) (ms:List Mk):Prop:=∀q∈ms,n<=q.1/\n<=q.2.2
theorem FZ{n:Nat}(h:uB n ms):∀p∈jP ms,n<=p.1:=by
 intro p hp;obtain⟨q,hq,hp⟩:=OP.1 hp;have:=h q hq;simp only[cP,fG,or_false]at hp;rcases hp with rfl|rfl
 ·exact this.1
 exact this.2
variable {k:Nat}
theorem Sk{n:Nat}(h:uB n ms)(hk:k<n):bE (jP ms) k:=bE.of_mem λhm=>by
 obtain⟨p,hp,e⟩:=bU.1 hm;have:=FZ h p hp;omega
variable {W:World}
theorem nMo(hS:St G L (H++jP ms) W):(ms.map (·.2.2)).Nodup:=by
 have h:=(xD _).1 hS.nodup;rw[gj,List.nodup_append]at h;have h2:=h.2.1;clear h hS;induction ms with
 |nil=>simp
 |cons q ms ih=>
  simp only[jP,Iy,eY,dX,eE,List.nodup_cons]at h2 ⊢;refine⟨λhm=>?_,ih h2.2.2⟩;obtain⟨q',hq',e⟩:=bU.1 hm;refine h2.2.1 (bU.2 ⟨(q'.2.2,.deferred (some [])),OP.2 ⟨q',hq',by simp⟩,e⟩)
variable {M:aB} {H0:ae} {I:World->Prop}
theorem Lz{fn:Func}{W0:World}{MI RO:aB}{hM:∀k,M k->k<W0.heap.size/\¬MI k/\¬RO k}{V:aB}{hI:eA (λk=>(k<W0.heap.size/\¬MI k)\/V k) I}{α:Type}{Fin:List α->Prop}{I':List α->aB->World->Prop}{X:aB->World->Prop}{e:Exit}(he:e= .ret\/e= .normal)(hr:fn.results=#[])(hw:W0∈L)(hV:∀k,V k->W0.heap.size<=k)(hH:∀k,k<W0.heap.size->k∈(H0++jP ms).map (·.1)->MI k)(h:∀A,I A->(∃xs,Fin xs/\I' xs V A)\/X V A):PJ C (bodyPostM (FW none) 0 C.P fn (λe W'=>(∃v,e= .returned v)/\aI (λk=>M k\/MI k) W0 W'/\∃V,(∃xs,Fin xs/\I' xs V W')\/X V W')) e E (Sj ms) (cj hM V hI) L (H0++jP ms):=by
 intro a W hN hD hF hS;have key:LeavesInM (FW none) 0 C.P fn a.tmps (λe W'=>(∃v,e= .returned v)/\aI (λk=>M k\/MI k) W0 W'/\∃V,(∃xs,Fin xs/\I' xs V W')\/X V W') a.defers .returning W:=
  nEg (Ds:=ms.map (·.2.2)) (by rw[hD,Om]) hS (λk hk=>cO.2 (.inr (H8 k hk))) (nMo hS) (λW' H' fZ _ bO=>by
   refine⟨_,results_none hr _ _ _,⟨_,rfl⟩,(fZ.links W0 hw).mono λk hk hx=>?_,V,h W' fZ.ghost⟩;rcases hx with(hx|hx)|hx
   ·exact .inl hx
   ·have:=hV k hx;omega
   rw[bO]at hx;exact .inr (hH k hk hx))
 exact PU
end
section
variable {C:Cx} {Q:aG} {E:Env} {D:List Deferred} {L:List World} {H:ae} {ops:Array Oper} {l:List Oper}
variable {d ty:Nat} {pos:String} {aD:Array Edge} {g:Option (Nat×Bool)} {x:Operand} {xs:List Operand} {vs:List Value} {ea:Array Nat}
variable {W0:World} {MI RO M:aB} {hM:∀k,M k->k<W0.heap.size/\¬MI k/\¬RO k}
variable {I1 X1:aB->World->Prop} {I:World->Prop}
theorem LB{y:Nat}(Z:aB)(T:Gh->Gh)(hT:∀G,(T G).M=G.M/\(T G).V=G.V/\(T G).R=G.R/\(T G).X=λk=>G.X k\/Z k){V:aB}{hI:eA (λk=>(k<W0.heap.size/\¬MI k)\/V k) I}(kI:∀V,eA (λk=>(k<W0.heap.size/\¬MI k)\/V k) (I1 V))(fk:∀V,eA (λk=>(k<W0.heap.size/\¬MI k)\/V k) (X1 V))(hV:∀k,V k->W0.heap.size<=k)(hw:nq ops E g=some true)(hN:Nat.blt d C.N=true)(hx:ev E x=some (yv y))(ha:iv E xs=some vs)(hy:∀W1,(∀k,V k->W0.heap.size<=k/\k<W1.heap.size)->I W1->JZ C.P y vs.toArray W1 (λb W2=>aI (λk=>M k\/V k) W1 W2/\(if b then I1 (oI V W1 W2) W2 else X1 (oI V W1 W2) W2)))(k1:∀V2,(∀k,V k->V2 k)->(∀w∈L,∀k,V2 k->V k\/w.heap.size<=k)->OJ C ops Q l ((d,.bool true)::E) D (T (cj hM V2 (kI V2))) L H)(k2:∀V2,(∀k,V k->V2 k)->(∀w∈L,∀k,V2 k->V k\/w.heap.size<=k)->OJ C ops Q l ((d,.bool false)::E) D (T (cj hM V2 (fk V2))) L H):OJ C ops Q (⟨some d,.call ⟨.value x,xs.toArray,ea⟩,ty,pos,aD,g⟩::l) E D (T (cj hM V hI)) L H:=by
 refine Od (λG'=>∃V2,(∀k,V k->V2 k)/\(∀w∈L,∀k,V2 k->V k\/w.heap.size<=k)/\G'=T (cj hM V2 (kI V2))) (λG'=>∃V2,(∀k,V k->V2 k)/\(∀w∈L,∀k,V2 k->V k\/w.heap.size<=k)/\G'=T (cj hM V2 (fk V2))) hw hN hx ha (λW1 hS=>?_) (by rintro _ ⟨V2,h2,h3,rfl⟩;exact k1 V2 h2 h3) (by rintro _ ⟨V2,h2,h3,rfl⟩;exact k2 V2 h2 h3);have cb:∀k,V k->k<W1.heap.size:=λk hk=>hS.xlt k (by rw[(hT _).2.2.2];exact .inl (.inr hk));have hgh:I W1:=by have:=hS.ghost;rw[(hT _).2.2.1]at this;exact this
 obtain⟨fn,tmps,assign,body,gy,gz⟩:=hy W1 (λk hk=>⟨hV k hk,cb k hk⟩) hgh;exact zaj
theorem LR(G:Gh):(id G).M=G.M/\(id G).V=G.V/\(id G).R=G.R/\(id G).X=λk=>G.X k\/(λ_=>False) k:=⟨rfl,rfl,rfl,by funext k;simp⟩
theorem I2(Z:aB)(G:Gh):(G.ext Z).M=G.M/\(G.ext Z).V=G.V/\(G.ext Z).R=G.R/\(G.ext Z).X=λk=>G.X k\/Z k:=⟨rfl,rfl,rfl,rfl⟩
end
/-! ### blocks that stay as_ they are, from here to the end -/
def ky (F:ae):Gh where
 M:=λ_=>False
 V:=λk=>k∈F.map (·.1)
 R:=λW=>∀p∈F,W.heap[p.1]? =some p.2
 X:=λ_=>False
 sub:=λ_ h=>h.elim
 subX:=λ_ h=>h
 stab:=λA B h _ _ _ _ hv p hp=>(hv p.1 (bU.2 ⟨p,hp,rfl⟩)).trans (h p hp)
section
variable {L:List World} {H:ae} {W:World} {F:ae}
theorem St.fz0(h:St Gh.no L H W):St (ky []) L H W:=
 {ghost:=λp hp=>by simp at hp,vlt:=λk hk=>by simp[ky]at hk,xlt:=λk hk=>hk.elim,links:=h.links,own:=h.own,nodup:=h.nodup,apart:=λp _ hv=>by simp[ky]at hv}
theorem St.fzAt(h:St (ky F) L H W):∀p∈F,W.heap[p.1]? =some p.2:=h.ghost
theorem Jd(w:World):St (ky []) [w] [] w:=(u7 w).fz0
theorem St.fz{A:ae}(h:St (ky F) L (A++H) W)(ha:∀p∈A,ad L p.1):St (ky (A++F)) L H W:=by
 have hd:=(xD _).1 h.nodup;rw[gj,List.nodup_append]at hd;refine⟨λp hp=>?_,λk hk=>?_,λk hk=>hk.elim,λw hw=>?_,λp hp=>h.own p (cO.2 (.inr hp)),(xD _).2 hd.2.1,λp hp hv=>?_⟩
 ·rcases cO.1 hp with hp|hp
  ·exact h.own p (cO.2 (.inl hp))
  exact h.ghost p hp
 ·obtain⟨p,hp,rfl⟩:=bU.1 hk;rcases cO.1 hp with hp|hp
  ·exact h.lt p (cO.2 (.inl hp))
  exact h.vlt p.1 (bU.2 ⟨p,hp,rfl⟩)
 ·refine(h.links w hw).mono λk hk hx=>?_;rcases hx with hx|hx
  ·exact hx.elim
  rw[gj]at hx;rcases cO.1 hx with hx|hx
  ·obtain⟨p,hp,rfl⟩:=bU.1 hx;have:=(ha p hp).mem w hw;omega
  exact .inr hx
 obtain⟨q,hq,e⟩:=bU.1 hv;rcases cO.1 hq with hq|hq
 ·exact hd.2.2 q.1 (bU.2 ⟨q,hq,rfl⟩) p.1 (bU.2 ⟨p,hp,rfl⟩) e
 exact h.apart p (cO.2 (.inr hp)) (bU.2 ⟨q,hq,e⟩)
end
section
variable {C:Cx} {Q:aG} {E:Env} {D:List Deferred} {L:List World} {H H' F:ae} {ops:Array Oper} {l:List Oper}
theorem CJ.fz{c:Code}(A:ae)(hp:H.Perm (A++H'))(ha:∀p∈A,ad L p.1)(k:CJ C c Q E D (ky (A++F)) L H'):CJ C c Q E D (ky F) L H:=λa W hN hD hF hS=>k a W hN hD hF ((hS.perm hp).fz ha)
theorem PJ.fz{e:Exit}(A:ae)(hp:H.Perm (A++H'))(ha:∀p∈A,ad L p.1)(k:PJ C Q e E D (ky (A++F)) L H'):PJ C Q e E D (ky F) L H:=λa W hN hD hF hS=>k a W hN hD hF ((hS.perm hp).fz ha)
variable {r:Rw}
theorem Rw.fz_above{α:Type}{enc:α->List Value}{t:Nat}{xs:List α}(h:r.Fr (ky F) L):∀p∈r.hp enc t xs,ad L p.1:=by
 intro p hp;cases r with
 |nil=>simp[Rw.hp]at hp
 |row b cap sp=>
  simp[Rw.hp]at hp;subst hp;exact h.elim (λh=>h.elim) id
theorem Rw.ge_fz(h:r.Fr (ky F) L){w:World}(hw:w∈L):r.ge w.heap.size:=by
 cases r with
 |nil=>trivial
 |row b cap sp=>exact(h.elim (λh=>h.elim) id:ad L b).mem w hw
variable {m:Nat}
theorem Rw.row_of{α:Type}{xs:List α}(h:r.Fit m xs)(hx:0<xs.length):∃b cap sp,r= .row b cap sp:=by
 cases r with
 |nil=>have:xs=[]:=h;subst this;simp at hx
 |row b cap sp=>exact⟨b,cap,sp,rfl⟩
variable {b:Nat}
theorem ad.not{w:World}(h:ad L b)(hw:w∈L):w.heap.size<=b:=h.mem w hw
end
section
variable {C:Cx} {Q:aG} {E:Env} {D:List Deferred} {G:Gh} {L:List World} {H H0 H1:ae} {ops:Array Oper} {l:List Oper}
variable {d ty:Nat} {pos:String} {aD:Array Edge} {g:Option (Nat×Bool)} {x y:Operand} {α:Type} {enc:α->List Value} {m:Nat}
variable {size:Nat} {a:Option Addr}
theorem Rd.zero{c:Nat}:Rd C G L H size 0 (.slice a 0 c) []:=λW _=>by
 cases a with
 |none=>rfl
 |some a=>simp[Builtin.firstCells,loadCells,loadCellsFrom]
theorem n1i{cs:Array Value}{off:Nat}:∀(xs:List α),(∀x,(enc x).length=m)->(∀i (h:i<xs.length),off+i*m+m<=cs.size/\cut cs (off+i*m) m=(enc xs[i]).toArray)->(cs.toList.drop off).take (xs.length*m)=eJ enc xs
 | [],_,_=>by simp[eJ]
 |x::xs,hm,h=>by
  have ih:=n1i (cs:=cs) (off:=off+m) xs hm (λi hi=>by
   have:=h (i+1) Jt;rw[show off+(i+1)*m=off+m+i*m by rw[lI];omega]at this;simpa using this)
  obtain⟨h1,h2⟩:=h 0 z1;simp only[Nat.zero_mul,Nat.add_zero,List.getElem_cons_zero]at h1 h2;have h3:(cs.toList.drop off).take m=enc x:=by
   unfold cut at h2;have:=congrArg Array.toList h2;simpa using this
  have e:(x::xs).length*m=m+xs.length*m:=by rw[dW,lI];omega
  rw[e,List.take_add,Pm,h3,ih];rfl
variable {N tx:Nat}
theorem dt.sl{e' c:Nat}{w:World}{xs:List α}(hm:∀x,(enc x).length=m)(h1:∀x,∀u∈enc x,u.oneCell'=true)(hU:C.P.underlying tx=some (.slice e'))(hw:w∈L)(h:ah (λx=>(enc x).toArray) m N w a xs)(ho:∀b,b<N->¬G.X b/\bE H b):dt C G L H enc m tx (.slice a xs.length c) xs:=by
 rcases h with h|⟨b,off,cs,t,fr,e1,e2,e3,e4⟩
 ·subst h;exact jJ.sl hU Rd.zero (by simp[eJ]) (by simp[eJ])
 subst e1;have hl:off+xs.length*m<=cs.size\/xs=[]:=by
  by_cases h0:xs=[]
  ·exact .inr h0
  have hp:0<xs.length:=List.length_pos_iff.2 h0;have:=(e4 (xs.length-1) zM).1;refine .inl ?_;have e:xs.length*m=(xs.length-1)*m+m:=by rw[<-Nat.succ_mul];congr 1;omega
  omega
 rcases hl with hl|h0
 ·exact dt.at hm h1 hU (bL.old hw e3 (ho b e2).1 (ho b e2).2) hl (n1i xs hm e4)
 subst h0;exact jJ.sl hU Rd.zero (by simp[eJ]) (by simp[eJ])
variable {sp:List Value} {b e:Nat} {sv:Value}
theorem S4{cap:Nat}{t:Nat}{xs zs:List α}(hH:H=H0++((b,cD enc e xs sp)::H1))(hT:lQ C.P t e m)(hm:∀x,(enc x).length=m)(hw:nq ops E g=some true)(hN:Nat.blt d C.N=true)(hx:ev E x=some (.slice (some ⟨b,0,none⟩) xs.length cap))(hy:ev E y=some sv)(hs:dt C G L H enc m tx sv zs)(hr:(Rw.row b cap sp).Fit m xs)(hf:Fr G L b)(gU:xs.length+zs.length<=1000000)(k:∀(b' aT:Nat) (bK:List Value),(b=b'\/ad L b')->(Rw.row b' aT bK).Fit m (xs++zs)->OJ C ops Q l ((d,.slice (some ⟨b',0,none⟩) (xs++zs).length aT)::E) D G L (H0++((b',cD enc e (xs++zs) bK)::H1))):OJ C ops Q (⟨some d,.call ⟨.builtin .append,#[x,y],#[t,tx]⟩,ty,pos,aD,g⟩::l) E D G L H:=
 pw z1 hw hN λa W hF hS=>by
  obtain⟨ti,z,p4,hz,jy,uA,o8⟩:=hT.info;have hl:(xs++zs).length=xs.length+zs.length:=cF;have hB:(xs.length+zs.length)*ti.bytes<=140737488355328:=aS (Nat.mul_le_mul gU o8) zQ;obtain⟨hc,zu⟩:=hr;have hi:H[H0.length]? =some (b,.cells (eJ enc xs++sp).toArray e (0,0)):=by rw[hH];simp[cD]
  obtain⟨b',aT,bK,W',gy,fZ,eI,xF,ki⟩:=hS.app (P:=C.P) (ty:=ty) hi hT.und p4 hz jy uA (hs.src hS) (rY hm xs) zu hc hf zM hB;refine⟨.slice (some ⟨b',0,none⟩) (xs.length+zs.length) aT,W',L,_,?_,fZ,?_⟩
  ·simp[execOp,hF.ev hx,hF.ev hy,resolve,invoke,Deferred.ofValue,builtin,gy]
  have:=k b' aT bK (eI.imp Eq.symm (λh=>J9 hS h)) ⟨by rw[hl];exact xF,by rw[hl];exact ki⟩;rw[hl]at this;rw[hH];simpa[cD,O2]using this
variable {T:Nat}
theorem H9{P:Program}(hU:P.underlying T=some (.slice e))(q:Addr)(n c d:Nat)(W:World):(Op.equalIn (d+1) T (.slice (some q) n c) (.slice none 0 0)).run P W= .ok false W:=by
 exact Q9
theorem qI{U n c:Nat}{q:Addr}(hU:C.P.underlying T=some (.slice e))(hx:ev E x=some (.slice (some q) n c))(hy:ev E y=some (.slice none 0 0)):RV C G L H E (.binOp .eql T x y U) (.bool false):=λd ty pos aD g a W hF _=>by
 have h1:(eqGuard .eql T x y (.slice (some q) n c) (.slice none 0 0)).run C.P W= .ok () W:=by simp[eqGuard]
 have h2:(binOp .eql T (.slice (some q) n c) (.slice none 0 0)).run C.P W= .ok (.bool false) W:=by
  have e:binOp .eql T (.slice (some q) n c) (.slice none 0 0)=(do pure (.bool (<-Op.equalIn (9999+1) T (.slice (some q) n c) (.slice none 0 0)))):=rfl;rw[e,Sem.run_bind,H9 hU];rfl
 exact zGk
theorem mC{U n c:Nat}(hU:C.P.underlying T=some (.slice e))(hx:ev E x=some (.slice none n c))(hy:ev E y=some (.slice none 0 0)):RV C G L H E (.binOp .eql T x y U) (.bool true):=λd ty pos aD g a W hF _=>by
 have h1:(eqGuard .eql T x y (.slice none n c) (.slice none 0 0)).run C.P W= .ok () W:=by simp[eqGuard]
 have h2:(binOp .eql T (.slice none n c) (.slice none 0 0)).run C.P W= .ok (.bool true) W:=by
  have e:binOp .eql T (.slice none n c) (.slice none 0 0)=(do pure (.bool (<-Op.equalIn (9999+1) T (.slice none n c) (.slice none 0 0)))):=rfl;rw[e,Sem.run_bind,nLn hU];rfl
 exact zGk
end
theorem ngl(pre old yk new:List Value)(h:old.length=new.length):setCells (pre++(old++yk)).toArray pre.length new=(pre++(new++yk)).toArray:=by
 apply Array.ext';rw[OO];exact Wa pre old yk new h.symm
section
variable {C:Cx} {Q:aG} {E:Env} {D:List Deferred} {G:Gh} {L:List World} {H H0 H1:ae} {ops:Array Oper} {l:List Oper}
variable {d T ty:Nat} {pos:String} {aD:Array Edge} {g:Option (Nat×Bool)} {x y:Operand} {α:Type} {enc:α->List Value} {m:Nat}
variable {j:Nat}
theorem Ia{cur:List α}{z:α}(hm:∀x,(enc x).length=m)(hj:j<cur.length)(sp:List Value):setCells (eJ enc cur++sp).toArray (j*m) (enc z)=(eJ enc (cur.set j z)++sp).toArray:=by
 have e:cur=cur.take j++(cur[j]::cur.drop (j+1)):=by rw[List.getElem_cons_drop,Dy]
 have e2:cur.set j z=cur.take j++(z::cur.drop (j+1)):=by rw[List.set_eq_take_append_cons_drop,if_pos hj]
 have f1:eJ enc cur++sp=eJ enc (cur.take j)++(enc cur[j]++(eJ enc (cur.drop (j+1))++sp)):=by
  have h9:eJ enc cur=eJ enc (cur.take j)++(enc cur[j]++eJ enc (cur.drop (j+1))):=by
   rw[show eJ enc cur=eJ enc (cur.take j++(cur[j]::cur.drop (j+1)))from congrArg _ e,O2];rfl
  rw[h9];simp
 have f2:eJ enc (cur.set j z)++sp=eJ enc (cur.take j)++(enc z++(eJ enc (cur.drop (j+1))++sp)):=by rw[e2];simp[eJ]
 have hl:(eJ enc (cur.take j)).length=j*m:=by rw[rY hm,kj,Nat.min_eq_left zM]
 rw[f1,f2,<-hl];exact ngl _ _ _ _ (by rw[hm,hm])
variable {sp:List Value} {b i:Nat} {v:Value}
theorem Bg{t off:Nat}{cur:List α}{z:α}(hi:H[i]? =some (b,cD enc t cur sp))(hm:∀x,(enc x).length=m)(h1:∀x,∀u∈enc x,u.oneCell'=true)(hZ:n9 C.P T m)(hw:nq ops E g=some true)(hx:ev E x=some (ptr b off))(hy:ev E y=some v)(ho:off=j*m)(hj:j<cur.length)(hv:v.cells=(enc z).toArray)(h1c:nV (enc z)=true)(k:OJ C ops Q l E D G L (H.set i (b,cD enc t (cur.set j z) sp))):OJ C ops Q (⟨none,.store T x y,ty,pos,aD,g⟩::l) E D G L H:=by
 subst ho;refine kS (off:=j*m) hi hZ hw hx hy (by rw[hv];simp[hm]) ?_ (by rw[hv];exact h1c) ?_
 ·have h2:(j+1)*m<=cur.length*m:=uF _ hj;rw[lI]at h2;simp only[rH,cF,rY hm];omega
 rw[hv];rw[Ia hm hj];exact k
variable {tx:Nat} {zv:Value}
theorem Bh{t off c':Nat}{ys zs:List α}(hi:H[i]? =some (b,cD enc t (ys++zs) sp))(hm:∀x,(enc x).length=m)(hU:C.P.underlying tx=some (.slice T))(hZ:uY C.P T zv)(Al:zv.cells.size=m)(gA:nV (Builtin.zeroCells zv.cells zs.length).toList=true)(hw:nq ops E g=some true)(hx:ev E x=some (.slice (some ⟨b,off,none⟩) zs.length c'))(ho:zs=[]\/off=ys.length*m)(k:∀bK:List Value,bK.length=zs.length*m+sp.length->OJ C ops Q l E D G L (H.set i (b,cD enc t ys bK))):OJ C ops Q (⟨none,.call ⟨.builtin .clear,#[x],#[tx]⟩,ty,pos,aD,g⟩::l) E D G L H:=by
 by_cases h0:zs=[]
 ·subst h0;have hk:=k sp z1;rw[dE]at hi;have hH:H.set i (b,cD enc t ys sp)=H:=by
   apply vg;intro n;by_cases e:i=n
   ·subst e;rw[JU (gD.1 hi).1,hi]
   rw[HK e]
  rw[hH]at hk;exact HL rfl z1 hw (λa W hF hS=>⟨.value (.tuple #[]),W,.inr ⟨_,rfl⟩,by simp[execOp,hF.ev hx,resolve,invoke,builtin,Builtin.clear_,run_underlying hU],hS⟩) hk
 have jg:=ho.resolve_left h0;subst jg;have IZ:(Builtin.zeroCells zv.cells zs.length).toList.length=zs.length*m:=by simp[Builtin.zeroCells,Al]
 have f1:eJ enc (ys++zs)++sp=eJ enc ys++(eJ enc zs++sp):=by rw[O2,i7]
 have hl:(eJ enc ys).length=ys.length*m:=rY hm ys;refine HL (H':=H.set i (b,cD enc t ys ((Builtin.zeroCells zv.cells zs.length).toList++sp))) rfl z1 hw (λa W hF hS=>?_) (k _ (by rw[cF,IZ]));have hb:=hS.own _ (cC hi);obtain⟨W',hr,hk,eI⟩:=Yy (P:=C.P) (off:=ys.length*m) (Builtin.zeroCells zv.cells zs.length).toList 0 _ W hb (by
  rw[IZ];simp only[rH,cF,rY hm,O2];omega) gA
 rw[Nat.add_zero,f1,<-hl,ngl _ _ _ _ (by rw[IZ,rY hm])]at eI;refine⟨.value (.tuple #[]),W',.inr ⟨_,rfl⟩,?_,hS.put hi hk eI⟩;obtain⟨q,hq⟩:∃q,zs.length=q+1:=⟨zs.length-1,by have:=List.length_pos_iff.2 h0;omega⟩;rw[hq]at hx hr;simp[execOp,hF.ev hx,resolve,invoke,builtin,Builtin.clear_,run_underlying hU,hZ W,hr]
end
section
variable {C:Cx} {Q:aG} {E:Env} {D:List Deferred} {G:Gh} {L:List World} {H:ae} {id:Nat}
abbrev py (o:Oper) (v:Value) (E:Env):Env:=match o.dst with|some d=>(d,v)::E|none=>E
def P7 (C:Cx) (l:List Oper) (G:Gh) (E:Env) (D:List Deferred) (sp:Sp) (ch:List Nat) (Ph:List Value->List World->ae->Prop):Nat->List Nat->Prop
 |_,[]=>True
 |k,c::rest=>(∀(o:Oper) (ds:List Nat),l[c]? =some o->sp[c]? =some (ds,none)->∀cv L' H',cv.length=k->Ph cv L' H'->∀(F:Env) (Q':aG),
  (∀v dB dC,Ph (cv++[v]) dB dC->PJ C Q' .normal (py o v (dx l.toArray sp ch cv ds++(E++F))) D G dB dC)->OJ C l.toArray Q' [o] (dx l.toArray sp ch cv ds++(E++F)) D G L' H')/\P7 C l G E D sp ch Ph (k+1) rest
theorem n6h{l:List Oper}{sp:Sp}{ch:List Nat}{Ph:List Value->List World->ae->Prop}:∀(rest:List Nat) (n:Nat),P7 C l G E D sp ch Ph n rest->∀(k c:Nat) (o:Oper) (ds:List Nat),rest[k]? =some c->l[c]? =some o->sp[c]? =some (ds,none)->∀cv L' H',cv.length=n+k->Ph cv L' H'->∀(F:Env) (Q':aG),(∀v dB dC,Ph (cv++[v]) dB dC->PJ C Q' .normal (py o v (dx l.toArray sp ch cv ds++(E++F))) D G dB dC)->OJ C l.toArray Q' [o] (dx l.toArray sp ch cv ds++(E++F)) D G L' H'
 | [],_,_,k,c,_,_,h,_,_=>by simp at h
 |c'::rest,n,h,k,c,o,ds,hk,hl,hs=>by
  cases k with
  |zero=>simp at hk;subst hk;exact λcv L' H' hlen=>h.1 o ds hl hs cv L' H' (by simpa using hlen)
  |succ k=>exact λcv L' H' hlen=>n6h rest (n+1) h.2 k c o ds NV hl hs cv L' H' zM
variable {ch ds rest:List Nat} {k:Nat}
theorem ss{l:List Oper}{sp:Sp}{Ph:List Value->List World->ae->Prop}{c:Nat}{o:Oper}(h1:l[c]? =some o)(h2:sp[c]? =some (ds,none))(h:∀cv L' H',cv.length=k->Ph cv L' H'->∀(F:Env) (Q':aG),(∀v dB dC,Ph (cv++[v]) dB dC->PJ C Q' .normal (py o v (dx l.toArray sp ch cv ds++(E++F))) D G dB dC)->OJ C l.toArray Q' [o] (dx l.toArray sp ch cv ds++(E++F)) D G L' H')(t:P7 C l G E D sp ch Ph (k+1) rest):P7 C l G E D sp ch Ph k (c::rest):=
 ⟨λo' sW e1 e2=>by
  rw[h1]at e1;cases e1;rw[h2]at e2;cases e2;exact h,t⟩
theorem X3{l:List Oper}{sp:Sp}{Ph:List Value->List World->ae->Prop}:P7 C l G E D sp ch Ph k []:=trivial
theorem Th{l:List Oper}(nA:Nat)(ch:List Nat)(sp:Sp)(Ph:List Value->List World->ae->Prop)(hm:C.P.follows .mixedOrders=true)(h0:Ph [] L H)(jf:HV l.toArray nA (sp.map (·.1)) E=true)(aJ:xG l sp=true)(hN:yw C.N l=true)(kN:J3 l ch=true)(hnd:CQ ch=true)(rA:pZ ch 0 sp=true)(fE:ch.all (λc=>Nat.blt c nA)=true)(pure:Eo C l.toArray G E sp ch Ph l sp)(step:P7 C l G E D sp ch Ph 0 ch)(fin:∀cv L' H',cv.length=ch.length->Ph cv L' H'->OJ C l.toArray Q (l.drop nA) (dx l.toArray sp ch cv (List.range nA)++E) D G L' H'):CJ C (.region id l.toArray true) Q E D G L H:=
 n9j nA ch sp Ph hm h0 jf aJ hN kN hnd rA fE (YI l sp pure)
  (λk c o ds d hk hl hs hd cv L' H' hlen hP F Q' hc=>n6h ch 0 step k c o ds hk hl hs cv L' H' zM hP F Q' (λv dB dC On=>by have:=hc v dB dC On;simpa only[py,hd]using this))
  (λk c o ds hk hl hs hd cv L' H' hlen hP F Q' hc=>n6h ch 0 step k c o ds hk hl hs cv L' H' zM hP F Q' (λv dB dC On=>by have:=hc v dB dC On;simpa only[py,hd]using this))
  fin
end
/-! ### maps from keys of any type to values -/
/-- keys that are arrays or structs -/
structure uI {K:Type} [DecidableEq K] (P:Program) (kt:Nat) (ek:K->Value):Prop where
 und:∃kd,P.underlying kt=some kd/\∀k v,Instr.sameNow kd (ek k) v=none
 chk:∀(b:Bool) (k:K) {W:World},(Instr.checkKey b 10000 kt (ek k)).run P W= .ok () W
 eq:∀(k k':K) {W:World},(Op.equal kt (ek k) (ek k')).run P W= .ok (decide (k=k')) W
 bits:∀k,Instr.sameBits 10000 (ek k) (ek k)=true
section
variable {K:Type} [DecidableEq K] {ek:K->Value} {β:Type}
def fg (k:K):List (K×β)->Nat->Option (Nat×β)
 | [],_=>none
 |p::l,i=>if p.1=k then some (i,p.2)else fg k l (i+1)
def mh (l:List (K×β)) (k:K):Option β:=(fg k l 0).map (·.2)
def iR (l:List (K×β)) (k:K) (v:β):List (K×β):=match fg k l 0 with|some (i,_)=>l.set i (k,v)|none=>l++[(k,v)]
theorem nEi(k:K):∀(l:List (K×β)) (i j:Nat),fg k l (i+j)=(fg k l i).map λp=>(p.1+j,p.2)
 | [],_,_=>rfl
 |p::l,i,j=>by
  unfold fg;split
  ·rfl
  rw[show i+j+1=i+1+j by omega];exact nEi k l (i+1) j
theorem nuo(k:K)(l:List (K×β)):fg k l 1=(fg k l 0).map λp=>(p.1+1,p.2):=by
 have:=nEi k l 0 1;simpa using this
theorem Ps{k:K}:∀{l:List (K×β)} {i:Nat} {v:β},fg k l 0=some (i,v)->l[i]? =some (k,v)
 | [],_,_,h=>by simp[fg]at h
 |p::l,i,v,h=>by
  unfold fg at h;split at h
  ·rename_i e;simp at h;obtain⟨rfl,rfl⟩:=h;subst e;simp
  rw[nuo]at h;obtain⟨q,hq,e⟩:=My.1 h;obtain⟨j,u⟩:=q;simp at e;obtain⟨rfl,rfl⟩:=e;simpa using Ps hq
theorem XO{k:K}:∀{l:List (K×β)} {i:Nat},fg k l i=none↔k∉l.map (·.1)
 | [],_=>by simp[fg]
 |p::l,i=>by
  unfold fg;split
  ·rename_i e;simp[e]
  rename_i e;rw[XO];simp only[eE,cP,not_or];exact⟨λh=>⟨λx=>e x.symm,h⟩,λh=>h.2⟩
theorem nXj{l:List (K×β)}{k:K}:mh l k=none↔k∉l.map (·.1):=by
 unfold mh;rw[Option.map_eq_none_iff];exact XO
theorem nHo(l:List (K×β))(k:K)(v:β):(iR l k v).map (·.1)=if k∈l.map (·.1)then l.map (·.1)else l.map (·.1)++[k]:=by
 unfold iR;cases hi:fg k l 0 with
 |none=>rw[if_neg (XO.1 hi)];simp
 |some q=>
  obtain⟨i,u⟩:=q;have h1:=Ps hi;exact zdk
theorem nfi{l:List (K×β)}{k:K}{v:β}(h:(l.map (·.1)).Nodup):((iR l k v).map (·.1)).Nodup:=by
 rw[nHo];exact zCk
structure Mq where
 bs:List Nat
 c:Nat
def qV (ek:K->Value) (ev:β->Value) (l:List (K×β)) (bs:List Nat):List MapEntry:=(l.zip bs).map λp=>{key:=ek p.1.1,val:=ev p.1.2,born:=p.2}
def Mq.obj (ek:K->Value) (ev:β->Value) (l:List (K×β)) (m:Mq):Obj:=.map (qV ek ev l m.bs).toArray m.c
structure Mq.Ok (l:List (K×β)) (m:Mq):Prop where
 len:m.bs.length=l.length
 lt:∀b∈m.bs,b<m.c
 nd:m.bs.Nodup
 keys:(l.map (·.1)).Nodup
variable {bs:List Nat}
theorem nlm{ev:β->Value}{l:List (K×β)}(h:bs.length=l.length)(i:Nat):(qV ek ev l bs)[i]? =(l[i]?).map λp=>{key:=ek p.1,val:=ev p.2,born:=bs.getD i 0}:=by
 simp only[qV,ra,List.zip,List.getElem?_zipWith];exact zJk
theorem nji{P:Program}{kt:Nat}(hK:uI P kt ek)(ev:β->Value)(k:K)(W:World):∀(l:List (K×β)) (bs:List Nat) (i:Nat),bs.length=l.length->(Instr.findAsking kt (ek k) (qV ek ev l bs) i).run P W= .ok ((fg k l i).map λp=>(p.1,ev p.2)) W
 | [],_,_,_=>by simp[qV,Instr.findAsking,fg]
 |p::l,[],_,h=>by simp at h
 |p::l,b::bs,i,h=>by
  have ih:=nji hK ev k W l bs (i+1) rB;simp only[qV,List.zip_cons_cons,eE,Instr.findAsking,Sem.run_bind,hK.eq,Result.andThen]at ih ⊢;unfold fg;by_cases e:p.1=k
  ·rw[if_pos e,if_pos (by simp[e])];simp
  rw[if_neg e,if_neg (by simp;exact λx=>e x.symm)];exact ih
variable {kt:Nat} {W:World}
theorem nCi{P:Program}(hK:uI P kt ek)(ev:β->Value)(k:K){l:List (K×β)}(h:bs.length=l.length):(Instr.findKey kt (ek k) (qV ek ev l bs)).run P W= .ok ((fg k l 0).map λp=>(p.1,ev p.2)) W:=by
 obtain⟨kd,hU,hn⟩:=hK.und;cases l with
 |nil=>simp[Instr.findKey,run_underlying hU,qV,Instr.findNow,fg]
 |cons p l=>
  cases bs with
  |nil=>simp at h
  |cons b bs=>
   have h1:=nji hK ev k W (p::l) (b::bs) 0 h;have h2:Instr.findNow kd (ek k) (qV ek ev (p::l) (b::bs)) 0=none:=by
    simp only[qV,List.zip_cons_cons,eE,Instr.findNow,hn]
   simp only[Instr.findKey,Sem.run_bind,run_underlying hU,Result.andThen,h2,h1]
end
section
variable {C:Cx} {Q:aG} {E:Env} {D:List Deferred} {G:Gh} {L:List World} {H:ae} {ops:Array Oper} {l:List Oper}
variable {d T ty:Nat} {pos:String} {aD:Array Edge} {g:Option (Nat×Bool)} {x y z:Operand}
variable {K:Type} [DecidableEq K] {ek:K->Value} {β:Type} {ev:β->Value} {kv:List (K×β)} {m:Mq}
theorem Mq.nil:(Mq.mk [] 0).Ok ([]:List (K×β)):=⟨rfl,by simp,by simp,by simp⟩
theorem Mq.nil_obj:(Mq.mk [] 0).obj ek ev []= .map #[] 0:=rfl
variable {b et kt:Nat} {zv:Value} {W:World}
theorem nMm{k:K}{P:Program}(c:Bool)(hU:P.underlying T=some (.map kt et))(hK:uI P kt ek)(hz:uY P et zv)(hm:m.Ok kv)(hb:W.heap[b]? =some (m.obj ek ev kv)):(Instr.lookup T (.map (some b)) (ek k) c).run P W= .ok (if c then .tuple #[((mh kv k).map ev).getD zv,.bool (mh kv k).isSome]else((mh kv k).map ev).getD zv) W:=by
 have eI:W.heap[b]? =some (.map (qV ek ev kv m.bs).toArray m.c):=hb;have h1:=nCi (P:=P) (W:=W) hK ev k hm.len;have e:mh kv k=(fg k kv 0).map (·.2):=rfl;cases hi:fg k kv 0 with
 |none=>
  rw[hi]at h1;have e1:mh kv k=none:=by rw[e,hi];rfl
  cases c<;>simp[Instr.lookup,run_underlying hU,Er eI,hK.chk,h1,hz W,e1]
 |some q=>
  rw[hi]at h1;have e1:mh kv k=some q.2:=by rw[e,hi];rfl
  cases c<;>simp[Instr.lookup,run_underlying hU,Er eI,hK.chk,h1,e1]
theorem vU{k:K}(hU:C.P.underlying T=some (.map kt et))(hK:uI C.P kt ek)(hz:uY C.P et zv)(hm:m.Ok kv)(hb:bL G L H b (m.obj ek ev kv))(hx:Px.ev E x=some (.map (some b)))(hy:Px.ev E y=some (ek k)):RV C G L H E (.lookup T x y false) (((mh kv k).map ev).getD zv):=λd ty pos aD g a W hF hS=>by
 have:=nMm (W:=W) (k:=k) false hU hK hz hm (hb W hS);simp[execOp,hF.ev hx,hF.ev hy,this]
variable {i:Nat}
theorem Jr{k:K}{v:β}(hi:H[i]? =some (b,m.obj ek ev kv))(hm:m.Ok kv)(hU:C.P.underlying T=some (.map kt et))(hK:uI C.P kt ek)(hw:nq ops E g=some true)(hx:Px.ev E x=some (.map (some b)))(hy:Px.ev E y=some (ek k))(hz:Px.ev E z=some (ev v))(kk:∀m':Mq,m'.Ok (iR kv k v)->OJ C ops Q l E D G L (H.set i (b,m'.obj ek ev (iR kv k v)))):OJ C ops Q (⟨none,.mapUpdate T x y z,ty,pos,aD,g⟩::l) E D G L H:=by
 have h1:=λW:World=>nCi (P:=C.P) (W:=W) hK ev k hm.len;cases hk:fg k kv 0 with
 |none=>
  have e:iR kv k v=kv++[(k,v)]:=by unfold iR;rw[hk]
  have jf:(Mq.mk (m.bs++[m.c]) (m.c+1)).Ok (iR kv k v):=by
   refine⟨by rw[e];simp[hm.len],λb hb=>?_,?_,nfi hm.keys⟩
   ·exact z5k
   exact zSk
  refine HL rfl z1 hw (λa W hF hS=>?_) (kk _ jf);have hb:=hS.own _ (cC hi);have hlt:b<W.heap.size:=(aM.1 hb).1;have eI:W.heap[b]? =some (.map (qV ek ev kv m.bs).toArray m.c):=hb;refine⟨.skip,_,.inl rfl,?_,hS.put hi (HO W b _) (World.putObj_heap_same hlt)⟩;have h2:=h1 W;rw[hk]at h2;have e2:((qV ek ev kv m.bs).toArray.push {key:=ek k,val:=ev v,born:=m.c})=(qV ek ev (iR kv k v) (m.bs++[m.c])).toArray:=by
   rw[e];apply Array.ext';simp only[qV,Array.toList_push];rw[List.zip_append hm.len.symm];simp
  simp[execOp,hF.ev hx,hF.ev hy,hF.ev hz,Instr.mapUpdate,run_underlying hU,Er eI,hK.chk,h2,P6 _ eI,e2,Mq.obj]
 |some q=>
  obtain⟨j,u⟩:=q;have e:iR kv k v=kv.set j (k,v):=by unfold iR;rw[hk]
  have jf:m.Ok (iR kv k v):=⟨by rw[e];simp[hm.len],hm.lt,hm.nd,nfi hm.keys⟩;refine HL rfl z1 hw (λa W hF hS=>?_) (kk _ jf);have hb:=hS.own _ (cC hi);have hlt:b<W.heap.size:=(aM.1 hb).1;have eI:W.heap[b]? =some (.map (qV ek ev kv m.bs).toArray m.c):=hb;refine⟨.skip,_,.inl rfl,?_,hS.put hi (HO W b _) (World.putObj_heap_same hlt)⟩;have h2:=h1 W;rw[hk]at h2;have h3:=Ps hk;have h4:=nlm (ek:=ek) (ev:=ev) hm.len j;rw[h3]at h4;have Ej:((((qV ek ev kv m.bs).toArray[j]?).map (·.key)).getD (ek k))=ek k:=by simp[h4]
  have hs:Instr.sameBits 10000 (ek k) (ek k)=true:=hK.bits k;have e2:((qV ek ev kv m.bs).toArray.modify j λen=>{en with key:=ek k,val:=ev v})=(qV ek ev (iR kv k v) m.bs).toArray:=by
   rw[e];apply Array.ext';apply vg;intro i';simp only[Array.toList_modify,List.getElem?_modify];rw[nlm hm.len,nlm (by simp[hm.len]),XP];exact zkl
  simp only[execOp,hF.ev hx,hF.ev hy,hF.ev hz,Instr.mapUpdate,Sem.run_bind,run_underlying hU,Result.andThen,Er eI,hK.chk,h2,wI,Ej,Instr.keyThatStays,hs,if_true,Sem.run_pure,P6 _ eI,e2];rfl
theorem ac8(ek:K->Value)(ev:β->Value)(hw:nq ops E g=some true)(hN:Nat.blt d C.N=true)(k:∀(b:Nat),ad L b->bE H b->OJ C ops Q l ((d,.map (some b))::E) D G L ((b,(Mq.mk [] 0).obj ek ev [])::H)):OJ C ops Q (⟨some d,.makeMap T none,ty,pos,aD,g⟩::l) E D G L H:=
 pw z1 hw hN λa W _ hS=>⟨.map (some W.heap.size),W.alloc ((Mq.mk [] 0).obj ek ev []),_,_,by simp[execOp,Instr.makeMap,Mq.nil_obj],hS.alloc _,k W.heap.size hS.sizes hS.offNew⟩
end
/-! ### digests, as_ keys of maps -/
abbrev Dk:={l:List Int // l.length=32}
def sF (k:Dk):Value:=.agg (k.1.map (Value.int .u8)).toArray
theorem XJ:∀iX bs:List Int,iX.length=bs.length->oB (iX.map (Value.int .u8)) (bs.map (Value.int .u8))=decide (iX=bs)
 | [],[],_=>rfl
 |a::iX,b::bs,h=>by
  simp only[eE,oB,OW,XJ iX bs rB];by_cases h1:a=b<;>by_cases h2:iX=bs<;>simp[h1,h2]
 | [],_::_,h=>by simp at h
 |_::_,[],h=>by simp at h
theorem nYh:∀(n:Nat) (iX bs:List Int),iX.length=n->bs.length=n->jD (kZ n [.i]) (iX.map (Value.int .u8)) (bs.map (Value.int .u8))=true
 |0,[],[],_,_=>rfl
 |n+1,a::iX,b::bs,h,h'=>by
  have:=nYh n iX bs rB (by simpa using h');simp only[kZ,eY,dX,eE,jD,P4,this];simp
 |0,_::_,_,h,_=>by simp at h
 |0,[],_::_,_,h=>by simp at h
 |n+1,[],_,h,_=>by simp at h
 |n+1,_::_,[],_,h=>by simp at h
variable {e:Nat}
theorem Ib{P:Program}{t len:Nat}{k:IntKind}(hU:P.underlying t=some (.array len e))(hE:P.underlying e=some (.int k))(hZ:n9 P e 1)(hA:fq P e false)(em:Bool)(cs:List Value)(hl:cs.length=len)(W:World):(Instr.checkKey em 10000 t (.agg cs.toArray)).run P W= .ok () W:=by
 show(Instr.checkKey em (9998+1+1) t (.agg cs.toArray)).run P W= .ok () W;generalize 9998=n;rw[Instr.checkKey];simp only[Sem.run_bind,run_underlying hU,Result.andThen_ok];simp only[Std.Legacy.Range.forIn_eq_forIn_range',Std.Legacy.Range.size,Nat.sub_zero,Nat.add_one_sub_one,Nat.div_one];have each:∀j∈List.range' 0 len,j<cs.length:=λj hj=>by rw[List.mem_range'_1]at hj;omega
 generalize List.range' 0 len=is at each;induction is with
 |nil=>simp
 |cons j is ih=>
  have hj:=each j z1;have p1:(part e cs.toArray (j*1)).run P W= .ok cs[j] W:=by simp[part,hA W,hj]
  have p2:(Instr.checkKey em (n+1) e cs[j]).run P W= .ok () W:=by simp[Instr.checkKey,run_underlying hE]
  simp only[List.forIn_cons,Sem.run_bind,hZ W,Result.andThen_ok,p1,p2,Sem.run_pure];exact ih (λy hy=>each y (by simp[hy]))
theorem nbk(n:Nat):∀iX:List Int,((iX.map (Value.int .u8)).zip (iX.map (Value.int .u8))).all (λp=>Instr.sameBits n p.1 p.2)=true
 | []=>rfl
 |a::iX=>by
  have:=nbk n iX;simp only[eE,List.zip_cons_cons,List.all_cons,this,Bool.and_true];cases n<;>simp[Instr.sameBits]
theorem Ts{P:Program}{t:Nat}(hU:P.underlying t=some (.array 32 e))(hE:P.underlying e=some (.int .u8))(hZ:n9 P e 1)(hA:fq P e false):uI P t sF where
 und:=⟨_,hU,λk v=>by cases v<;>rfl⟩
 chk:=λb k W=>Ib hU hE hZ hA b _ (by simp[k.2]) W
 eq:=λk k' W=>by
  have h:=Fj.array hU hZ (ks:=[.i]) rfl (wM.int hE hA) 9998 (k.1.map (Value.int .u8)) (k'.1.map (Value.int .u8)) W (nYh 32 _ _ k.2 k'.2);have e:decide (k=k')=decide (k.1=k'.1):=by simp only[Subtype.ext_iff]
  rw[e,<-XJ _ _ (by rw[k.2,k'.2])];exact h
 bits:=λk=>by
  show Instr.sameBits (9999+1) (sF k) (sF k)=true;generalize 9999=n;simp only[sF,Instr.sameBits,beq_self_eq_true,Bool.true_and];exact nbk n k.1
/-! ### slices whose blocks are frozen -/
def D5 {α:Type} (enc:α->Array Value) (n:Nat) (F:ae) (a:Option Addr) (xs:List α):Prop:=
 xs=[]\/∃b off cs t fr,a=some ⟨b,off,none⟩/\(b,Obj.cells cs t fr)∈F/\∀i (h:i<xs.length),off+i*n+n<=cs.size/\cut cs (off+i*n) n=enc xs[i]
section
variable {α:Type} {enc:α->Array Value} {n N K:Nat} {w W:World} {a:Option Addr} {xs:List α} {F F':ae} {L:List World} {H:ae}
theorem D5.mono(h:D5 enc n F a xs)(hF:∀p∈F,p∈F'):D5 enc n F' a xs:=by
 rcases h with h|⟨b,off,cs,t,fr,h1,h2,h3⟩
 ·exact .inl h
 exact .inr ⟨b,off,cs,t,fr,h1,hF _ h2,h3⟩
theorem D5.at(h:D5 enc n F a xs)(hW:∀p∈F,p.1<N/\W.heap[p.1]? =some p.2):ah enc n N W a xs:=by
 rcases h with h|⟨b,off,cs,t,fr,h1,h2,h3⟩
 ·exact .inl h
 exact .inr ⟨b,off,cs,t,fr,h1,(hW _ h2).1,(hW _ h2).2,h3⟩
theorem ah.fs(h:ah enc n N w a xs)(hn:∀q,a=some q->K<=q.block):∃F,(∀p∈F,K<=p.1/\w.heap[p.1]? =some p.2)/\D5 enc n F a xs:=by
 rcases h with h|⟨b,off,cs,t,fr,h1,h2,h3,h4⟩
 ·exact⟨[],by simp,.inl h⟩
 refine⟨[(b,.cells cs t fr)],λp hp=>?_,.inr ⟨b,off,cs,t,fr,h1,by simp,h4⟩⟩;simp only[qd]at hp;subst hp;exact⟨hn _ h1,h3⟩
theorem D5.ge(h:D5 enc n F a xs)(hF:∀p∈F,K<=p.1):∀q,a=some q->xs=[]\/K<=q.block:=by
 intro q hq;rcases h with h|⟨b,off,cs,t,fr,h1,h2,h3⟩
 ·exact .inl h
 rw[h1]at hq;cases hq;exact .inr (hF _ h2)
theorem St.fzLies(h:St (ky F) L H W):∀p∈F,p.1<W.heap.size/\W.heap[p.1]? =some p.2:=λp hp=>⟨(aM.1 (h.ghost p hp)).1,h.ghost p hp⟩
variable {W':World}
theorem St.fzAdd(h:St (ky F) L H W)(hb:Below W.heap.size W W')(hF:∀p∈F',W.heap.size<=p.1/\W'.heap[p.1]? =some p.2):St (ky (F'++F)) L H W':=by
 have h1:=h.step hb;refine⟨λp hp=>?_,λk hk=>?_,λk hk=>hk.elim,h1.links,h1.own,h1.nodup,λp hp hv=>?_⟩
 ·rcases cO.1 hp with hp|hp
  ·exact(hF p hp).2
  exact h1.ghost p hp
 ·obtain⟨p,hp,rfl⟩:=bU.1 hk;rcases cO.1 hp with hp|hp
  ·exact(aM.1 (hF p hp).2).1
  exact h1.vlt p.1 (bU.2 ⟨p,hp,rfl⟩)
 obtain⟨q,hq,e⟩:=bU.1 hv;rcases cO.1 hq with hq|hq
 ·have:=(hF q hq).1;have:=h.lt p hp;omega
 exact h1.apart p hp (bU.2 ⟨q,hq,e⟩)
end
section
variable {C:Cx} {Q:aG} {E:Env} {D:List Deferred} {L:List World} {H F:ae} {ops:Array Oper} {l:List Oper}
variable {d ty f:Nat} {pos:String} {aD:Array Edge} {g:Option (Nat×Bool)} {xo:List Operand} {vs:List Value} {ea:Array Nat}
theorem ML{γ:Type}{v:γ->Value}{Φ:ae->γ->Prop}(az:dR C.P f)(hw:nq ops E g=some true)(hN:Nat.blt d C.N=true)(ha:iv E xo=some vs)(hc:∀W,St (ky F) L H W->Calls C.P f vs.toArray W (λe w'=>∃x F',e= .returned (v x)/\Below W.heap.size W w'/\(∀p∈F',W.heap.size<=p.1/\w'.heap[p.1]? =some p.2)/\Φ F' x))(k:∀x F',Φ F' x->(∀p∈F',ad L p.1)->OJ C ops Q l ((d,v x)::E) D (ky (F'++F)) L H):OJ C ops Q (⟨some d,.call ⟨.value (.func f),xo.toArray,ea⟩,ty,pos,aD,g⟩::l) E D (ky F) L H:=
 nZ rfl hw rfl ha z1 az λa W iu hD hF hS=>(hc W hS).mono (by
  rintro ed W' ⟨x,F',rfl,hb,J4,hx⟩;exact k x F' hx (λp hp=>J9 hS (J4 p hp).1) (a.put (some d) (v x)) W' kO jW (hF.put _ lM) (hS.fzAdd hb J4))
variable {G:Gh} {m:Nat}
theorem GX{α:Type}{enc:α->List Value}{t:Nat}{v:Value->Value}{Φ:World->World->List α->Prop}(az:dR C.P f)(hw:nq ops E g=some true)(hN:Nat.blt d C.N=true)(ha:iv E xo=some vs)(hm:∀x,(enc x).length=m)(hc:∀W,St G L H W->Calls C.P f vs.toArray W (λe w'=>∃xs,Φ W w' xs/\nC W enc m t xs v e w'))(k:∀W (xs:List α) a cp w1,St G L H W->Below W.heap.size W w1->Φ W w1 xs->ah (λx=>(enc x).toArray) m w1.heap.size w1 a xs->(∀b,a=some b->W.heap.size<=b.block)->OJ C ops Q l ((d,v (.slice a xs.length cp))::E) D G (w1::L) H):OJ C ops Q (⟨some d,.call ⟨.value (.func f),xo.toArray,ea⟩,ty,pos,aD,g⟩::l) E D G L H:=
 nZ rfl hw rfl ha z1 az λac W iu hD hF hS=>(hc W hS).mono (by
  rintro ed W' ⟨xs,hΦ,r,rfl,hb,lN,bT,gn⟩;obtain⟨a,cp,he,aJ⟩:=r.sl hm bT gn (ao _);have:=k W xs a cp W' hS hb hΦ aJ (by
   intro b sG;cases r with
   |nil=>simp only[Rw.val,Value.slice.injEq]at he;rw[<-he.1]at sG;cases sG
   |row b' cap sp=>simp only[Rw.val,Value.slice.injEq]at he;rw[<-he.1]at sG;cases sG;exact lN) (ac.put (some d) (v (.slice a xs.length cp))) W' kO jW (hF.put _ lM) (hS.step hb).snap
  rw[he];exact this)
end
/-! ### walks that say the world exactly -/
section
variable (C:Cx)
def PX (Q:aG) (e:Exit) (E:Env) (T:World->Prop):Prop:=∀a W,a.tmps.size=C.N->a.defers=[]->Fits E a->T W->Q e a W
def CX (c:Code) (Q:aG) (E:Env) (T:World->Prop):Prop:=∀a W,a.tmps.size=C.N->a.defers=[]->Fits E a->T W->c.wpIn (FW C.r) 0 C.P Q a W
def OX (ops:Array Oper) (Q:aG) (l:List Oper) (E:Env) (T:World->Prop):Prop:=∀a W,a.tmps.size=C.N->a.defers=[]->Fits E a->T W->wpListIn (FW C.r) 0 C.P ops Q l a W
end
section
variable {C:Cx} {Q:aG} {E E':Env} {T:World->Prop} {ops:Array Oper} {l:List Oper}
theorem CX.region{id:Nat}(h:OX C l.toArray Q l E T):CX C (.region id l.toArray false) Q E T:=λa W hN hD hF hS=>wpIn_region_lit (h a W hN hD hF hS)
variable {y:Code}
theorem CX.seq{x:Code}(h:CX C x (Exit.then (y.wpIn (FW C.r) 0 C.P Q) Q) E T):CX C (.seq x y) Q E T:=λa W hN hD hF hS=>wpIn_seq (h a W hN hD hF hS)
theorem CX.block{id:Nat}{c:Code}(h:CX C c (Exit.inBlock id Q) E T):CX C (.block id c) Q E T:=λa W hN hD hF hS=>wpIn_block (h a W hN hD hF hS)
theorem CX.skip(h:PX C Q .normal E T):CX C .skip Q E T:=λa W hN hD hF hS=>wpIn_skip (h a W hN hD hF hS)
theorem CX.ret(h:PX C Q .ret E T):CX C .ret Q E T:=λa W hN hD hF hS=>wpIn_ret (h a W hN hD hF hS)
theorem CX.exit{id:Nat}(h:PX C Q (.exit id) E T):CX C (.exit id) Q E T:=λa W hN hD hF hS=>wpIn_exit (h a W hN hD hF hS)
theorem PX.next(h:CX C y Q E T):PX C (Exit.then (y.wpIn (FW C.r) 0 C.P Q) Q) .normal E T:=h
theorem OX.done(h:PX C Q .normal E T):OX C ops Q [] E T:=h
theorem CX.condT{c:Operand}{x:Code}(hc:ev E c=some (.bool true))(h:CX C x Q E T):CX C (.cond c x y) Q E T:=λa W hN hD hF hS=>wpIn_cond_true (hF.ev hc) (h a W hN hD hF hS)
theorem CX.condF{c:Operand}{x:Code}(hc:ev E c=some (.bool false))(h:CX C y Q E T):CX C (.cond c x y) Q E T:=λa W hN hD hF hS=>wpIn_cond_false (hF.ev hc) (h a W hN hD hF hS)
theorem PX.retThen{R:Act->World->Prop}(h:PX C Q .ret E T):PX C (Exit.then R Q) .ret E T:=h
theorem PX.exThen{R:Act->World->Prop}{id:Nat}(h:PX C Q (.exit id) E T):PX C (Exit.then R Q) (.exit id) E T:=h
theorem PX.retBlock{id:Nat}(h:PX C Q .ret E T):PX C (Exit.inBlock id Q) .ret E T:=h
theorem PX.norBlock{id:Nat}(h:PX C Q .normal E T):PX C (Exit.inBlock id Q) .normal E T:=h
theorem PX.exHit{id:Nat}(h:PX C Q .normal E T):PX C (Exit.inBlock id Q) (.exit id) E T:=λa W hN hD hF hS=>by
 simp only[Exit.inBlock];have:=h a W hN hD hF hS;simpa using this
theorem OX.fix(h:∀W1,T W1->OX C ops Q l E (· =W1)):OX C ops Q l E T:=λa W hN hD hF hS=>h W hS a W hN hD hF rfl
variable {aD:Array Edge} {L:List World} {ty:Nat} {pos:String} {v:Value}
theorem pe{o:Op}{d:Nat}{g:Option (Nat×Bool)}(hT:∀W,T W->St Gh.no L [] W)(hnd:nth o=true)(hw:nq ops E g=some true)(hN:Nat.blt d C.N=true)(h:RV C Gh.no L [] E o v)(k:OX C ops Q l ((d,v)::E) T):OX C ops Q (⟨some d,o,ty,pos,aD,g⟩::l) E T:=by
 intro a W iu hD hF hS;have hr:=h d ty pos aD g a W hF (hT W hS);unfold wpListIn;rw[if_pos (uW hF hw)];refine⟨λ_ _=>trivial,?_⟩;rw[Oper.semAt_eq _ _ _ (CK hnd),hr,Oper.uponIn_value];exact k (a.put (some d) v) W kO jW (hF.put _ lM) hS
variable {x:Operand}
theorem TG{d t:Nat}{g:Option (Nat×Bool)}(hw:nq ops E g=some true)(hN:Nat.blt d C.N=true)(hx:ev E x=some v)(k:∀W,T W->OX C ops Q l ((d,ptr W.heap.size 0)::E) (· =W.alloc (.cells v.cells t (0,0)))):OX C ops Q (⟨some d,.box t x,ty,pos,aD,g⟩::l) E T:=by
 intro a W iu hD hF hS;have hr:(execOp a.eval ⟨some d,.box t x,ty,pos,aD,g⟩).run C.P W= .ok (.value (ptr W.heap.size 0)) (W.alloc (.cells v.cells t (0,0))):=naj (hF.ev hx);unfold wpListIn;rw[if_pos (uW hF hw)];refine⟨λ_ _=>trivial,?_⟩;rw[Oper.semAt_eq _ _ _ z1,hr,Oper.uponIn_value];exact k W hS (a.put (some d) (ptr W.heap.size 0)) _ kO jW (hF.put _ lM) rfl
variable {ea:Array Nat} {vs:List Value} {f:Nat}
theorem MF{d:Nat}{g:Option (Nat×Bool)}{xs:List Operand}{first cap:List Value}{T':World->Prop}(hx:ev E x=some (.func (.func f) first.toArray cap.toArray))(az:dR C.P f)(hw:nq ops E g=some true)(hN:Nat.blt d C.N=true)(ha:iv E xs=some vs)(hc:∀W,T W->Calls C.P f (first++vs++cap).toArray W (λe w'=>e= .returned v/\T' w'))(k:OX C ops Q l ((d,v)::E) T'):OX C ops Q (⟨some d,.call ⟨.value x,xs.toArray,ea⟩,ty,pos,aD,g⟩::l) E T:=by
 intro a W iu hD hF hS;unfold wpListIn;rw[if_pos (uW hF hw)];refine⟨λ_ _=>trivial,?_⟩;have hr:(execOp a.eval ⟨some d,.call ⟨.value x,xs.toArray,ea⟩,ty,pos,aD,g⟩).run C.P W= .ok (.enter f (first++vs++cap).toArray) W:=by
  have h2:(xs.toArray).map a.eval=vs.toArray:=by rw[yt,HN hF xs vs ha]
  simp only[execOp,resolve,hF.ev hx,Deferred.ofValue,h2];have h3:=az (first++vs++cap).toArray W;simp only[i7]at h3 ⊢;simp[invoke,h3]
 rw[Oper.semAt_eq _ _ _ z1,hr,Oper.uponIn_enter];refine⟨by simp,CG.2 ((hc W hS).mono ?_)⟩;rintro e W' ⟨rfl,h⟩;exact k (a.put (some d) v) W' kO jW (hF.put _ lM) h
def Ka {α:Type} (C:Cx) (Ei:α->Env) (Ti:α->World->Prop) (ok:α->Prop) (μ:α->Nat) (x:α):Act->World->Prop:=λa W=>
 ∃x',ok x'/\μ x'<μ x/\a.tmps.size=C.N/\a.defers=[]/\Fits (Ei x') a/\Ti x' W
theorem CX.loop{α:Type}{c:Code}(Ei:α->Env)(Ti:α->World->Prop)(ok:α->Prop)(μ:α->Nat)(x0:α)(h0:ok x0)(hE:Sub (Ei x0) E)(hT:∀W,T W->Ti x0 W)(round:∀x,ok x->CX C c (Exit.then (Ka C Ei Ti ok μ x) Q) (Ei x) (Ti x)):CX C (.loop c) Q E T:=by
 intro a W hN hD hF hS
 let Inv:Act->World->Nat->Prop:=λa W m=>∃x,μ x=m/\ok x/\a.tmps.size=C.N/\a.defers=[]/\Fits (Ei x) a/\Ti x W
 refine wpIn_loop (λa W=>∃m,Inv a W m) (λa W=>PT (Inv a W)) ⟨_,x0,rfl,h0,hN,hD,hE.fits hF,hT W hS⟩ ?_;exact znj
theorem PX.again{α:Type}{Ei:α->Env}{Ti:α->World->Prop}{ok:α->Prop}{μ:α->Nat}{x:α}(x':α)(h0:ok x')(hlt:μ x'<μ x)(hE:Sub (Ei x') E)(hT:∀W,T W->Ti x' W):PX C (Exit.then (Ka C Ei Ti ok μ x) Q) .normal E T:=λa W hN hD hF hS=>⟨x',h0,hlt,hN,hD,hE.fits hF,hT W hS⟩
variable {R:Ending->World->Prop}
theorem Jw{fn:Func}{t:Nat}{e:Exit}(he:e= .ret\/e= .normal)(hr:fn.results=#[.tmp t])(hv:look E t=some v)(h:∀W,T W->R (.returned v) W):PX C (bodyPost C.P fn R) e E T:=by
 intro a W hN hD hF hS;have:bodyPost C.P fn R .ret a W:=⟨hD,v,by rw[results_tmp hr];exact congrArg (λu=>Result.ok u W) (hF t v hv),h W hS⟩;rcases he with rfl|rfl<;>exact this
end
variable {R:Ending->World->Prop} {vs:List Value} {N f:Nat}
theorem ME{P:Program}{fn:Func}{c:Code}{w:World}(hf:P.funcs[f]? =some fn)(hb:fn.body=some c)(hN:fn.ntmps=N)(hl:Nat.ble vs.length N=true)(h:CX ⟨P,none,N⟩ c (bodyPost P fn R) (yu 0 vs) (· =w)):Calls P f vs.toArray w R:=by
 rw[<-CG (r:=none) (n:=0)];refine callsIn_of_wp hf hb trivial (h _ w ?_ rfl ?_ rfl)
 ·exact UR
 exact UQ vs _
def Gz (w0:World) (W:World):Prop:=∃q os,W=Sort.grow (w0.drewN q) os
theorem Gz.refl(w:World):Gz w w:=⟨0,#[],by simp[Sort.grow,World.drewN]⟩
theorem Gz.trans{a b c:World}(h:Gz a b)(k:Gz b c):Gz a c:=by
 obtain⟨q,os,rfl⟩:=h;obtain⟨q',Bj,rfl⟩:=k;exact⟨q+q',os++Bj,by simp[Sort.grow,World.drewN,Nat.add_assoc]⟩
theorem Gz.alloc(w:World)(o:Obj):Gz w (w.alloc o):=⟨0,#[o],by rw[Sort.alloc_eq_grow];simp[Sort.grow,World.drewN]⟩
variable {W:World}
theorem Gz.below{w:World}(h:Gz w W):Below w.heap.size w W:=by
 obtain⟨q,os,rfl⟩:=h;refine⟨rfl,rfl,rfl,?_,λk hk=>?_⟩
 ·simp[Sort.grow,World.drewN]
 simp only[Sort.grow,World.drewN];rw[PS hk]
variable {L:List World}
theorem TJ(h:∀w∈L,Below w.heap.size w W):St Gh.no L [] W:=
 ⟨trivial,λ_ h=>h.elim,λ_ h=>h.elim,λw' hw=>(aI.of_below (X:=λk=>Gh.no.X k\/k∈([]:ae).map (·.1)) (h w' hw)),λ_ h=>by simp at h,λ_ _ _ _ h=>by simp at h,λ_ h=>by simp at h⟩
section
variable {C:Cx} {Q:aG} {E:Env} {D:List Deferred} {G:Gh} {L:List World} {H:ae} {id:Nat}
def P8 (C:Cx) (l:List Oper) (G:Gh) (E:Env) (D:List Deferred) (sp:Sp) (ch:List Nat) (eB:List (List Nat)) (Ph:List (Option Value)->List World->ae->Prop):Nat->List Nat->Prop
 |_,[]=>True
 |k,c::rest=>(∀(rq:List Nat) (o:Oper) (ds:List Nat),eB[k]? =some rq->l[c]? =some o->sp[c]? =some (ds,none)->∀cv L' H',cv.length=ch.length->xE rq k cv=true->Ph cv L' H'->∀(F:Env) (Q':aG),
  (∀v dB dC,Ph (cv.set k (some v)) dB dC->PJ C Q' .normal (py o v (bN l.toArray sp ch cv ds++(E++F))) D G dB dC)->OJ C l.toArray Q' [o] (bN l.toArray sp ch cv ds++(E++F)) D G L' H')/\P8 C l G E D sp ch eB Ph (k+1) rest
theorem nbh{l:List Oper}{sp:Sp}{ch:List Nat}{eB:List (List Nat)}{Ph:List (Option Value)->List World->ae->Prop}:∀(rest:List Nat) (n:Nat),P8 C l G E D sp ch eB Ph n rest->∀(k c:Nat) (rq:List Nat) (o:Oper) (ds:List Nat),rest[k]? =some c->eB[n+k]? =some rq->l[c]? =some o->sp[c]? =some (ds,none)->∀cv L' H',cv.length=ch.length->xE rq (n+k) cv=true->Ph cv L' H'->∀(F:Env) (Q':aG),(∀v dB dC,Ph (cv.set (n+k) (some v)) dB dC->PJ C Q' .normal (py o v (bN l.toArray sp ch cv ds++(E++F))) D G dB dC)->OJ C l.toArray Q' [o] (bN l.toArray sp ch cv ds++(E++F)) D G L' H'
 | [],_,_,k,c,_,_,_,h,_,_,_=>by simp at h
 |c'::rest,n,h,k,c,rq,o,ds,hk,hr,hl,hs=>by
  cases k with
  |zero=>simp at hk;subst hk;exact h.1 rq o ds hr hl hs
  |succ k=>
   rw[show n+(k+1)=n+1+k by omega]at hr ⊢;exact nbh rest (n+1) h.2 k c rq o ds NV hr hl hs
variable {eB:List (List Nat)} {Ph:List (Option Value)->List World->ae->Prop} {ch ds rest:List Nat} {k:Nat}
theorem TU{l:List Oper}{sp:Sp}{c:Nat}{rq:List Nat}{o:Oper}(h0:eB[k]? =some rq)(h1:l[c]? =some o)(h2:sp[c]? =some (ds,none))(h:∀cv L' H',cv.length=ch.length->xE rq k cv=true->Ph cv L' H'->∀(F:Env) (Q':aG),(∀v dB dC,Ph (cv.set k (some v)) dB dC->PJ C Q' .normal (py o v (bN l.toArray sp ch cv ds++(E++F))) D G dB dC)->OJ C l.toArray Q' [o] (bN l.toArray sp ch cv ds++(E++F)) D G L' H')(t:P8 C l G E D sp ch eB Ph (k+1) rest):P8 C l G E D sp ch eB Ph k (c::rest):=
 ⟨λrq' o' sW e0 e1 e2=>by
  rw[h0]at e0;cases e0;rw[h1]at e1;cases e1;rw[h2]at e2;cases e2;exact h,t⟩
theorem nnS{l:List Oper}{sp:Sp}:P8 C l G E D sp ch eB Ph k []:=trivial
theorem CJ.ntS{l:List Oper}(nA:Nat)(ch:List Nat)(sp:Sp)(eB:List (List Nat))(Ph:List (Option Value)->List World->ae->Prop)(hm:C.P.follows .mixedOrders=true)(h0:Ph (ch.map λ_=>none) L H)(jf:HV l.toArray nA (sp.map (·.1)) E=true)(aJ:xG l sp=true)(hN:yw C.N l=true)(kN:qT l ch 0 eB=true)(hnd:CQ ch=true)(rA:pZ ch 0 sp=true)(fE:ch.all (λc=>Nat.blt c nA)=true)(PZ:eB.length=ch.length)(pure:Ep C l.toArray G E sp ch Ph l sp)(step:P8 C l G E D sp ch eB Ph 0 ch)(fin:∀cv L' H',cv.length=ch.length->cv.all (λx=>x.isSome)=true->Ph cv L' H'->OJ C l.toArray Q (l.drop nA) (bN l.toArray sp ch cv (List.range nA)++E) D G L' H'):CJ C (.region id l.toArray true) Q E D G L H:=
 nKj nA ch sp eB Ph hm h0 jf aJ hN kN hnd rA fE (YJ l sp pure)
  (λk c rq o ds d hk hr hl hs hd cv L' H' hlen uS hP F Q' hc=>by
   have:=nbh ch 0 step k c rq o ds hk (by rw[i6];exact hr) hl hs cv L' H' hlen;rw[i6]at this;exact this uS hP F Q' (λv dB dC On=>by have:=hc v dB dC On;simpa only[py,hd]using this))
  (λk c rq o ds hk hr hl hs hd cv L' H' hlen uS hP F Q' hc=>by
   have:=nbh ch 0 step k c rq o ds hk (by rw[i6];exact hr) hl hs cv L' H' hlen;rw[i6]at this;exact this uS hP F Q' (λv dB dC On=>by have:=hc v dB dC On;simpa only[py,hd]using this)) PZ fin
end
end Px
