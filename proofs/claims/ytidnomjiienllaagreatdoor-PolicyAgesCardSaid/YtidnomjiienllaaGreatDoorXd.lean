/- The memory of a call, its operations, iterators, slices, maps: lemmas by which the walks go. No condition beyond those that each theorem states. -/
import Derived.Test.YtidnomjiienllaaGreatDoorXc
import Derived.Shelf.SlSortCmp.NoneTotal
import Derived.Maps.RangeRun
import Derived.WideKeyRuns
import Derived.Sort.Grow
import Derived.Deep.Draws
set_option linter.unusedSimpArgs false
set_option linter.unusedVariables false
set_option linter.unusedSectionVars false
set_option maxRecDepth 20000
set_option maxHeartbeats 8000000
namespace Px
open Go Go.RowKit
/-! ### iterators whose consumer lays blocks on the way -/
abbrev Foot:=Nat->Prop
def Vup (V:Foot) (W1 W2:World):Foot:=λk=>V k\/(W1.heap.size<=k/\k<W2.heap.size)
def n7b (P:Program) (f:Nat) (cap:List Value) {α:Type} (enc:α->List Value) (Pre Fin:List α->Prop) (MI RO:Foot) (W:World):Prop:=
 ∀(l:Nat) (M:Foot) (I:List α->Foot->World->Prop) (X:Foot->World->Prop),
  (∀k,M k->k<W.heap.size/\¬MI k/\¬RO k)->
  (∀pre V,Stab (λk=>(k<W.heap.size/\¬MI k)\/V k) (I pre V))->(∀V,Stab (λk=>(k<W.heap.size/\¬MI k)\/V k) (X V))->
  (∀pre x V W1,Pre (pre++[x])->(∀k,V k->W.heap.size<=k/\k<W1.heap.size)->I pre V W1->nNg P l (enc x).toArray W1 (λb W2=>Keep (λk=>M k\/V k) W1 W2/\(if b then I (pre++[x]) (Vup V W1 W2) W2 else X (Vup V W1 W2) W2)))->
  I [] (λ_=>False) W->
  Calls P f (yv l::cap).toArray W (λe W'=>(∃v,e= .returned v)/\Keep (λk=>M k\/MI k) W W'/\∃V,(∃xs,Fin xs/\I xs V W')\/X V W')
abbrev Pfx {α:Type} (xs:List α):List α->Prop:=(· <+:xs)
abbrev Is {α:Type} (xs:List α):List α->Prop:=(· =xs)
variable {aft:Array Edge} {tys:Array Nat} {os:Array Obj} {cs:Array Value} {assign body y:Code} {C:Cx} {R:Ending->World->Prop} {E:Env} {e:Exit} {G:Gh} {H H':Heap} {D:List Deferred} {xs:List Int} {bs ch ds js rest:List Nat} {rs:List ResultVar} {sp us vs:List Value} {L:List World} {rec:Loop} {N N' T b et i j k kt m size tx u:Nat} {fr:Nat×Nat} {MI RO:Nat->Prop} {o:Obj} {fv x:Operand} {a:Option Addr} {pos:String} {sv zv:Value} {W W' w':World} {I:World->Prop}
theorem St.yield2{G':Gh}(h:St G L H W)(hk:Keep G.M W W')(hX:∀k,G.X k->G'.X k)(hX':∀k,G'.X k->G.X k\/(W.heap.size<=k/\k<W'.heap.size))(hV:∀k,G'.V k->G.V k\/(W.heap.size<=k/\k<W'.heap.size))(hR:G'.R W'):St G' L H W' where
 ghost:=hR
 vlt:=λk hv=>by
  rcases hV k hv with h1|h1
  ·exact ado (h.vlt k h1) hk.size
  exact h1.2
 xlt:=λk hv=>by
  rcases hX' k hv with h1|h1
  ·exact ado (h.xlt k h1) hk.size
  exact h1.2
 links:=λw hw=>((h.links w hw).mono (Y:=λk=>G'.X k\/k∈H.map (·.1)) λk _ hx=>hx.imp (hX k) id).trans (hk.mono λk _ hm=>.inl (hX k (G.subX k hm)))
 own:=λp hp=>by rw[hk.block p.1 (h.lt p hp) (λhm=>h.apart p hp (G.sub _ hm))];exact h.own p hp
 nodup:=h.nodup
 apart:=λp hp hv=>by
  rcases hV _ hv with h1|h1
  ·exact h.apart p hp h1
  have:=h.lt p hp;omega
section
variable {C:Cx} {Q:Post} {E:Env} {D:List Deferred} {G:Gh} {L:List World} {H:Heap} {ops:Array Oper} {l:List Oper}
variable {d ty:Nat} {pos:String} {aft:Array Edge} {g:Option (Nat×Bool)} {x:Operand} {xs:List Operand} {vs:List Value} {tys:Array Nat}
structure Next (G:Gh) (W W':World) (G':Gh):Prop where
 x:∀k,G.X k->G'.X k
 x':∀k,G'.X k->G.X k\/(W.heap.size<=k/\k<W'.heap.size)
 v:∀k,G'.V k->G.V k\/(W.heap.size<=k/\k<W'.heap.size)
 r:G'.R W'
theorem yldG{y:Nat}(T1 T2:Gh->Prop)(hw:nm ops E g=some true)(hN:Nat.blt d C.N=true)(hx:ev E x=some (yv y))(ha:evs E xs=some vs)(hy:∀W,St G L H W->nNg C.P y vs.toArray W (λb W'=>Keep G.M W W'/\∃G',(if b then T1 G' else T2 G')/\Next G W W' G'))(k1:∀G',T1 G'->OJ C ops Q l ((d,.bool true)::E) D G' L H)(k2:∀G',T2 G'->OJ C ops Q l ((d,.bool false)::E) D G' L H):OJ C ops Q (⟨some d,.call ⟨.value x,xs.toArray,tys⟩,ty,pos,aft,g⟩::l) E D G L H:=by
 intro a W hN' hD hF hS;obtain⟨fn,tmps,assign,body,hrun,hround⟩:=hy W hS;unfold wpListIn;rw[if_pos (nsb hF hw)];refine⟨λ_ _=>trivial,?_⟩;have hr:(execOp a.eval ⟨some d,.call ⟨.value x,xs.toArray,tys⟩,ty,pos,aft,g⟩).run C.P W= .ok (.round y fn tmps assign body) W:=by
  exact zrj
 rw[Oper.semAt_eq _ _ _ zS,hr,Oper.uponIn_round];refine⟨by simp,(nBi hround).mono ?_⟩;rintro e W' ⟨b,rfl,hk,G',hT,hn⟩;have hfit:=λv=>hF.put (d:=d) v zqb;have hS':=hS.yield2 hk hn.x hn.x' hn.v hn.r;cases b with
 |true=>exact k1 G' hT (a.put (some d) (.bool true)) W' zrb zpb (hfit _) hS'
 |false=>exact k2 G' hT (a.put (some d) (.bool false)) W' zrb zpb (hfit _) hS'
end
def it2 {W:World} {MI RO M:Foot} (hM:∀k,M k->k<W.heap.size/\¬MI k/\¬RO k) (V:Foot) {R:World->Prop} (hR:Stab (λk=>(k<W.heap.size/\¬MI k)\/V k) R):Gh where
 M:=λk=>M k\/V k
 V:=λk=>(k<W.heap.size/\¬MI k)\/V k
 R:=R
 X:=λk=>M k\/V k
 sub:=λk hk=>hk.imp (λh=>⟨(hM k h).1,(hM k h).2.1⟩) id
 subX:=λ_ hk=>hk
 stab:=hR
def Gh.ext (G:Gh) (Z:Foot):Gh:={G with X:=λk=>G.X k\/Z k,subX:=λk h=>.inl (G.subX k h)}
theorem Rw.Fr_ext{α:Type}{enc:α->List Value}{t:Nat}{xs:List α}{r:Rw}{Z:Foot}(h:∀p∈r.hp enc t xs,Z p.1):r.Fr (G.ext Z) L:=by
 cases r with
 |nil=>trivial
 |row b cap sp=>exact .inl (.inr (h (b,rwO enc t xs sp) zqc))
variable {M:Foot}
theorem nMd{MI RO:Foot}(hM:∀k,M k->k<W.heap.size/\¬MI k/\¬RO k){R:World->Prop}(hR:Stab (λk=>(k<W.heap.size/\¬MI k)\/(λ_=>False) k) R)(h0:R W)(ho:∀p∈H,W.heap[p.1]? =some p.2)(hd:Dist H)(hm:∀p∈H,MI p.1):St (it2 hM (λ_=>False) hR) [W] H W where
 ghost:=h0
 vlt:=λk hk=>by rcases hk with h|h;exact h.1;exact h.elim
 xlt:=λk hk=>by rcases hk with h|h;exact(hM k h).1;exact h.elim
 links:=λw hw=>by simp at hw;subst hw;exact Keep.refl _ _
 own:=ho
 nodup:=hd
 apart:=λp hp hv=>by rcases hv with h|h;exact h.2 (hm p hp);exact h.elim
section
variable {C:Cx} {Q:Post} {E:Env} {D:List Deferred} {L:List World} {H:Heap} {ops:Array Oper} {l:List Oper}
variable {d ty:Nat} {pos:String} {aft:Array Edge} {g:Option (Nat×Bool)} {x:Operand} {xs:List Operand} {vs:List Value} {tys:Array Nat}
variable {W0:World} {MI RO M:Foot} {hM:∀k,M k->k<W0.heap.size/\¬MI k/\¬RO k}
theorem yld2{y:Nat}{V:Foot}{hI:Stab (λk=>(k<W0.heap.size/\¬MI k)\/V k) I}{I1 X1:Foot->World->Prop}(hI1:∀V,Stab (λk=>(k<W0.heap.size/\¬MI k)\/V k) (I1 V))(hX1:∀V,Stab (λk=>(k<W0.heap.size/\¬MI k)\/V k) (X1 V))(hV:∀k,V k->W0.heap.size<=k)(hw0:W0∈L)(hw:nm ops E g=some true)(hN:Nat.blt d C.N=true)(hx:ev E x=some (yv y))(ha:evs E xs=some vs)(hy:∀W1,(∀k,V k->W0.heap.size<=k/\k<W1.heap.size)->I W1->nNg C.P y vs.toArray W1 (λb W2=>Keep (λk=>M k\/V k) W1 W2/\(if b then I1 (Vup V W1 W2) W2 else X1 (Vup V W1 W2) W2)))(k1:∀V2,(∀k,V2 k->W0.heap.size<=k)->OJ C ops Q l ((d,.bool true)::E) D (it2 hM V2 (hI1 V2)) L H)(k2:∀V2,(∀k,V2 k->W0.heap.size<=k)->OJ C ops Q l ((d,.bool false)::E) D (it2 hM V2 (hX1 V2)) L H):OJ C ops Q (⟨some d,.call ⟨.value x,xs.toArray,tys⟩,ty,pos,aft,g⟩::l) E D (it2 hM V hI) L H:=by
 refine yldG (λG'=>∃V2,(∀k,V2 k->W0.heap.size<=k)/\G'=it2 hM V2 (hI1 V2)) (λG'=>∃V2,(∀k,V2 k->W0.heap.size<=k)/\G'=it2 hM V2 (hX1 V2)) hw hN hx ha (λW1 hS=>?_) (by rintro _ ⟨V2,h2,rfl⟩;exact k1 V2 h2) (by rintro _ ⟨V2,h2,rfl⟩;exact k2 V2 h2);obtain⟨fn,tmps,assign,body,hrun,hround⟩:=hy W1 (λk hk=>⟨hV k hk,hS.xlt k (.inr hk)⟩) hS.ghost;have h0:W0.heap.size<=W1.heap.size:=(hS.links W0 hw0).size;have hv:∀W2 k,Vup V W1 W2 k->W0.heap.size<=k:=λW2 k hk=>by
  rcases hk with hk|hk
  ·exact hV k hk
  omega
 refine⟨fn,tmps,assign,body,hrun,hround.mono ?_⟩;rintro e W2 ⟨b,rfl,hk,hb⟩;refine⟨b,rfl,hk,?_⟩;have up3:∀{p:Foot} (k:Nat),(p k\/Vup V W1 W2 k)->(p k\/V k)\/(W1.heap.size<=k/\k<W2.heap.size):=λk h=>h.elim (λh=>.inl (.inl h)) (λh=>h.elim (λh=>.inl (.inr h)) .inr);cases b with
 |true=>exact⟨it2 hM (Vup V W1 W2) (hI1 _),⟨_,hv W2,rfl⟩,⟨λk h=>h.imp id .inl,λk h=>up3 (p:=M) k h,λk h=>up3 (p:=λk=>k<W0.heap.size/\¬MI k) k h,hb⟩⟩
 |false=>exact⟨it2 hM (Vup V W1 W2) (hX1 _),⟨_,hv W2,rfl⟩,⟨λk h=>h.imp id .inl,λk h=>up3 (p:=M) k h,λk h=>up3 (p:=λk=>k<W0.heap.size/\¬MI k) k h,hb⟩⟩
theorem n2b{fn:Func}{V:Foot}{hI:Stab (λk=>(k<W0.heap.size/\¬MI k)\/V k) I}{α:Type}{Fin:List α->Prop}{I':List α->Foot->World->Prop}{X:Foot->World->Prop}(he:e= .ret\/e= .normal)(hr:fn.results=#[])(hw:W0∈L)(hV:∀k,V k->W0.heap.size<=k)(hH:∀k,k<W0.heap.size->k∈H.map (·.1)->MI k)(h:∀A,I A->(∃xs,Fin xs/\I' xs V A)\/X V A):PJ C (bodyPost C.P fn (λe W'=>(∃v,e= .returned v)/\Keep (λk=>M k\/MI k) W0 W'/\∃V,(∃xs,Fin xs/\I' xs V W')\/X V W')) e E [] (it2 hM V hI) L H:=by
 intro a W' _ hD _ hS;have key:bodyPost C.P fn (λe W'=>(∃v,e= .returned v)/\Keep (λk=>M k\/MI k) W0 W'/\∃V,(∃xs,Fin xs/\I' xs V W')\/X V W') .normal a W':=by
  refine⟨hD,.tuple #[],results_none hr _ _ _,⟨_,rfl⟩,(hS.links W0 hw).mono λk hk hx=>?_,V,h W' hS.ghost⟩;rcases hx with(hx|hx)|hx
  ·exact .inl hx
  ·have:=hV k hx;omega
  exact .inr (hH k hk hx)
 exact zXj
end
/-! #### the consumer -/
section
variable {α:Type}
structure Loc (W1:World) (MI M V:Foot) (G':Gh) (Hc:Heap):Prop where
 v:∀k,G'.V k->(k<W1.heap.size/\¬MI k)\/V k
 x:∀k,G'.X k->M k\/V k
 h:∀p∈Hc,M p.1\/V p.1
def rI2 (W1:World) (MI M:Foot) (L:List World) (Inv:List α->Gh->Heap->Prop) (l:Nat) (rec:Loop) (bx:Heap) (pre:List α) (V:Foot) (W:World):Prop:=
 ∃G' Hc,Inv pre G' Hc/\Loc W1 MI M V G' Hc/\St G' L (book Hc l rec bx) W
def rX2 (W1:World) (MI M:Foot) (L:List World) (InvX:Code->Gh->Heap->Prop) (l:Nat) (rec:Loop) (bx:Heap) (V:Foot) (W:World):Prop:=
 ∃c G' Hc,InvX c G' Hc/\Loc W1 MI M V G' Hc/\St G' L (book Hc l {rec with state:=.done,pending:=some c} bx) W
def n5e (P:Program) (W1:World) (MI M:Foot) (L:List World) (V:Foot) (Wy:World) (Inv:List α->Gh->Heap->Prop) (InvX:Code->Gh->Heap->Prop) (l:Nat) (rec:Loop) (bx:Heap) (pre:List α):Post:=
 roundPost P l (λe W'=>∃b,e= .returned (.bool b)/\Keep (λk=>M k\/V k) Wy W'/\(if b then rI2 W1 MI M L Inv l rec bx pre (Vup V Wy W') W' else rX2 W1 MI M L InvX l rec bx (Vup V Wy W') W'))
structure Lent (G:Gh) (H:Heap) (L:List World) (Dk:Nat) (W1:World) (MI M V:Foot) (Wy:World) (G':Gh) (Hc:Heap):Prop where
 loc:Loc W1 MI M V G' Hc
 m:∀k,M k->G.X k\/k∈H.map (·.1)\/k=Dk\/k=Dk+1
 m':∀k,k=Dk\/k=Dk+1->M k
 vge:∀k,V k->W1.heap.size<=k
 dk:Dk+1<W1.heap.size
 above:∀w∈L,w.heap.size<=Dk
theorem Lent.z{Dk:Nat}{W1:World}{MI V:Foot}{Wy:World}{G':Gh}{Hc:Heap}(h:Lent G H L Dk W1 MI M V Wy G' Hc)(hk:k<Dk)(hX:¬G.X k)(hH:k∉H.map (·.1))(hX':¬G'.X k):¬(G'.ext (λk=>M k\/V k)).X k:=by
 rintro(hx|hx|hx)
 ·exact hX' hx
 ·rcases h.m k hx with hx|hx|hx|hx
  ·exact hX hx
  ·exact hH hx
  ·omega
  omega
 have:=h.vge k hx;have:=h.dk;omega
section
variable {C:Cx} {E:Env} {D:List Deferred} {G G' G2:Gh} {L:List World} {H Hc Hc2:Heap} {W1 Wy:World} {MI M V:Foot} {Inv:List α->Gh->Heap->Prop} {InvX:Code->Gh->Heap->Prop} {l Dk:Nat} {rec rec':Loop} {pre:List α}
structure REnd (G G' G2:Gh) (H Hc Hc2:Heap) (L:List World) (Wy:World):Prop where
 gx:∀k,G.X k->G2.X k
 x:∀k,G2.X k->G'.X k\/Wy.heap.size<=k
 v:∀k,G2.V k->G'.V k\/Wy.heap.size<=k
 h:∀p∈Hc2,p.1∈Hc.map (·.1)\/Wy.heap.size<=p.1
 gone:∀p∈H,p.1∈Hc2.map (·.1)\/G2.X p.1\/Above L p.1
theorem REnd.ok(he:REnd G G' G2 H Hc Hc2 L Wy)(hl:Lent G H L Dk W1 MI M V Wy G' Hc)(hlD:l=Dk+1){o:Loop}(hS:St (G2.ext λk=>M k\/V k) (Wy::L) (book Hc2 l o (bxD Dk)) W'):Keep (λk=>M k\/V k) Wy W'/\Loc W1 MI M (Vup V Wy W') G2 Hc2/\St G2 L (book Hc2 l o (bxD Dk)) W':=by
 have hin:∀p∈Hc,M p.1\/V p.1:=hl.loc.h;have hin2:∀k,k∈Hc.map (·.1)->M k\/V k:=λk hk=>by obtain⟨p,hp,rfl⟩:=ano.1 hk;exact hin p hp
 have hb:∀k,k∈(book Hc2 l o (bxD Dk)).map (·.1)↔k∈Hc2.map (·.1)\/k=Dk+1\/k=Dk:=λk=>by subst hlD;simp[book]
 refine⟨(hS.links Wy A0).mono λk hk hx=>?_,⟨λk hv=>?_,λk hx=>?_,λp hp=>?_⟩,?_⟩
 ·rcases hx with(hx|hx)|hx
  ·rcases he.x k hx with h1|h1
   ·exact hl.loc.x k h1
   omega
  ·exact hx
  rcases(hb k).1 hx with hx|hx
  ·obtain⟨p,hp,rfl⟩:=ano.1 hx;rcases he.h p hp with h1|h1
   ·exact hin2 _ h1
   omega
  exact .inl (hl.m' k hx.symm)
 ·rcases he.v k hv with h1|h1
  ·exact(hl.loc.v k h1).imp id .inl
  exact .inr (.inr ⟨h1,hS.vlt k hv⟩)
 ·rcases he.x k hx with h1|h1
  ·exact(hl.loc.x k h1).imp id .inl
  exact .inr (.inr ⟨h1,hS.xlt k (.inl hx)⟩)
 ·rcases he.h p hp with h1|h1
  ·exact(hin2 _ h1).imp id .inl
  exact .inr (.inr ⟨h1,hS.lt p (by simp[book,hp])⟩)
 refine⟨hS.ghost,hS.vlt,λk hk=>hS.xlt k (.inl hk),λw hw=>(hS.links w (.tail _ hw)).mono λk hk hx=>?_,hS.own,hS.nodup,hS.apart⟩;rcases hx with(hx|hx|hx)|hx
 ·exact .inl hx
 ·rcases hl.m k hx with hx|hx|hx
  ·exact .inl (he.gx k hx)
  ·obtain⟨p,hp,rfl⟩:=ano.1 hx;rcases he.gone p hp with h1|h1|h1
   ·exact .inr ((hb _).2 (.inl h1))
   ·exact .inl h1
   have:=h1.mem w hw;omega
  exact .inr ((hb k).2 (.inr hx.symm))
 ·have:=hl.vge k hx;have:=hl.above w hw;have:=hl.dk;omega
 exact .inr hx
theorem nwh{β:Type}{enc:β->List Value}{A A':Heap}(hA:A'.map (·.1)=A.map (·.1)){r:Rw}{b' c t n:Nat}{xs ys:List β}(hf:r.isAt b'\/n<=b'):∀p∈(A'++((Rw.row b' c sp).hp enc t ys++[]):Heap),p.1∈(A++(r.hp enc t xs++[]):Heap).map (·.1)\/n<=p.1:=by
 intro p hp;rw[ayo,asp];rw[asp]at hp;rcases azo.1 hp with hp|hp
 ·exact .inl (azo.2 (.inl (hA▸ano.2 ⟨p,hp,rfl⟩)))
 simp only[Rw.hp,aeo,aCo,or_false]at hp;subst hp;exact hf.imp (λh=>azo.2 (.inr (Rw.mem_at h))) id
theorem nxb(h1:rec.state= .ready)(h2:rec.pending=none):{({rec with state:=.busy}:Loop)with state:=.ready,pending:=none}=rec:=by cases rec;simp_all
theorem njb(hl:Lent G H L Dk W1 MI M V Wy G' Hc)(hlD:l=Dk+1)(he:REnd G G' G2 H Hc Hc2 L Wy)(hr:{rec' with state:=.ready,pending:=none}=rec)(hI:Inv pre G2 Hc2):PJ C (n5e C.P W1 MI M L V Wy Inv InvX l rec (bxD Dk) pre) .normal E D (G2.ext λk=>M k\/V k) (Wy::L) (book Hc2 l rec' (bxD Dk)):=by
 intro a W hN hD hF hS;have hS':=hS.loop {rec' with state:=.ready,pending:=none};obtain⟨h1,h2,h3⟩:=he.ok hl hlD hS';refine⟨_,W.putObj l (.loop {rec' with state:=.ready,pending:=none}),run_endRound none hS.loopAt,true,rfl,h1,G2,Hc2,hI,h2,?_⟩;rw[hr]at h3 ⊢;exact h3
theorem nSc{c:Code}(hl:Lent G H L Dk W1 MI M V Wy G' Hc)(hlD:l=Dk+1)(he':REnd G G' G2 H Hc Hc2 L Wy)(he:(e= .ret/\c= .ret)\/∃id,e= .exit id/\c= .exit id)(hr:{rec' with state:=.done,pending:=some c}={rec with state:=.done,pending:=some c})(hI:InvX c G2 Hc2):PJ C (n5e C.P W1 MI M L V Wy Inv InvX l rec (bxD Dk) pre) e E D (G2.ext λk=>M k\/V k) (Wy::L) (book Hc2 l rec' (bxD Dk)):=by
 intro a W hN hD hF hS;have hS':=hS.loop {rec' with state:=.done,pending:=some c};obtain⟨h1,h2,h3⟩:=he'.ok hl hlD hS';have key:∃v w',(Instr.endRound l (some c)).run C.P W= .ok v w'/\∃b,Ending.returned v= .returned (.bool b)/\Keep (λk=>M k\/V k) Wy w'/\(if b then rI2 W1 MI M L Inv l rec (bxD Dk) pre (Vup V Wy w') w' else rX2 W1 MI M L InvX l rec (bxD Dk) (Vup V Wy w') w'):=by
  refine⟨_,W.putObj l (.loop {rec' with state:=.done,pending:=some c}),run_endRound (some c) hS.loopAt,false,rfl,h1,c,G2,Hc2,hI,h2,?_⟩;rw[hr]at h3 ⊢;exact h3
 rcases he with⟨rfl,rfl⟩|⟨id,rfl,rfl⟩<;>exact key
end
theorem nCg{Q:Post}(h:∀W,St G L H W->PJ C Q e E D G L H):PJ C Q e E D G L H:=λa W hN hD hF hS=>h W hS a W hN hD hF hS
theorem nod{Hc:Heap}{l Dk:Nat}(hS:St G L (book Hc l rec (bxD Dk)) W):∀p∈Hc,p.1≠Dk/\p.1≠l:=by
 intro p hp;have h:=(n0c _).1 hS.nodup;rw[book,ayo,List.nodup_append]at h;have h1:=h.2.2 p.1 (ano.2 ⟨p,hp,rfl⟩);exact⟨h1 Dk zS,h1 l zS⟩
theorem range2{B:World->Prop}{P:Program}{Q:Post}{g:Operand}{ps:Array Tmp}{f:Nat}{cap:List Value}{enc:α->List Value}{Pre Fin:List α->Prop}(hg:ev E g=some (.func (.func f) #[] cap.toArray))(hent:Ent P f)(hit:∀W W2,St G L H W->B W->Below W.heap.size W W2->n7b P f cap enc Pre Fin MI RO W2)(hMI:∀W,St G L H W->B W->(∀k,MI k->k<W.heap.size/\Above L k/\k∉H.map (·.1)/\¬G.V k/\¬G.X k))(hRO:∀W,St G L H W->(∀k,RO k->k<W.heap.size/\k∉H.map (·.1)/\¬G.X k))(hps:∀x,(enc x).length=ps.size)(Inv:List α->Gh->Heap->Prop)(InvX:Code->Gh->Heap->Prop)(h0:Inv [] G H)(hpN:∀p∈ps.toList,p<N)(round:∀(pre:List α) (x:α) (G':Gh) (Hc:Heap) (l Dk:Nat) (rec:Loop) (W1:World) (M V:Foot) (Wy:World),rec.state= .ready->rec.pending=none->Pre (pre++[x])->Inv pre G' Hc->Above L Dk->l=Dk+1->l<Wy.heap.size->Above L Wy.heap.size->Lent G H L Dk W1 MI M V Wy G' Hc->St G' L (book Hc l rec (bxD Dk)) Wy->CJ ⟨P,some l,N⟩ assign (nWf ⟨P,some l,N⟩ l body (n5e P W1 MI M L V Wy Inv InvX l rec (bxD Dk) (pre++[x]))) ((ps.toList.zip (enc x)).reverse++E) [] (G'.ext λk=>M k\/V k) (Wy::L) (book Hc l rec (bxD Dk)))(done:∀xs l Dk rec G' Hc,Fin xs->Above L Dk->l=Dk+1->Inv xs G' Hc->PJ ⟨P,none,N⟩ Q .normal E (coll Dk::D) G' L (book Hc l rec (bxD Dk)))(stop:∀l Dk rec c G' Hc,Above L Dk->l=Dk+1->InvX c G' Hc->CJ ⟨P,none,N⟩ c Q E (coll Dk::D) G' L (book Hc l rec (bxD Dk))):∀a W,a.tmps.size=N->a.defers=D->Fits E a->St G L H W->B W->(Code.rangeFunc g ps assign body).wpIn (FW none) 0 P Q a W:=by
 intro a W hN hD hF hS hBW;refine wpIn_rangeFunc ?_;intro fn _;have hsz:(W.alloc (.deferred (some []))).heap.size=W.heap.size+1:=by simp
 obtain⟨rec,hrec⟩:∃rec:Loop,rec={state:=.ready,pending:=none,fn,tmps:=a.tmps,params:=ps,assign,body,defers:=W.heap.size}:=⟨_,rfl⟩;obtain⟨W1,hW1⟩:∃W1,W1=(W.alloc (.deferred (some []))).alloc (.loop rec):=⟨_,rfl⟩;have hS1:St G L (book H (W.heap.size+1) rec (bxD W.heap.size)) W1:=by
  have h1:=(hS.alloc (.deferred (some []))).alloc (.loop rec);rw[hsz]at h1;rw[hW1];exact h1.perm (List.perm_append_comm (l₁:=[_,_]) (l₂:=H))
 have hB1:Below W.heap.size W W1:=by
  rw[hW1];exact((Below.refl _ _).alloc (abo _) _).alloc zS _
 have hW1s:W1.heap.size=W.heap.size+2:=by rw[hW1];simp
 have he:(Instr.enterLoop fn a.tmps ps assign body (none:Option Nat)).run P W= .ok (W.heap.size+1,[coll W.heap.size]) W1:=by
  rw[hW1,hrec];exact run_enterLoop_outer _ _ _ _ _
 refine⟨W.heap.size+1,[coll W.heap.size],W1,{target:=.fn (.func f) cap.toArray,args:=#[yv (W.heap.size+1)]},W1,f,(yv (W.heap.size+1)::cap).toArray,W1,he,?_,λ_ _=>trivial,?_,by simp,?_⟩
 ·simp[resolve,hF.ev hg,Deferred.ofValue];rfl
 ·simp[invoke,hent _ W1]
 refine nIb.2 ?_;have hMI1:∀k,MI k->k<W.heap.size/\Above L k/\k∉H.map (·.1)/\¬G.V k/\¬G.X k:=hMI W hS hBW
 let M:Foot:=λk=>G.X k\/k∈H.map (·.1)\/k=W.heap.size\/k=W.heap.size+1
 have hMlt:∀k,M k->k<W1.heap.size/\¬MI k/\¬RO k:=by
  rintro k (hk|hk|hk|hk)
  ·exact⟨hS1.xlt k hk,λh=>(hMI1 k h).2.2.2.2 hk,λh=>(hRO W hS k h).2.2 hk⟩
  ·exact⟨by obtain⟨p,hp,rfl⟩:=ano.1 hk;have:=hS.lt p hp;omega,λh=>(hMI1 k h).2.2.1 hk,λh=>(hRO W hS k h).2.1 hk⟩
  ·exact zZj
  exact zZj
 have stab:∀{V:Foot} {G':Gh} {Hc:Heap} {o:Loop},Loc W1 MI M V G' Hc->Stab (λk=>(k<W1.heap.size/\¬MI k)\/V k) (St G' L (book Hc (W.heap.size+1) o (bxD W.heap.size))):=by
  intro V G' Hc o hloc A B hA ho ht hou hs hsame;refine⟨G'.stab A B hA.ghost ho ht hou hs (λk hv=>hsame k (hloc.v k hv)),λk hv=>ado (hA.vlt k hv) hs,λk hv=>ado (hA.xlt k hv) hs,λw hw=>?_,λp hp=>?_,hA.nodup,hA.apart⟩
  ·have h1:=hA.links w hw;exact⟨ho.trans h1.os,ht.trans h1.tape,hou.trans h1.output,aco h1.size hs,λk hk hx=>(hsame k (.inl ⟨ado hk (hS1.links w hw).size,λhm=>by have:=(hMI1 k hm).2.1.mem w hw;omega⟩)).trans (h1.block k hk hx)⟩
  have hq:M p.1\/V p.1:=by
   simp only[book,azo,aeo,aCo,or_false]at hp;rcases hp with hp|rfl|rfl
   ·exact hloc.h p hp
   ·exact .inl (.inr (.inr (.inr rfl)))
   exact .inl (.inr (.inr (.inl rfl)))
  rw[hsame p.1 (hq.imp (λh=>⟨(hMlt _ h).1,(hMlt _ h).2.1⟩) id)];exact hA.own p hp
 have hloc0:Loc W1 MI M (λ_=>False) G H:=⟨λk hv=>.inl ⟨hS1.vlt k hv,λhm=>(hMI1 k hm).2.2.2.1 hv⟩,λk hx=>.inl (.inl hx),λp hp=>.inl (.inr (.inl (ano.2 ⟨p,hp,rfl⟩)))⟩;have hfold:∀x,(ps.zip (enc x).toArray).foldl (λtmps (p:Tmp×Value)=>match p with|(t,a)=>tmps.setIfInBounds t a) a.tmps=(ps.toList.zip (enc x)).foldl (λt (p:Nat×Value)=>t.setIfInBounds p.1 p.2) a.tmps:=by
  intro x;rw[<-Array.foldl_toList,Array.toList_zip]
 have hspec:=hit W W1 hS hBW hB1 (W.heap.size+1) M (rI2 W1 MI M L Inv (W.heap.size+1) rec (bxD W.heap.size)) (rX2 W1 MI M L InvX (W.heap.size+1) rec (bxD W.heap.size)) hMlt
  (λpre V A B hA ho ht hou hs hsame=>by
   obtain⟨G',Hc,hi,hloc,hst⟩:=hA;exact⟨G',Hc,hi,hloc,stab hloc A B hst ho ht hou hs hsame⟩)
  (λV A B hA ho ht hou hs hsame=>by
   obtain⟨c,G',Hc,hi,hloc,hst⟩:=hA;exact⟨c,G',Hc,hi,hloc,stab hloc A B hst ho ht hou hs hsame⟩)
  (λpre x V Wy hpre hV hI=>by
   obtain⟨G',Hc,hi,hloc,hst⟩:=hI;have hy:=run_yield (P:=P) (args:=(enc x).toArray) hst.loopAt (by simp[hps,hrec]);refine⟨_,_,_,_,hy,roundIn_of_wpIn (F:=FW none) trivial ?_⟩;have hsY:W1.heap.size<=Wy.heap.size:=by
    have h1:=hst.lt (W.heap.size+1,.loop rec) zS;simp only at h1;omega
   have hlent:Lent G H L W.heap.size W1 MI M V Wy G' Hc:=⟨hloc,λk hk=>hk,λk hk=>.inr (.inr hk),λk hk=>(hV k hk).1,by omega,λw hw=>(hS.links w hw).size⟩;have hS2:St (G'.ext λk=>M k\/V k) (Wy::L) (book Hc (W.heap.size+1) rec (bxD W.heap.size)) Wy:=by
    refine⟨hst.ghost,hst.vlt,λk hk=>?_,λw hw=>?_,hst.own,hst.nodup,hst.apart⟩
    ·rcases hk with hk|hk|hk
     ·exact hst.xlt k hk
     ·exact ado (hMlt k hk).1 hsY
     exact(hV k hk).2
    rcases aeo.1 hw with rfl|hw
    ·exact Keep.refl _ _
    exact(hst.links w hw).mono λk _ hk=>hk.imp .inl id
   have hr:=round pre x G' Hc (W.heap.size+1) W.heap.size rec W1 M V Wy (by rw[hrec]) (by rw[hrec]) hpre hi hS.sizes rfl (ago.1 hst.loopAt).1 hst.sizes hlent hst;have hps':rec.params=ps:=by rw[hrec]
   have has':rec.assign=assign:=by rw[hrec]
   have hbo':rec.body=body:=by rw[hrec]
   have htm':rec.tmps=a.tmps:=by rw[hrec]
   rw[has',hbo',htm',hps',hfold x];have hff:=nng (zs:=ps.toList.zip (enc x)) hF (λp hp=>by rw[hN];exact hpN p.1 (List.of_mem_zip hp).1);exact hr _ Wy (by have:=hff.1;rw[hN]at this;exact this) rfl hff.2 hS2)
  ⟨G,H,h0,hloc0,hS1⟩
 refine hspec.mono ?_;rintro e W2 ⟨⟨v,rfl⟩,hkeep,V,⟨xs,hfin,hI⟩|hX⟩
 ·obtain⟨G',Hc,hi,hloc,hst⟩:=hI;refine⟨rec.pending,_,run_endLoop hst.loopAt (by rw[hrec];simp),?_⟩;rw[show rec.pending=none by rw[hrec]];exact done xs _ _ _ G' Hc hfin hS.sizes rfl hi _ _ (by simpa using hN) (by simp[hD]) (λt v hv=>hF t v hv) (hst.loop _)
 obtain⟨c,G',Hc,hi,hloc,hst⟩:=hX;refine⟨some c,_,run_endLoop hst.loopAt zS,?_⟩;exact stop _ _ _ c G' Hc hS.sizes rfl hi _ _ (by simpa using hN) (by simp[hD]) (λt v hv=>hF t v hv) (hst.loop _)
theorem CJ.range2{P:Program}{Q:Post}{g:Operand}{ps:Array Tmp}{f:Nat}{cap:List Value}{enc:α->List Value}{Pre Fin:List α->Prop}(hg:ev E g=some (.func (.func f) #[] cap.toArray))(hent:Ent P f)(hit:∀W W2,St G L H W->Below W.heap.size W W2->n7b P f cap enc Pre Fin MI RO W2)(hMI:∀W,St G L H W->(∀k,MI k->k<W.heap.size/\Above L k/\k∉H.map (·.1)/\¬G.V k/\¬G.X k))(hRO:∀W,St G L H W->(∀k,RO k->k<W.heap.size/\k∉H.map (·.1)/\¬G.X k))(hps:∀x,(enc x).length=ps.size)(Inv:List α->Gh->Heap->Prop)(InvX:Code->Gh->Heap->Prop)(h0:Inv [] G H)(hpN:∀p∈ps.toList,p<N)(round:∀(pre:List α) (x:α) (G':Gh) (Hc:Heap) (l Dk:Nat) (rec:Loop) (W1:World) (M V:Foot) (Wy:World),rec.state= .ready->rec.pending=none->Pre (pre++[x])->Inv pre G' Hc->Above L Dk->l=Dk+1->l<Wy.heap.size->Above L Wy.heap.size->Lent G H L Dk W1 MI M V Wy G' Hc->St G' L (book Hc l rec (bxD Dk)) Wy->CJ ⟨P,some l,N⟩ assign (nWf ⟨P,some l,N⟩ l body (n5e P W1 MI M L V Wy Inv InvX l rec (bxD Dk) (pre++[x]))) ((ps.toList.zip (enc x)).reverse++E) [] (G'.ext λk=>M k\/V k) (Wy::L) (book Hc l rec (bxD Dk)))(done:∀xs l Dk rec G' Hc,Fin xs->Above L Dk->l=Dk+1->Inv xs G' Hc->PJ ⟨P,none,N⟩ Q .normal E (coll Dk::D) G' L (book Hc l rec (bxD Dk)))(stop:∀l Dk rec c G' Hc,Above L Dk->l=Dk+1->InvX c G' Hc->CJ ⟨P,none,N⟩ c Q E (coll Dk::D) G' L (book Hc l rec (bxD Dk))):CJ ⟨P,none,N⟩ (.rangeFunc g ps assign body) Q E D G L H:=
 λa W hN hD hF hS=>Px.range2 (B:=λ_=>True) hg hent (λW W2 h _ hb=>hit W W2 h hb) (λW h _=>hMI W h) hRO hps Inv InvX h0 hpN round done stop a W hN hD hF hS True.intro
theorem nfn{P:Program}{Q:Post}{H0:Heap}{g:Operand}{ps:Array Tmp}{f:Nat}{cap:List Value}{enc:α->List Value}{Pre Fin:List α->Prop}(hi:H0[i]? =some (b,o))(hH:H0.eraseIdx i=H)(hb:Above L b)(hbX:¬G.X b)(hg:ev E g=some (.func (.func f) #[] cap.toArray))(hent:Ent P f)(hit:∀W W2,St G L H W->W.heap[b]? =some o->Below W.heap.size W W2->n7b P f cap enc Pre Fin (· =b) RO W2)(hRO:∀W,St G L H W->(∀k,RO k->k<W.heap.size/\k∉H.map (·.1)/\¬G.X k))(hps:∀x,(enc x).length=ps.size)(Inv:List α->Gh->Heap->Prop)(InvX:Code->Gh->Heap->Prop)(h0:Inv [] G H)(hpN:∀p∈ps.toList,p<N)(round:∀(pre:List α) (x:α) (G':Gh) (Hc:Heap) (l Dk:Nat) (rec:Loop) (W1:World) (M V:Foot) (Wy:World),rec.state= .ready->rec.pending=none->Pre (pre++[x])->Inv pre G' Hc->Above L Dk->l=Dk+1->l<Wy.heap.size->Above L Wy.heap.size->Lent G H L Dk W1 (· =b) M V Wy G' Hc->St G' L (book Hc l rec (bxD Dk)) Wy->CJ ⟨P,some l,N⟩ assign (nWf ⟨P,some l,N⟩ l body (n5e P W1 (· =b) M L V Wy Inv InvX l rec (bxD Dk) (pre++[x]))) ((ps.toList.zip (enc x)).reverse++E) [] (G'.ext λk=>M k\/V k) (Wy::L) (book Hc l rec (bxD Dk)))(done:∀xs l Dk rec G' Hc,Fin xs->Above L Dk->l=Dk+1->Inv xs G' Hc->PJ ⟨P,none,N⟩ Q .normal E (coll Dk::D) G' L (book Hc l rec (bxD Dk)))(stop:∀l Dk rec c G' Hc,Above L Dk->l=Dk+1->InvX c G' Hc->CJ ⟨P,none,N⟩ c Q E (coll Dk::D) G' L (book Hc l rec (bxD Dk))):CJ ⟨P,none,N⟩ (.rangeFunc g ps assign body) Q E D G L H0:=by
 intro a W hN hD hF hS;have hp:=n6b H0 i _ hi;rw[hH]at hp;have hS1:=hS.perm hp;have hbW:=hS.own _ (ajo hi);have hlt:=(ago.1 hbW).1;have hk:b∉H.map (·.1):=by
  intro hm;obtain⟨p,hp',e⟩:=ano.1 hm;obtain⟨j,hj⟩:=aoo.1 hp';have:=hS1.nodup 0 (j+1) (b,o) p rfl (by simpa using hj) e.symm;omega
 have hV:¬G.V b:=hS1.apart (b,o) zS;exact Px.range2 (B:=λW'=>W'.heap[b]? =some o) hg hent (λW W2 h h1 hb=>hit W W2 h h1 hb) (λW' _ hB' k hk'=>by
  subst hk';exact⟨(ago.1 hB').1,hb,hk,hV,hbX⟩) hRO hps Inv InvX h0 hpN round done stop a W hN hD hF (hS1.drop hb) hbW
section
variable {C:Cx} {fn:Func} {R:Ending->World->Prop} {E:Env} {G:Gh} {L:List World} {H:Heap} {enc:α->List Value} {m:Nat}
theorem retRwM{Dk t tt ct:Nat}{uv:Value}{w:World}{r:Rw}{xs:List α}(he:e= .ret\/e= .normal)(hr:fn.results=#[.cell t T,.tmp u])(hA:AggF C.P T false)(hx:look E t=some (ptr b 0))(hu:look E u=some uv)(hm:(Dk,.deferred (some []))∈H)(hb:(b,.cells cs ct fr)∈H)(hne:b≠Dk)(hv:cs[0]? =some (r.val xs.length))(hfit:r.Fit m xs)(hrh:∀p∈r.hp enc tt xs,p∈H/\p.1≠Dk)(hge:r.ge w.heap.size)(h:∀W H',St G L H' W->H'.map (·.1)=H.map (·.1)->Below w.heap.size w W):PJ C (bodyPostM (FW none) 0 C.P fn (nC w enc m tt xs (λs=>.tuple #[s,uv]))) e E [coll Dk] G L H:=
 retM he hm λa W H' hF hS hst hmap=>by
  obtain⟨i,hi⟩:=aoo.1 (hst _ hb hne);refine⟨_,(RS.w (C:=C) hi hA hx hv (RS.t hu RS.n)).res hr hF hS,r,rfl,h W H' hS hmap,hge,hfit,?_⟩;cases r with
  |nil=>trivial
  |row b' cap sp=>
   obtain⟨h1,h2⟩:=hrh (b',rwO enc tt xs sp) zqc;exact hS.own _ (hst _ h1 h2)
end
end
end Px
namespace Px
open Go Go.RowKit Go.Sort
/-! ### the library's sorts, over own rows -/
theorem nLj(w:World)(os:Array Obj):Keep (λ_=>False) w (grow w os):=
 ⟨rfl,rfl,rfl,by simp[grow],λk hk _=>by simp only[grow];rw[aso hk]⟩
theorem nPf(w:World)(b:Nat)(f:Array Value->Array Value):Keep (· =b) w (mapBlock w b f):=
 ⟨rfl,rfl,rfl,by simp[mapBlock],λk _ hk=>by
  simp only[mapBlock,avo];rw[if_neg (λe=>hk e.symm)]⟩
theorem n3h(w:World)(n:Nat):Keep (λ_=>False) w (Sort.ahead w n):=⟨rfl,rfl,rfl,abo _,λ_ _ _=>rfl⟩
variable {cs:Array Value} {b:Nat} {fr:Nat×Nat}
theorem nMf{w:World}{t:Nat}(f:Array Value->Array Value)(h:w.heap[b]? =some (.cells cs t fr)):(mapBlock w b f).heap[b]? =some (.cells (f cs) t fr):=by
 simp only[mapBlock,avo,if_true,h];rfl
variable {xs:List Int} {sp:List Value}
theorem holdsI{w:World}{t:Nat}(h:w.heap[b]? =some (rwO encZ t xs sp)):Holds (Value.int .i64) w b 0 xs.toArray:=by
 intro j hj;have hj':j<xs.length:=by simpa using hj
 refine⟨?_,by simp[World.frozen?,h]⟩;rw[nAc h,aVo];have e:=nee (enc:=encZ) nB xs sp j hj';rw[arp]at e;have e2:=congrArg (λl=>l[0]?) e;simp only[List.getElem?_take,aGo,encZ]at e2;simp only[Nat.lt_one_iff,Nat.add_zero,if_true]at e2;rw[aUo,e2];simp[hj']
variable {os:Array Obj}
theorem putI{w:World}{t n:Nat}{ys:List Int}(h:w.heap[b]? =some (rwO encZ t xs sp))(hl:ys.length=xs.length):Keep (· =b) w (grow (putRow (Value.int .i64) (Sort.ahead w n) b 0 ys.toArray) os)/\(grow (putRow (Value.int .i64) (Sort.ahead w n) b 0 ys.toArray) os).heap[b]? =some (rwO encZ t ys sp):=by
 have hlt:=(ago.1 h).1;have k1:=(n3h w n).mono (Y:=(· =b)) (λ_ _ h=>h.elim);have k2:=nPf (Sort.ahead w n) b (putCells (Value.int .i64) 0 ys.toArray);have k3:=(nLj (mapBlock (Sort.ahead w n) b (putCells (Value.int .i64) 0 ys.toArray)) os).mono (Y:=(· =b)) (λ_ _ h=>h.elim);refine⟨(k1.trans k2).trans k3,?_⟩;have h2:=nMf (w:=Sort.ahead w n) (putCells (Value.int .i64) 0 ys.toArray) (show(Sort.ahead w n).heap[b]? =_ from h);have h3:(grow (putRow (Value.int .i64) (Sort.ahead w n) b 0 ys.toArray) os).heap[b]? =(mapBlock (Sort.ahead w n) b (putCells (Value.int .i64) 0 ys.toArray)).heap[b]? :=by
  simp only[grow,putRow];rw[aso];have:=(ago.1 h2).1;exact this
 rw[h3,h2];congr 2;apply Array.ext';apply aDo;intro i;have hx:(flt encZ xs).length=xs.length:=by rw[n0 nB,arp]
 have hy:(flt encZ ys).length=ys.length:=by rw[n0 nB,arp]
 have key:∀(zs:List Int) (i:Nat),(flt encZ zs)[i]? =(zs[i]?).map (Value.int .i64):=by
  intro zs;induction zs with
  |nil=>intro i;simp[flt]
  |cons z zs ih=>intro i;cases i with
   |zero=>simp[flt,encZ]
   |succ i=>simpa[flt,encZ]using ih i
 rw[auo,auo];simp only[putCells,Array.getElem?_mapIdx,aUo,a3o,true_and,aVo,amp,Nat.sub_zero];by_cases hi:i<ys.length
 ·rw[aOo zG,aOo zG,key,key];rw[aNo (show i<xs.length by omega),aNo hi];simp[hi]
 rw[aLo zG,aLo zG,hx,hy,hl];have:¬i<xs.length:=by omega
 cases sp[i-xs.length]?<;>simp[hl,this]
variable {k:Nat}
theorem nqj{α:Type}[Inhabited α]{enc:α->List Value}(hk:∀x,(enc x).length=k)(xs:List α):flatK enc k xs.toArray=(flt enc xs).toArray:=by
 apply Array.ext';apply List.ext_getElem (by simp[flatK,n0 hk]);intro i h1 h2;have hi:i<xs.length*k:=by simpa[n0 hk]using h2
 have k0:0<k:=Nat.pos_of_ne_zero (λh=>by subst h;simp at hi);have hj:i/k<xs.length:=Nat.div_lt_of_lt_mul (by rw[a6o];exact hi);have e:=nee hk xs [] (i/k) hj;rw[asp]at e;have hm:i%k<k:=Nat.mod_lt _ k0;have e2:=congrArg (λl=>l[i%k]?) e;simp only[atp hm,aGo]at e2;have e3:i/k*k+i%k=i:=by rw[a6o];exact a4o i k
 rw[e3]at e2;have e4:(flt enc xs)[i]? =some ((flt enc xs)[i]'zGc):=aNo _;rw[e4]at e2;have e5:(xs.toArray[i/k]!)=xs[i/k]:=by simp[hj]
 simp only[flatK,Array.getElem_map,Array.toList_map,aBo,Array.getElem_toList,Array.getElem_range];rw[e5];have h6:(enc xs[i/k])[i%k]? =some ((enc xs[i/k])[i%k]'(by rw[hk];exact hm)):=aNo _;rw[h6]at e2;have e7:=Option.some.inj e2;rw[getElem!_pos (enc xs[i/k]) (i%k) (by rw[hk];exact hm),<-e7]
variable {us:List Value}
theorem holdsV{w:World}{t:Nat}(h:w.heap[b]? =some (.cells (us++sp).toArray t (0,0))):Holds id w b 0 us.toArray:=by
 intro j hj;have hj':j<us.length:=by simpa using hj
 refine⟨?_,by simp[World.frozen?,h]⟩;rw[nAc h,aVo,aUo,aOo hj'];simp[hj']
variable {vs:List Value}
theorem putV{w:World}{t n:Nat}(h:w.heap[b]? =some (.cells (us++sp).toArray t (0,0)))(hl:vs.length=us.length):Keep (· =b) w (grow (putRow id (Sort.ahead w n) b 0 vs.toArray) os)/\(grow (putRow id (Sort.ahead w n) b 0 vs.toArray) os).heap[b]? =some (.cells (vs++sp).toArray t (0,0)):=by
 have k1:=(n3h w n).mono (Y:=(· =b)) (λ_ _ h=>h.elim);have k2:=nPf (Sort.ahead w n) b (putCells id 0 vs.toArray);have k3:=(nLj (mapBlock (Sort.ahead w n) b (putCells id 0 vs.toArray)) os).mono (Y:=(· =b)) (λ_ _ h=>h.elim);refine⟨(k1.trans k2).trans k3,?_⟩;have h2:=nMf (w:=Sort.ahead w n) (putCells id 0 vs.toArray) (show(Sort.ahead w n).heap[b]? =_ from h);have h3:(grow (putRow id (Sort.ahead w n) b 0 vs.toArray) os).heap[b]? =(mapBlock (Sort.ahead w n) b (putCells id 0 vs.toArray)).heap[b]? :=by
  simp only[grow,putRow];rw[aso];exact(ago.1 h2).1
 rw[h3,h2];congr 2;apply Array.ext';apply aDo;intro i;rw[auo,auo];simp only[putCells,Array.getElem?_mapIdx,aUo,a3o,true_and,aVo,amp,Nat.sub_zero];by_cases hi:i<vs.length
 ·rw[aOo zG,aOo zG];rw[aNo (show i<us.length by omega),aNo hi];simp[hi]
 rw[aLo zG,aLo zG,hl];have:¬i<us.length:=by omega
 cases sp[i-us.length]?<;>simp[hl,this]
theorem nkk{α:Type}[Inhabited α]{enc:α->List Value}(hk:∀x,(enc x).length=k){w:World}{t:Nat}{xs:List α}(h:w.heap[b]? =some (rwO enc t xs sp)):HoldsK enc k w b 0 xs.toArray:=by
 unfold HoldsK;rw[nqj hk];exact holdsV h
theorem putK2{α:Type}[Inhabited α]{enc:α->List Value}(hk:∀x,(enc x).length=k){w:World}{t n:Nat}{xs ys:List α}(h:w.heap[b]? =some (rwO enc t xs sp))(hl:ys.length=xs.length):Keep (· =b) w (Go.Proofs.sortWorldK enc k w b 0 n ys.toArray os)/\(Go.Proofs.sortWorldK enc k w b 0 n ys.toArray os).heap[b]? =some (rwO enc t ys sp):=by
 unfold Go.Proofs.sortWorldK putRowK;rw[nqj hk];exact putV h (by rw[n0 hk,n0 hk,hl])
section
variable {C:Cx} {Q:Post} {E:Env} {D:List Deferred} {G:Gh} {L:List World} {H H0 H1:Heap} {ops:Array Oper} {l:List Oper}
variable {d ty f:Nat} {pos:String} {aft:Array Edge} {g:Option (Nat×Bool)} {xo:List Operand} {vs:List Value} {tys:Array Nat}
variable {α:Type} {enc:α->List Value} {m:Nat}
theorem n8c{r:Rw}{t:Nat}{xs ys:List α}(v:Rw->Value)(hH:H=H0++(r.hp enc t xs++H1))(hent:Ent C.P f)(hw:nm ops E g=some true)(hN:Nat.blt d C.N=true)(ha:evs E xo=some vs)(hnil:r= .nil->∀W,St G L H W->Calls C.P f vs.toArray W (λe w'=>e= .returned (v .nil)/\ys=[]/\Below W.heap.size W w'))(hrow:∀b cap sp,r= .row b cap sp->∀W,St G L H W->W.heap[b]? =some (rwO enc t xs sp)->Calls C.P f vs.toArray W (λe w'=>∃sp',e= .returned (v (.row b cap sp'))/\Keep (· =b) W w'/\(Rw.row b cap sp').Fit m ys/\w'.heap[b]? =some (rwO enc t ys sp')))(k:∀r':Rw,r'.Fit m ys->(r.Fr G L->r'.Fr G L)->(∀n,r.ge n->r'.ge n)->(∀n,r'.val n=r.val n)->OJ C ops Q l ((d,v r')::E) D G L (H0++(r'.hp enc t ys++H1))):OJ C ops Q (⟨some d,.call ⟨.value (.func f),xo.toArray,tys⟩,ty,pos,aft,g⟩::l) E D G L H:=by
 cases r with
 |nil=>
  refine nN rfl hw rfl ha zS hent λa W hN' hD hF hS=>(hnil rfl W hS).mono ?_;rintro e W' ⟨rfl,rfl,hb⟩;refine k .nil rfl id (λ_ h=>h) (λ_=>rfl) (a.put (some d) (v .nil)) W' zrb zpb (hF.put _ zqb) ?_;rw[hH]at hS;exact hS.step hb
 |row b cap sp=>
  have hi:H[H0.length]? =some (b,rwO enc t xs sp):=by rw[hH];simp[Rw.hp]
  refine nN rfl hw rfl ha zS hent λa W hN' hD hF hS=>(hrow b cap sp rfl W hS (hS.own _ (ajo hi))).mono ?_;rintro e W' ⟨sp',rfl,hk,hfit,hat⟩;refine k (.row b cap sp') hfit zO (λ_ h=>h) (λ_=>rfl) (a.put (some d) (v (.row b cap sp'))) W' zrb zpb (hF.put _ zqb) ?_;have:=hS.put hi hk hat;rw[hH]at this;simpa[Rw.hp]using this
end
end Px
namespace Px
open Go Go.RowKit
/-! ### maps from numbers to values -/
section
variable {β:Type}
variable {i j:Nat}
theorem nun{l:List Nat}(h:l.Nodup)(hi:i<l.length)(hj:j<l.length)(e:l[i]=l[j]):i=j:=by
 rw[List.Nodup,List.pairwise_iff_getElem]at h;rcases Nat.lt_trichotomy i j with hlt|heq|hlt
 ·exact absurd e (h i j hi hj hlt)
 ·exact heq
 exact absurd e.symm (h j i hj hi hlt)
def kidx (k:Int):List (Int×β)->Nat->Option (Nat×β)
 | [],_=>none
 |p::l,i=>if p.1=k then some (i,p.2)else kidx k l (i+1)
def kget (l:List (Int×β)) (k:Int):Option β:=(kidx k l 0).map (·.2)
def kput (l:List (Int×β)) (k:Int) (v:β):List (Int×β):=match kidx k l 0 with|some (i,_)=>l.set i (k,v)|none=>l++[(k,v)]
def kdel (l:List (Int×β)) (k:Int):List (Int×β):=match kidx k l 0 with|some (i,_)=>l.eraseIdx i|none=>l
theorem nJh(k:Int):∀(l:List (Int×β)) (i j:Nat),kidx k l (i+j)=(kidx k l i).map λp=>(p.1+j,p.2)
 | [],_,_=>rfl
 |p::l,i,j=>by
  unfold kidx;split
  ·rfl
  rw[show i+j+1=i+1+j by omega];exact nJh k l (i+1) j
theorem nLn(k:Int)(l:List (Int×β)):kidx k l 1=(kidx k l 0).map λp=>(p.1+1,p.2):=by
 have:=nJh k l 0 1;simpa using this
theorem nIe{k:Int}:∀{l:List (Int×β)} {i:Nat} {v:β},kidx k l 0=some (i,v)->l[i]? =some (k,v)
 | [],_,_,h=>by simp[kidx]at h
 |p::l,i,v,h=>by
  unfold kidx at h;split at h
  ·rename_i e;simp at h;obtain⟨rfl,rfl⟩:=h;subst e;simp
  rw[nLn]at h;obtain⟨q,hq,e⟩:=ayp.1 h;obtain⟨j,u⟩:=q;simp at e;obtain⟨rfl,rfl⟩:=e;simpa using nIe hq
theorem nMj{k:Int}:∀{l:List (Int×β)} {i:Nat},kidx k l i=none↔k∉l.map (·.1)
 | [],_=>by simp[kidx]
 |p::l,i=>by
  unfold kidx;split
  ·rename_i e;simp[e]
  rename_i e;rw[nMj];simp only[afo,aeo,not_or];exact⟨λh=>⟨λx=>e x.symm,h⟩,λh=>h.2⟩
theorem nZn(l:List (Int×β))(k:Int)(v:β):(kput l k v).map (·.1)=if k∈l.map (·.1)then l.map (·.1)else l.map (·.1)++[k]:=by
 unfold kput;cases hi:kidx k l 0 with
 |none=>rw[if_neg (nMj.1 hi)];simp
 |some q=>
  obtain⟨i,u⟩:=q;have h1:=nIe hi;exact z6i
theorem n6h{l:List (Int×β)}{k:Int}{v:β}(h:(l.map (·.1)).Nodup):((kput l k v).map (·.1)).Nodup:=by
 rw[nZn];exact zxj
theorem nhh(l:List (Int×β))(k:Int):(kdel l k).Sublist l:=by
 unfold kdel;split
 ·exact List.eraseIdx_sublist _ _
 exact List.Sublist.refl _
theorem n8m{l:List (Int×β)}{k:Int}(h:(l.map (·.1)).Nodup):((kdel l k).map (·.1)).Nodup:=(((nhh l k).map (·.1)).nodup h)
structure Mp where
 bs:List Nat
 c:Nat
def mpE (ev:β->Value) (l:List (Int×β)) (bs:List Nat):List MapEntry:=(l.zip bs).map λp=>{key:=.int .i64 p.1.1,val:=ev p.1.2,born:=p.2}
def Mp.obj (ev:β->Value) (l:List (Int×β)) (m:Mp):Obj:=.map (mpE ev l m.bs).toArray m.c
structure Mp.Ok (l:List (Int×β)) (m:Mp):Prop where
 len:m.bs.length=l.length
 lt:∀b∈m.bs,b<m.c
 nd:m.bs.Nodup
 keys:(l.map (·.1)).Nodup
variable {bs:List Nat}
theorem nje{ev:β->Value}{l:List (Int×β)}(h:bs.length=l.length)(i:Nat):(mpE ev l bs)[i]? =(l[i]?).map λp=>{key:=.int .i64 p.1,val:=ev p.2,born:=bs.getD i 0}:=by
 simp only[mpE,aSo,List.zip,List.getElem?_zipWith];exact zCj
theorem ngi(ev:β->Value)(k:Int):∀(l:List (Int×β)) (bs:List Nat) (i:Nat),bs.length=l.length->Instr.findNow (.int .i64) (.int .i64 k) (mpE ev l bs) i=some ((kidx k l i).map λp=>(p.1,ev p.2))
 | [],_,_,_=>rfl
 |p::l,[],_,h=>by simp at h
 |p::l,b::bs,i,h=>by
  have ih:=ngi ev k l bs (i+1) z2b;simp only[mpE,List.zip_cons_cons,afo,Instr.findNow,Instr.sameNow,if_true]at ih ⊢;unfold kidx;by_cases e:p.1=k
  ·rw[if_pos e,show(k==p.1)=true by simp[e]];rfl
  rw[if_neg e,show(k==p.1)=false by simp;exact λx=>e x.symm];exact ih
variable {kt:Nat} {W:World}
theorem nmf{P:Program}(hK:P.underlying kt=some (.int .i64))(ev:β->Value)(k:Int){l:List (Int×β)}(h:bs.length=l.length):(Instr.findKey kt (.int .i64 k) (mpE ev l bs)).run P W= .ok ((kidx k l 0).map λp=>(p.1,ev p.2)) W:=by
 simp[Instr.findKey,run_underlying hK,ngi ev k l bs 0 h]
end
section
variable {C:Cx} {Q:Post} {E:Env} {D:List Deferred} {G:Gh} {L:List World} {H:Heap} {ops:Array Oper} {l:List Oper}
variable {d T ty:Nat} {pos:String} {aft:Array Edge} {g:Option (Nat×Bool)} {x y z:Operand}
variable {β:Type} {ev:β->Value} {kv:List (Int×β)} {m:Mp}
theorem Mp.nil:(Mp.mk [] 0).Ok ([]:List (Int×β)):=⟨rfl,by simp,by simp,by simp⟩
theorem Mp.nil_obj:(Mp.mk [] 0).obj ev []= .map #[] 0:=rfl
variable {b et kt:Nat} {zv:Value} {W:World}
theorem nii{k:Int}{P:Program}(c:Bool)(hU:P.underlying T=some (.map kt et))(hK:P.underlying kt=some (.int .i64))(hz:nvb P et zv)(hm:m.Ok kv)(hb:W.heap[b]? =some (m.obj ev kv)):(Instr.lookup T (.map (some b)) (.int .i64 k) c).run P W= .ok (if c then .tuple #[((kget kv k).map ev).getD zv,.bool (kget kv k).isSome]else((kget kv k).map ev).getD zv) W:=by
 have hb':W.heap[b]? =some (.map (mpE ev kv m.bs).toArray m.c):=hb;have h1:=nmf (P:=P) (W:=W) hK ev k hm.len;have e:kget kv k=(kidx k kv 0).map (·.2):=rfl;cases hi:kidx k kv 0 with
 |none=>
  rw[hi]at h1;have e1:kget kv k=none:=by rw[e,hi];rfl
  cases c<;>simp[Instr.lookup,run_underlying hU,nbb hb',ncb hK,h1,hz W,e1]
 |some q=>
  rw[hi]at h1;have e1:kget kv k=some q.2:=by rw[e,hi];rfl
  cases c<;>simp[Instr.lookup,run_underlying hU,nbb hb',ncb hK,h1,e1]
theorem mget2_r{k:Int}(hU:C.P.underlying T=some (.map kt et))(hK:C.P.underlying kt=some (.int .i64))(hz:nvb C.P et zv)(hm:m.Ok kv)(hb:Lies G L H b (m.obj ev kv))(hx:Px.ev E x=some (.map (some b)))(hy:Px.ev E y=some (.int .i64 k)):RV C G L H E (.lookup T x y true) (.tuple #[((kget kv k).map ev).getD zv,.bool (kget kv k).isSome]):=λd ty pos aft g a W hF hS=>by
 have:=nii (W:=W) (k:=k) true hU hK hz hm (hb W hS);simp[execOp,hF.ev hx,hF.ev hy,this]
theorem mget1_r{k:Int}(hU:C.P.underlying T=some (.map kt et))(hK:C.P.underlying kt=some (.int .i64))(hz:nvb C.P et zv)(hm:m.Ok kv)(hb:Lies G L H b (m.obj ev kv))(hx:Px.ev E x=some (.map (some b)))(hy:Px.ev E y=some (.int .i64 k)):RV C G L H E (.lookup T x y false) (((kget kv k).map ev).getD zv):=λd ty pos aft g a W hF hS=>by
 have:=nii (W:=W) (k:=k) false hU hK hz hm (hb W hS);simp[execOp,hF.ev hx,hF.ev hy,this]
variable {i:Nat}
theorem nxf{k:Int}{v:β}(hi:H[i]? =some (b,m.obj ev kv))(hm:m.Ok kv)(hU:C.P.underlying T=some (.map kt et))(hK:C.P.underlying kt=some (.int .i64))(hw:nm ops E g=some true)(hx:Px.ev E x=some (.map (some b)))(hy:Px.ev E y=some (.int .i64 k))(hz:Px.ev E z=some (ev v))(kk:∀m':Mp,m'.Ok (kput kv k v)->OJ C ops Q l E D G L (H.set i (b,m'.obj ev (kput kv k v)))):OJ C ops Q (⟨none,.mapUpdate T x y z,ty,pos,aft,g⟩::l) E D G L H:=by
 have h1:=λW:World=>nmf (P:=C.P) (W:=W) hK ev k hm.len;cases hk:kidx k kv 0 with
 |none=>
  have e:kput kv k v=kv++[(k,v)]:=by unfold kput;rw[hk]
  have hok:(Mp.mk (m.bs++[m.c]) (m.c+1)).Ok (kput kv k v):=by
   refine⟨by rw[e];simp[hm.len],λb hb=>?_,?_,n6h hm.keys⟩
   ·exact zVj
   exact zJj
  refine nhc rfl zS hw (λa W hF hS=>?_) (kk _ hok);have hb:=hS.own _ (ajo hi);have hlt:b<W.heap.size:=(ago.1 hb).1;have hb':W.heap[b]? =some (.map (mpE ev kv m.bs).toArray m.c):=hb;refine⟨.skip,_,.inl rfl,?_,hS.put hi (ngb W b _) (World.putObj_heap_same hlt)⟩;have h2:=h1 W;rw[hk]at h2;have e2:((mpE ev kv m.bs).toArray.push {key:=.int .i64 k,val:=ev v,born:=m.c})=(mpE ev (kput kv k v) (m.bs++[m.c])).toArray:=by
   rw[e];apply Array.ext';simp only[mpE,Array.toList_push];rw[List.zip_append hm.len.symm];simp
  simp[execOp,hF.ev hx,hF.ev hy,hF.ev hz,Instr.mapUpdate,run_underlying hU,nbb hb',ncb hK,h2,nvc _ hb',e2,Mp.obj]
 |some q=>
  obtain⟨j,u⟩:=q;have e:kput kv k v=kv.set j (k,v):=by unfold kput;rw[hk]
  have hok:m.Ok (kput kv k v):=⟨by rw[e];simp[hm.len],hm.lt,hm.nd,n6h hm.keys⟩;refine nhc rfl zS hw (λa W hF hS=>?_) (kk _ hok);have hb:=hS.own _ (ajo hi);have hlt:b<W.heap.size:=(ago.1 hb).1;have hb':W.heap[b]? =some (.map (mpE ev kv m.bs).toArray m.c):=hb;refine⟨.skip,_,.inl rfl,?_,hS.put hi (ngb W b _) (World.putObj_heap_same hlt)⟩;have h2:=h1 W;rw[hk]at h2;have h3:=nIe hk;have h4:=nje (ev:=ev) hm.len j;rw[h3]at h4;have hk':((((mpE ev kv m.bs).toArray[j]?).map (·.key)).getD (.int .i64 k))= .int .i64 k:=by simp[h4]
  have hs:Instr.sameBits 10000 (.int .i64 k) (.int .i64 k)=true:=by
   exact z7j
  have e2:((mpE ev kv m.bs).toArray.modify j λen=>{en with key:=.int .i64 k,val:=ev v})=(mpE ev (kput kv k v) m.bs).toArray:=by
   rw[e];apply Array.ext';apply aDo;intro i';simp only[Array.toList_modify,List.getElem?_modify];rw[nje hm.len,nje (by simp[hm.len]),azp];exact z5j
  simp only[execOp,hF.ev hx,hF.ev hy,hF.ev hz,Instr.mapUpdate,Sem.run_bind,run_underlying hU,Result.andThen,nbb hb',ncb hK,h2,aTo,hk',Instr.keyThatStays,hs,if_true,Sem.run_pure,nvc _ hb',e2];rfl
theorem mdelV{kt':Nat}{k:Int}{d:Option Nat}(hd:d=none)(hi:H[i]? =some (b,m.obj ev kv))(hm:m.Ok kv)(hU:C.P.underlying T=some (.map kt et))(hK:C.P.underlying kt=some (.int .i64))(hw:nm ops E g=some true)(hx:Px.ev E x=some (.map (some b)))(hy:Px.ev E y=some (.int .i64 k))(kk:∀m':Mp,m'.Ok (kdel kv k)->OJ C ops Q l E D G L (H.set i (b,m'.obj ev (kdel kv k)))):OJ C ops Q (⟨d,.call ⟨.builtin .delete,#[x,y],#[T,kt']⟩,ty,pos,aft,g⟩::l) E D G L H:=by
 subst hd;have h1:=λW:World=>nmf (P:=C.P) (W:=W) hK ev k hm.len;cases hk:kidx k kv 0 with
 |none=>
  have e:kdel kv k=kv:=by unfold kdel;rw[hk]
  have hok:m.Ok (kdel kv k):=by rw[e];exact hm
  refine nhc rfl zS hw (λa W hF hS=>?_) (kk _ hok);have hb:=hS.own _ (ajo hi);have hlt:b<W.heap.size:=(ago.1 hb).1;have hb':W.heap[b]? =some (.map (mpE ev kv m.bs).toArray m.c):=hb;refine⟨.value (.tuple #[]),_,.inr ⟨_,rfl⟩,?_,hS.put hi (ngb W b _) (World.putObj_heap_same hlt)⟩;have h2:=h1 W;rw[hk]at h2;simp[execOp,hF.ev hx,hF.ev hy,resolve,invoke,Deferred.ofValue,builtin,Builtin.delete_,run_underlying hU,nbb hb',ncb hK,h2,nvc _ hb',e,Mp.obj]
 |some q=>
  obtain⟨j,u⟩:=q;have e:kdel kv k=kv.eraseIdx j:=by unfold kdel;rw[hk]
  have hj:=(ako.1 (nIe hk)).1;have hok:(Mp.mk (m.bs.eraseIdx j) m.c).Ok (kdel kv k):=by
   refine⟨by rw[e,List.length_eraseIdx_of_lt hj,List.length_eraseIdx_of_lt (by rw[hm.len];exact hj),hm.len],λb hb=>hm.lt b (List.mem_of_mem_eraseIdx hb),(List.eraseIdx_sublist _ _).nodup hm.nd,n8m hm.keys⟩
  refine nhc rfl zS hw (λa W hF hS=>?_) (kk _ hok);have hb:=hS.own _ (ajo hi);have hlt:b<W.heap.size:=(ago.1 hb).1;have hb':W.heap[b]? =some (.map (mpE ev kv m.bs).toArray m.c):=hb;refine⟨.value (.tuple #[]),_,.inr ⟨_,rfl⟩,?_,hS.put hi (ngb W b _) (World.putObj_heap_same hlt)⟩;have h2:=h1 W;rw[hk]at h2;have hz:∀(l:List (Int×β)) (bs:List Nat) (j:Nat),(l.zip bs).eraseIdx j=(l.eraseIdx j).zip (bs.eraseIdx j):=by
   intro l;induction l with
   |nil=>intro bs j;simp
   |cons p l ih=>
    intro bs j;cases bs with
    |nil=>simp
    |cons b bs=>cases j with
     |zero=>simp
     |succ j=>simp[ih]
  have e2:(mpE ev kv m.bs).eraseIdx j=mpE ev (kdel kv k) (m.bs.eraseIdx j):=by
   rw[e];simp only[mpE];rw[<-hz,ChangeMaps.map_eraseIdx]
  simp[execOp,hF.ev hx,hF.ev hy,resolve,invoke,Deferred.ofValue,builtin,Builtin.delete_,run_underlying hU,nbb hb',ncb hK,h2,nvc _ hb',e2,Mp.obj]
def Mp.it (b:Nat) (m:Mp) (js:List Nat):Obj:=.mapIter (some b) m.c (js.map λj=>m.bs.getD j 0).toArray m.c
theorem mrng(hU:C.P.underlying T=some (.map kt et))(hb:Lies G L H b (m.obj ev kv))(hw:nm ops E g=some true)(hN:Nat.blt d C.N=true)(hx:Px.ev E x=some (.map (some b)))(k:∀rb:Nat,Above L rb->Off H rb->OJ C ops Q l ((d,ptr rb 0)::E) D G L ((rb,m.it b [])::H)):OJ C ops Q (⟨some d,.range T x,ty,pos,aft,g⟩::l) E D G L H:=
 nqb zS hw hN λa W hF hS=>by
  have hb':W.heap[b]? =some (.map (mpE ev kv m.bs).toArray m.c):=hb W hS;refine⟨_,_,_,_,?_,hS.alloc (m.it b []),k W.heap.size hS.sizes hS.offNew⟩;have:=run_range_map (P:=C.P) W T kt et b _ _ hU hb';simp[execOp,hF.ev hx,this,Mp.it]
theorem mrng0(hU:C.P.underlying T=some (.map kt et))(hw:nm ops E g=some true)(hN:Nat.blt d C.N=true)(hx:Px.ev E x=some (.map none))(k:∀rb:Nat,Above L rb->Off H rb->OJ C ops Q l ((d,ptr rb 0)::E) D G L ((rb,.mapIter none 0 #[] 0)::H)):OJ C ops Q (⟨some d,.range T x,ty,pos,aft,g⟩::l) E D G L H:=
 nqb zS hw hN λa W hF hS=>by
  refine⟨_,_,_,_,?_,hS.alloc (.mapIter none 0 #[] 0),k W.heap.size hS.sizes hS.offNew⟩;have:=run_range_nilMap (P:=C.P) W T kt et hU;simp[execOp,hF.ev hx,this]
theorem mnext0{rb:Nat}(hi:H[i]? =some (rb,.mapIter none 0 #[] 0))(hw:nm ops E g=some true)(hN:Nat.blt d C.N=true)(hx:Px.ev E x=some (ptr rb 0))(k:OJ C ops Q l ((d,.tuple #[.bool false])::E) D G L H):OJ C ops Q (⟨some d,.next x false,ty,pos,aft,g⟩::l) E D G L H:=
 nqb zS hw hN λa W hF hS=>by
  have hr:=hS.own _ (ajo hi);refine⟨_,W,L,H,?_,hS,k⟩;simp[execOp,hF.ev hx,Instr.next,getObj,Sem.run,hr]
variable {js:List Nat}
theorem mnext{rb:Nat}(hi:H[i]? =some (rb,m.it b js))(hm:m.Ok kv)(hb:Lies G L H b (m.obj ev kv))(hjs:∀j∈js,j<kv.length)(hw:nm ops E g=some true)(hN:Nat.blt d C.N=true)(hx:Px.ev E x=some (ptr rb 0))(k1:(∀j,j<kv.length->j∈js)->OJ C ops Q l ((d,.tuple #[.bool false])::E) D G L H)(k2:∀(j:Nat) (p:Int×β),kv[j]? =some p->j∉js->OJ C ops Q l ((d,.tuple #[.bool true,.int .i64 p.1,ev p.2])::E) D G L (H.set i (rb,m.it b (js++[j])))):OJ C ops Q (⟨some d,.next x false,ty,pos,aft,g⟩::l) E D G L H:=
 nqb zS hw hN λa W hF hS=>by
  have hr:W.heap[rb]? =some (.mapIter (some b) m.c (js.map λj=>m.bs.getD j 0).toArray m.c):=hS.own _ (ajo hi);have hb':W.heap[b]? =some (.map (mpE ev kv m.bs).toArray m.c):=hb W hS;have hlt:rb<W.heap.size:=(ago.1 hr).1;have hborn:∀e∈(mpE ev kv m.bs).toArray.toList,e.born<m.c:=by
   intro e he;obtain⟨j,hj⟩:=aoo.1 he;simp only at hj;rw[nje hm.len]at hj;obtain⟨p,hp,rfl⟩:=ayp.1 hj;have hjl:=(ako.1 hp).1;have:j<m.bs.length:=by rw[hm.len];exact hjl
   exact hm.lt _ (by simp[List.getD,this])
  have hin:∀j,j<kv.length->((js.map λj=>m.bs.getD j 0).toArray.contains (m.bs.getD j 0)=true↔j∈js):=by
   intro j hj;rw[Array.contains_iff_mem];simp only[List.mem_toArray,ano];constructor
   ·rintro⟨j',h1,h2⟩;have h3:=hjs j' h1;have hb1:j<m.bs.length:=by rw[hm.len];exact hj
    have hb2:j'<m.bs.length:=by rw[hm.len];exact h3
    simp only[List.getD,aNo hb1,aNo hb2,Option.getD_some]at h2;have:=nun hm.nd hb2 hb1 h2;subst this;exact h1
   exact λh=>⟨j,h,rfl⟩
  have hex:∀{v W'},(Instr.next (.pointer (some ⟨rb,0,none⟩)) false ty).run C.P W= .ok v W'->(execOp a.eval ⟨some d,.next x false,ty,pos,aft,g⟩).run C.P W= .ok (.value v) W':=by
   intro v W' hh;simp[execOp,hF.ev hx,hh]
  rcases run_next_at (P:=C.P) W ty rb b m.c m.c _ _ m.c hr hb' hborn (abo _)with⟨h0,hrun⟩|⟨e,he,W1,hW1,hrun⟩
  ·refine⟨_,W,L,H,hex hrun,hS,k1 λj hj=>?_⟩;apply(hin j hj).1;apply Decidable.byContradiction;intro hn;have hat:=nje (ev:=ev) hm.len j;rw[aNo hj]at hat;have hmem:=ajo hat;have:(leftOf (mpE ev kv m.bs).toArray (js.map λj=>m.bs.getD j 0).toArray)=#[]:=Array.eq_empty_of_size_eq_zero h0;unfold leftOf at this;rw[Array.filter_eq_empty_iff]at this;have h2:=this _ (by simpa using hmem);simp only[Bool.not_eq_true,Bool.not_eq_false']at h2;exact hn h2
  unfold leftOf at he;rw[Array.toList_filter,aMo]at he;obtain⟨hm1,hm2⟩:=he;obtain⟨j,hj⟩:=aoo.1 hm1;simp only at hj;rw[nje hm.len]at hj;obtain⟨p,hp,rfl⟩:=ayp.1 hj;have hjl:=(ako.1 hp).1;have hn:j∉js:=λh=>by
   have h1:=(hin j hjl).2 h;have h2:(!((js.map λj=>m.bs.getD j 0).toArray.contains (m.bs.getD j 0)))=true:=hm2;rw[h1]at h2;cases h2
  have hS1:St G L H W1:=by
   rcases hW1 with rfl|rfl
   ·exact hS
   exact hS.step (nub W _)
  have hlt1:rb<W1.heap.size:=(ago.1 (hS1.own _ (ajo hi))).1;have hput:=hS1.put hi (ngb W1 rb (m.it b (js++[j]))) (World.putObj_heap_same hlt1);refine⟨_,_,L,_,hex hrun,?_,k2 j p hp hn⟩;have e1:ChangeMaps.setBlock W1 rb (.mapIter (some b) m.c ((js.map λj=>m.bs.getD j 0).toArray.push (m.bs.getD j 0)) m.c)=W1.putObj rb (m.it b (js++[j])):=by
   simp[ChangeMaps.setBlock,World.putObj,Mp.it]
  rw[e1];exact hput
variable {j:Nat}
theorem ment_r{rb:Nat}{p:Int×β}(hi:H[i]? =some (rb,m.it b (js++[j])))(hm:m.Ok kv)(hb:Lies G L H b (m.obj ev kv))(hp:kv[j]? =some p)(hx:Px.ev E x=some (ptr rb 0)):RV C G L H E (.entry x) (.tuple #[.int .i64 p.1,ev p.2]):=λd ty pos aft g a W hF hS=>by
 have hr:W.heap[rb]? =some (.mapIter (some b) m.c (((js++[j]).map λj=>m.bs.getD j 0).toArray) m.c):=hS.own _ (ajo hi);have hb':W.heap[b]? =some (.map (mpE ev kv m.bs).toArray m.c):=hb W hS;have hat:=nje (ev:=ev) hm.len j;rw[hp]at hat;have hnd:((mpE ev kv m.bs).toArray.toList.map (·.born)).Nodup:=by
  have:(mpE ev kv m.bs).toArray.toList.map (·.born)=m.bs:=by
   simp only[mpE,List.map_map];rw[show((λx:MapEntry=>x.born)∘λp:(Int×β)×Nat=>({key:=.int .i64 p.1.1,val:=ev p.1.2,born:=p.2}:MapEntry))=Prod.snd from rfl];rw[List.map_snd_zip];exact Nat.le_of_eq hm.len
  rw[this];exact hm.nd
 have:=run_entry_at (P:=C.P) W rb b m.c (js.map λj=>m.bs.getD j 0).toArray _ m.c _ (by rw[hr];simp) hb' (ajo hat) hnd;simp[execOp,hF.ev hx,this]
theorem mkMV(ev:β->Value)(hw:nm ops E g=some true)(hN:Nat.blt d C.N=true)(k:∀(b:Nat),Above L b->Off H b->OJ C ops Q l ((d,.map (some b))::E) D G L ((b,(Mp.mk [] 0).obj ev [])::H)):OJ C ops Q (⟨some d,.makeMap T none,ty,pos,aft,g⟩::l) E D G L H:=
 nqb zS hw hN λa W _ hS=>⟨.map (some W.heap.size),W.alloc ((Mp.mk [] 0).obj ev []),_,_,by simp[execOp,Instr.makeMap,Mp.nil_obj],hS.alloc _,k W.heap.size hS.sizes hS.offNew⟩
end
section
variable {C:Cx} {Q:Post} {E:Env} {D:List Deferred} {G:Gh} {L:List World} {H H0 H1:Heap} {ops:Array Oper} {l:List Oper}
variable {d ty f:Nat} {pos:String} {aft:Array Edge} {g:Option (Nat×Bool)} {xo:List Operand} {vs:List Value} {tys:Array Nat}
variable {β:Type} {ev:β->Value} {kv:List (Int×β)}
def RetMp (w:World) (ev:β->Value) (kv:List (Int×β)) (v:Value->Value):Ending->World->Prop:=λe w'=>
 ∃(b:Nat) (m:Mp),e= .returned (v (.map (some b)))/\Below w.heap.size w w'/\w.heap.size<=b/\m.Ok kv/\w'.heap[b]? =some (m.obj ev kv)
theorem nDk{v:Value->Value}(hent:Ent C.P f)(hw:nm ops E g=some true)(hN:Nat.blt d C.N=true)(ha:evs E xo=some vs)(hc:∀W,St G L H W->Calls C.P f vs.toArray W (RetMp W ev kv v))(k:∀(b:Nat) (m:Mp),Above L b->Off H b->m.Ok kv->OJ C ops Q l ((d,v (.map (some b)))::E) D G L ((b,m.obj ev kv)::H)):OJ C ops Q (⟨some d,.call ⟨.value (.func f),xo.toArray,tys⟩,ty,pos,aft,g⟩::l) E D G L H:=
 nN rfl hw rfl ha zS hent λa W hN' hD hF hS=>(hc W hS).mono (by
  rintro ed W' ⟨b,m,rfl,hb,hge,hm,hat⟩;exact k b m (n1c hS hge) (nLc hS hge) hm (a.put (some d) (v (.map (some b)))) W' zrb zpb (hF.put _ zqb) ((hS.step hb).adopt hat (nLc hS hge) (λhv=>by have:=hS.vlt _ hv;omega)))
variable {e:Exit} {rs:List ResultVar} {us:List Value} {b i:Nat}
theorem retMp{fn:Func}{v:Value->Value}{w:World}{m:Mp}(he:e= .ret\/e= .normal)(hr:fn.results=rs.toArray)(h:RS C Gh.no L H E rs us)(hw:w∈L)(ho:Over w.heap.size H)(hv:nFg us=v (.map (some b)))(hm:m.Ok kv)(hi:H[i]? =some (b,m.obj ev kv)):PJ C (bodyPost C.P fn (RetMp w ev kv v)) e E [] Gh.no L H:=
 retG he hr h λW hS=>⟨b,m,by rw[hv],hS.base hw ho,ho.mem _ (ajo hi),hm,hS.own _ (ajo hi)⟩
variable {m:Nat}
theorem nbj{α:Type}{enc:α->List Value}{t:Nat}{Fin:List α->Prop}{v:Value->Value}(hent:Ent C.P f)(hw:nm ops E g=some true)(hN:Nat.blt d C.N=true)(ha:evs E xo=some vs)(hc:∀W,St G L H W->Calls C.P f vs.toArray W (λe w'=>∃xs,Fin xs/\nC W enc m t xs v e w'))(k:∀(xs:List α) (r:Rw),Fin xs->r.Fr G L->r.Fit m xs->OJ C ops Q l ((d,v (r.val xs.length))::E) D G L (r.hp enc t xs++H)):OJ C ops Q (⟨some d,.call ⟨.value (.func f),xo.toArray,tys⟩,ty,pos,aft,g⟩::l) E D G L H:=
 nN rfl hw rfl ha zS hent λa W hN' hD hF hS=>(hc W hS).mono (by
  rintro ed W' ⟨xs,hfin,r,rfl,hb,hge,hfit,hat⟩;refine k xs r hfin ?_ hfit (a.put (some d) (v (r.val xs.length))) W' zrb zpb (hF.put _ zqb) ?_
  ·cases r with
   |nil=>trivial
   |row b cap sp=>exact Fr.up hS hge
  cases r with
  |nil=>exact hS.step hb
  |row b cap sp=>exact(hS.step hb).adopt hat (nLc hS hge) (λhv=>by have:=hS.vlt _ hv;have:W.heap.size<=b:=hge;omega))
variable {o:Obj} {x:Operand}
theorem n9h{γ:Type}{v:γ->Value}{ob:γ->Obj}{Φ:γ->Prop}{first cap:List Value}(hi:H[i]? =some (b,o))(hx:Px.ev E x=some (.func (.func f) first.toArray cap.toArray))(hent:Ent C.P f)(hw:nm ops E g=some true)(hN:Nat.blt d C.N=true)(ha:evs E xo=some vs)(hc:∀W,St G L H W->W.heap[b]? =some o->Calls C.P f (first++vs++cap).toArray W (λe w'=>∃y,e= .returned (v y)/\Keep (· =b) W w'/\Φ y/\w'.heap[b]? =some (ob y)))(k:∀y,Φ y->OJ C ops Q l ((d,v y)::E) D G L (H.set i (b,ob y))):OJ C ops Q (⟨some d,.call ⟨.value x,xo.toArray,tys⟩,ty,pos,aft,g⟩::l) E D G L H:=
 nN rfl hw hx ha zS hent λa W hN' hD hF hS=>(hc W hS (hS.own _ (ajo hi))).mono (by
  rintro ed W' ⟨y,rfl,hk,hP,hat⟩;exact k y hP (a.put (some d) (v y)) W' zrb zpb (hF.put _ zqb) (hS.put hi hk hat))
variable {N N':Nat} {a:Option Addr} {w':World}
theorem SlAt.blk{α:Type}{enc:α->Array Value}{n:Nat}{w:World}{xs:List α}(h:SlAt enc n N w a xs)(hw:∀b off,a=some ⟨b,off,none⟩->b<N->b<N'/\w'.heap[b]? =w.heap[b]?):SlAt enc n N' w' a xs:=by
 rcases h with h|⟨b,off,cs,t,fr,h1,h2,h3,h4⟩
 ·exact .inl h
 obtain⟨g1,g2⟩:=hw b off h1 h2;exact .inr ⟨b,off,cs,t,fr,h1,g1,g2.trans h3,h4⟩
def RetCh {α:Type} (w:World) (ev:β->Value) (kv:List (Int×β)) (enc:α->List Value) (n:Nat) (ds:List α) (v:Value->Value->Value):Ending->World->Prop:=λe w'=>
 ∃(b:Nat) (m:Mp) (a:Option Addr) (cp:Nat),e= .returned (v (.map (some b)) (.slice a ds.length cp))/\Below w.heap.size w w'/\w.heap.size<=b/\m.Ok kv/\w'.heap[b]? =some (m.obj ev kv)/\SlAt (λx=>(enc x).toArray) n w'.heap.size w' a ds/\∀q,a=some q->w.heap.size<=q.block/\q.block≠b
theorem n0h{α:Type}{enc:α->List Value}{n:Nat}{ds:List α}{v:Value->Value->Value}(hent:Ent C.P f)(hw:nm ops E g=some true)(hN:Nat.blt d C.N=true)(ha:evs E xo=some vs)(hc:∀W,St G L H W->Calls C.P f vs.toArray W (RetCh W ev kv enc n ds v))(k:∀(b:Nat) (m:Mp) (a:Option Addr) (cp:Nat) (W w1:World),St G L H W->Below W.heap.size W w1->W.heap.size<=b->b<w1.heap.size->Above L b->Off H b->m.Ok kv->SlAt (λx=>(enc x).toArray) n w1.heap.size w1 a ds->(∀q,a=some q->W.heap.size<=q.block/\q.block≠b)->OJ C ops Q l ((d,v (.map (some b)) (.slice a ds.length cp))::E) D G (w1::L) ((b,m.obj ev kv)::H)):OJ C ops Q (⟨some d,.call ⟨.value (.func f),xo.toArray,tys⟩,ty,pos,aft,g⟩::l) E D G L H:=
 nN rfl hw rfl ha zS hent λac W hN' hD hF hS=>(hc W hS).mono (by
  rintro ed W' ⟨b,m,a,cp,rfl,hb,hge,hm,hat,hsl,hne⟩;refine k b m a cp W W' hS hb hge (ago.1 hat).1 (n1c hS hge) (nLc hS hge) hm hsl hne (ac.put (some d) (v (.map (some b)) (.slice a ds.length cp))) W' zrb zpb (hF.put _ zqb) ?_;exact((hS.step hb).snap.adopt hat (nLc hS hge) (λhv=>by have:=hS.vlt _ hv;omega)))
variable {H':Heap}
theorem OJ.perm(hp:H.Perm H')(k:OJ C ops Q l E D G L H'):OJ C ops Q l E D G L H:=λa W hN hD hF hS=>k a W hN hD hF (hS.perm hp)
theorem PJ.perm(hp:H.Perm H')(k:PJ C Q e E D G L H'):PJ C Q e E D G L H:=λa W hN hD hF hS=>k a W hN hD hF (hS.perm hp)
variable {fv:Operand}
theorem n9c{α:Type}{enc:α->List Value}{t:Nat}{xs:List α}{v:Value->Value}{first cap:List Value}(hx:Px.ev E fv=some (.func (.func f) first.toArray cap.toArray))(hent:Ent C.P f)(hw:nm ops E g=some true)(hN:Nat.blt d C.N=true)(ha:evs E xo=some vs)(hc:∀W,St G L H W->Calls C.P f (first++vs++cap).toArray W (nC W enc m t xs v))(k:∀r:Rw,r.Fr G L->r.Fit m xs->OJ C ops Q l ((d,v (r.val xs.length))::E) D G L (H++(r.hp enc t xs++[]))):OJ C ops Q (⟨some d,.call ⟨.value fv,xo.toArray,tys⟩,ty,pos,aft,g⟩::l) E D G L H:=
 ned hx hent hw hN ha hc λr h1 h2=>OJ.perm zbc (k r h1 h2)
end
/-! ### loops whose rounds lay marks; ranges inside of iterators -/
section
variable {C:Cx} {Q:Post} {E:Env} {D:List Deferred} {G:Gh} {L:List World} {H:Heap}
def loopKD {α:Type} (C:Cx) (Di:α->List Deferred) (Ei:α->Env) (Hi:α->Heap) (Li:α->List World) (Gi:α->Gh) (ok:α->Prop) (μ:α->Nat) (x:α):Act->World->Prop:=λa W=>
 ∃x',ok x'/\μ x'<μ x/\a.tmps.size=C.N/\a.defers=Di x'/\Fits (Ei x') a/\St (Gi x') (Li x') (Hi x') W
theorem CJ.loopD{α:Type}{c:Code}(Di:α->List Deferred)(Ei:α->Env)(Hi:α->Heap)(Li:α->List World)(Gi:α->Gh)(ok:α->Prop)(μ:α->Nat)(x0:α)(h0:ok x0)(hE:Sub (Ei x0) E)(hH:Hi x0=H)(hG:Gi x0=G)(hL:∀w∈Li x0,w∈L)(hDi:Di x0=D)(round:∀x,ok x->CJ C c (Exit.then (loopKD C Di Ei Hi Li Gi ok μ x) Q) (Ei x) (Di x) (Gi x) (Li x) (Hi x)):CJ C (.loop c) Q E D G L H:=by
 intro a W hN hD hF hS;subst hH;subst hG;subst hDi
 let Inv:Act->World->Nat->Prop:=λa W m=>∃x,μ x=m/\ok x/\a.tmps.size=C.N/\a.defers=Di x/\Fits (Ei x) a/\St (Gi x) (Li x) (Hi x) W
 refine zJg ?_;exact zni
theorem nOn{α:Type}{Di:α->List Deferred}{Ei:α->Env}{Hi:α->Heap}{Li:α->List World}{Gi:α->Gh}{ok:α->Prop}{μ:α->Nat}{x:α}(x':α)(h0:ok x')(hlt:μ x'<μ x)(hE:Sub (Ei x') E)(hH:Hi x'=H)(hG:Gi x'=G)(hL:∀w∈Li x',w∈L)(hDi:Di x'=D):PJ C (Exit.then (loopKD C Di Ei Hi Li Gi ok μ x) Q) .normal E D G L H:=by
 intro a W hN hD hF hS;subst hH;subst hG;subst hDi;exact⟨x',h0,hlt,hN,hD,hE.fits hF,hS.lessL hL⟩
abbrev Mk:=Nat×Loop×Nat
def mkH (ms:List Mk):Heap:=ms.flatMap λq=>[(q.1,.loop q.2.1),(q.2.2,.deferred (some []))]
def mkD (ms:List Mk):List Deferred:=ms.map λq=>coll q.2.2
theorem nYk(l Dk:Nat)(rec:Loop)(ms:List Mk)(H:Heap):(book (H++mkH ms) l rec (bxD Dk)).Perm (H++mkH ((l,rec,Dk)::ms)):=by
 simp only[book,mkH,avp,a2o];refine List.Perm.append_left H ?_;exact List.perm_append_comm
variable {ms:List Mk}
theorem mkH_mem:∀k∈ms.map (·.2.2),(k,.deferred (some []))∈mkH ms:=by
 intro k hk;obtain⟨q,hq,rfl⟩:=ano.1 hk;exact List.mem_flatMap.2 ⟨q,hq,by simp⟩
theorem mkD_eq(ms:List Mk):mkD ms=(ms.map (·.2.2)).map coll:=by simp[mkD]
def mkGe (n:Nat) (ms:List Mk):Prop:=∀q∈ms,n<=q.1/\n<=q.2.2
theorem nug{n:Nat}(h:mkGe n ms):∀p∈mkH ms,n<=p.1:=by
 intro p hp;obtain⟨q,hq,hp⟩:=List.mem_flatMap.1 hp;have:=h q hq;simp only[aeo,aCo,or_false]at hp;rcases hp with rfl|rfl
 ·exact this.1
 exact this.2
variable {k:Nat}
theorem nvm{n:Nat}(h:mkGe n ms)(hk:k<n):Off (mkH ms) k:=Off.of_mem λhm=>by
 obtain⟨p,hp,e⟩:=ano.1 hm;have:=nug h p hp;omega
variable {W:World}
theorem nSn(hS:St G L (H++mkH ms) W):(ms.map (·.2.2)).Nodup:=by
 have h:=(n0c _).1 hS.nodup;rw[ayo,List.nodup_append]at h;have h2:=h.2.1;clear h hS;induction ms with
 |nil=>simp
 |cons q ms ih=>
  simp only[mkH,avp,aEo,abp,afo,List.nodup_cons]at h2 ⊢;refine⟨λhm=>?_,ih h2.2.2⟩;obtain⟨q',hq',e⟩:=ano.1 hm;refine h2.2.1 (ano.2 ⟨(q'.2.2,.deferred (some [])),List.mem_flatMap.2 ⟨q',hq',by simp⟩,e⟩)
variable {e:Exit} {M:Foot} {I:World->Prop}
theorem nZe{fn:Func}{W0:World}{MI RO:Foot}{hM:∀k,M k->k<W0.heap.size/\¬MI k/\¬RO k}{V:Foot}{hI:Stab (λk=>(k<W0.heap.size/\¬MI k)\/V k) I}{α:Type}{Fin:List α->Prop}{I':List α->Foot->World->Prop}{X:Foot->World->Prop}{H0:Heap}(he:e= .ret\/e= .normal)(hr:fn.results=#[])(hw:W0∈L)(hV:∀k,V k->W0.heap.size<=k)(hH:∀k,k<W0.heap.size->k∈(H0++mkH ms).map (·.1)->MI k)(h:∀A,I A->(∃xs,Fin xs/\I' xs V A)\/X V A):PJ C (bodyPostM (FW none) 0 C.P fn (λe W'=>(∃v,e= .returned v)/\Keep (λk=>M k\/MI k) W0 W'/\∃V,(∃xs,Fin xs/\I' xs V W')\/X V W')) e E (mkD ms) (it2 hM V hI) L (H0++mkH ms):=by
 intro a W hN hD hF hS;have key:LeavesInM (FW none) 0 C.P fn a.tmps (λe W'=>(∃v,e= .returned v)/\Keep (λk=>M k\/MI k) W0 W'/\∃V,(∃xs,Fin xs/\I' xs V W')\/X V W') a.defers .returning W:=
  ncg (Ds:=ms.map (·.2.2)) (by rw[hD,mkD_eq]) hS (λk hk=>azo.2 (.inr (mkH_mem k hk))) (nSn hS) (λW' H' hS' _ hmap=>by
   refine⟨_,results_none hr _ _ _,⟨_,rfl⟩,(hS'.links W0 hw).mono λk hk hx=>?_,V,h W' hS'.ghost⟩;rcases hx with(hx|hx)|hx
   ·exact .inl hx
   ·have:=hV k hx;omega
   rw[hmap]at hx;exact .inr (hH k hk hx))
 exact zXj
end
section
variable {C:Cx} {Q:Post} {E:Env} {D:List Deferred} {L:List World} {H:Heap} {ops:Array Oper} {l:List Oper}
variable {d ty:Nat} {pos:String} {aft:Array Edge} {g:Option (Nat×Bool)} {x:Operand} {xs:List Operand} {vs:List Value} {tys:Array Nat}
variable {W0:World} {MI RO M:Foot} {hM:∀k,M k->k<W0.heap.size/\¬MI k/\¬RO k}
variable {I:World->Prop}
theorem yldT{y:Nat}(Z:Foot)(T:Gh->Gh)(hT:∀G,(T G).M=G.M/\(T G).V=G.V/\(T G).R=G.R/\(T G).X=λk=>G.X k\/Z k){V:Foot}{hI:Stab (λk=>(k<W0.heap.size/\¬MI k)\/V k) I}{I1 X1:Foot->World->Prop}(hI1:∀V,Stab (λk=>(k<W0.heap.size/\¬MI k)\/V k) (I1 V))(hX1:∀V,Stab (λk=>(k<W0.heap.size/\¬MI k)\/V k) (X1 V))(hV:∀k,V k->W0.heap.size<=k)(hw:nm ops E g=some true)(hN:Nat.blt d C.N=true)(hx:ev E x=some (yv y))(ha:evs E xs=some vs)(hy:∀W1,(∀k,V k->W0.heap.size<=k/\k<W1.heap.size)->I W1->nNg C.P y vs.toArray W1 (λb W2=>Keep (λk=>M k\/V k) W1 W2/\(if b then I1 (Vup V W1 W2) W2 else X1 (Vup V W1 W2) W2)))(k1:∀V2,(∀k,V k->V2 k)->(∀w∈L,∀k,V2 k->V k\/w.heap.size<=k)->OJ C ops Q l ((d,.bool true)::E) D (T (it2 hM V2 (hI1 V2))) L H)(k2:∀V2,(∀k,V k->V2 k)->(∀w∈L,∀k,V2 k->V k\/w.heap.size<=k)->OJ C ops Q l ((d,.bool false)::E) D (T (it2 hM V2 (hX1 V2))) L H):OJ C ops Q (⟨some d,.call ⟨.value x,xs.toArray,tys⟩,ty,pos,aft,g⟩::l) E D (T (it2 hM V hI)) L H:=by
 refine yldG (λG'=>∃V2,(∀k,V k->V2 k)/\(∀w∈L,∀k,V2 k->V k\/w.heap.size<=k)/\G'=T (it2 hM V2 (hI1 V2))) (λG'=>∃V2,(∀k,V k->V2 k)/\(∀w∈L,∀k,V2 k->V k\/w.heap.size<=k)/\G'=T (it2 hM V2 (hX1 V2))) hw hN hx ha (λW1 hS=>?_) (by rintro _ ⟨V2,h2,h3,rfl⟩;exact k1 V2 h2 h3) (by rintro _ ⟨V2,h2,h3,rfl⟩;exact k2 V2 h2 h3);have hxl:∀k,V k->k<W1.heap.size:=λk hk=>hS.xlt k (by rw[(hT _).2.2.2];exact .inl (.inr hk));have hgh:I W1:=by have:=hS.ghost;rw[(hT _).2.2.1]at this;exact this
 obtain⟨fn,tmps,assign,body,hrun,hround⟩:=hy W1 (λk hk=>⟨hV k hk,hxl k hk⟩) hgh;have hv:∀W2,∀w∈L,∀k,Vup V W1 W2 k->V k\/w.heap.size<=k:=λW2 w hw k hk=>by
  rcases hk with hk|hk
  ·exact .inl hk
  have:=(hS.links w hw).size;exact .inr zG
 refine⟨fn,tmps,assign,body,hrun,hround.mono ?_⟩;rintro e W2 ⟨b,rfl,hk,hb⟩;refine⟨b,rfl,by rw[(hT _).1];exact hk,?_⟩;have nx:∀{R:World->Prop} (hR:Stab (λk=>(k<W0.heap.size/\¬MI k)\/(Vup V W1 W2) k) R),R W2->Next (T (it2 hM V hI)) W1 W2 (T (it2 hM (Vup V W1 W2) hR)):=λ{R} hR hb=>by
  refine⟨λk h=>?_,λk h=>?_,λk h=>?_,by rw[(hT _).2.2.1];exact hb⟩
  ·rw[(hT _).2.2.2]at h ⊢;rcases h with(h|h)|h
   ·exact .inl (.inl h)
   ·exact .inl (.inr (.inl h))
   exact .inr h
  ·rw[(hT _).2.2.2]at h ⊢;rcases h with(h|h|h)|h
   ·exact .inl (.inl (.inl h))
   ·exact .inl (.inl (.inr h))
   ·exact .inr h
   exact .inl (.inr h)
  rw[(hT _).2.1]at h ⊢;rcases h with h|h|h
  ·exact .inl (.inl h)
  ·exact .inl (.inr h)
  exact .inr h
 cases b with
 |true=>exact⟨_,⟨_,λk h=>.inl h,hv W2,rfl⟩,nx (hI1 _) hb⟩
 |false=>exact⟨_,⟨_,λk h=>.inl h,hv W2,rfl⟩,nx (hX1 _) hb⟩
theorem T_id(G:Gh):(id G).M=G.M/\(id G).V=G.V/\(id G).R=G.R/\(id G).X=λk=>G.X k\/(λ_=>False) k:=⟨rfl,rfl,rfl,by funext k;simp⟩
theorem T_ext(Z:Foot)(G:Gh):(G.ext Z).M=G.M/\(G.ext Z).V=G.V/\(G.ext Z).R=G.R/\(G.ext Z).X=λk=>G.X k\/Z k:=⟨rfl,rfl,rfl,rfl⟩
end
/-! ### blocks that stay as_ they are, from here to the end -/
def fzG (F:Heap):Gh where
 M:=λ_=>False
 V:=λk=>k∈F.map (·.1)
 R:=λW=>∀p∈F,W.heap[p.1]? =some p.2
 X:=λ_=>False
 sub:=λ_ h=>h.elim
 subX:=λ_ h=>h
 stab:=λA B h _ _ _ _ hv p hp=>(hv p.1 (ano.2 ⟨p,hp,rfl⟩)).trans (h p hp)
section
variable {L:List World} {H:Heap} {W:World} {F:Heap}
theorem St.fz0(h:St Gh.no L H W):St (fzG []) L H W:=
 {ghost:=λp hp=>by simp at hp,vlt:=λk hk=>by simp[fzG]at hk,xlt:=λk hk=>hk.elim,links:=h.links,own:=h.own,nodup:=h.nodup,apart:=λp _ hv=>by simp[fzG]at hv}
theorem St.fzAt(h:St (fzG F) L H W):∀p∈F,W.heap[p.1]? =some p.2:=h.ghost
theorem st_fz(w:World):St (fzG []) [w] [] w:=(nmc w).fz0
theorem St.fz{A:Heap}(h:St (fzG F) L (A++H) W)(ha:∀p∈A,Above L p.1):St (fzG (A++F)) L H W:=by
 have hd:=(n0c _).1 h.nodup;rw[ayo,List.nodup_append]at hd;refine⟨λp hp=>?_,λk hk=>?_,λk hk=>hk.elim,λw hw=>?_,λp hp=>h.own p (azo.2 (.inr hp)),(n0c _).2 hd.2.1,λp hp hv=>?_⟩
 ·rcases azo.1 hp with hp|hp
  ·exact h.own p (azo.2 (.inl hp))
  exact h.ghost p hp
 ·obtain⟨p,hp,rfl⟩:=ano.1 hk;rcases azo.1 hp with hp|hp
  ·exact h.lt p (azo.2 (.inl hp))
  exact h.vlt p.1 (ano.2 ⟨p,hp,rfl⟩)
 ·refine(h.links w hw).mono λk hk hx=>?_;rcases hx with hx|hx
  ·exact hx.elim
  rw[ayo]at hx;rcases azo.1 hx with hx|hx
  ·obtain⟨p,hp,rfl⟩:=ano.1 hx;have:=(ha p hp).mem w hw;omega
  exact .inr hx
 obtain⟨q,hq,e⟩:=ano.1 hv;rcases azo.1 hq with hq|hq
 ·exact hd.2.2 q.1 (ano.2 ⟨q,hq,rfl⟩) p.1 (ano.2 ⟨p,hp,rfl⟩) e
 exact h.apart p (azo.2 (.inr hp)) (ano.2 ⟨q,hq,e⟩)
end
section
variable {C:Cx} {Q:Post} {E:Env} {D:List Deferred} {L:List World} {H H' F:Heap} {ops:Array Oper} {l:List Oper}
theorem OJ.fz(A:Heap)(hp:H.Perm (A++H'))(ha:∀p∈A,Above L p.1)(k:OJ C ops Q l E D (fzG (A++F)) L H'):OJ C ops Q l E D (fzG F) L H:=λa W hN hD hF hS=>k a W hN hD hF ((hS.perm hp).fz ha)
theorem CJ.fz{c:Code}(A:Heap)(hp:H.Perm (A++H'))(ha:∀p∈A,Above L p.1)(k:CJ C c Q E D (fzG (A++F)) L H'):CJ C c Q E D (fzG F) L H:=λa W hN hD hF hS=>k a W hN hD hF ((hS.perm hp).fz ha)
variable {e:Exit}
theorem PJ.fz(A:Heap)(hp:H.Perm (A++H'))(ha:∀p∈A,Above L p.1)(k:PJ C Q e E D (fzG (A++F)) L H'):PJ C Q e E D (fzG F) L H:=λa W hN hD hF hS=>k a W hN hD hF ((hS.perm hp).fz ha)
theorem Rw.fz_above{α:Type}{enc:α->List Value}{t:Nat}{xs:List α}{r:Rw}(h:r.Fr (fzG F) L):∀p∈r.hp enc t xs,Above L p.1:=by
 intro p hp;cases r with
 |nil=>simp[Rw.hp]at hp
 |row b cap sp=>
  simp[Rw.hp]at hp;subst hp;exact h.elim (λh=>h.elim) id
theorem Rw.ge_fz{r:Rw}(h:r.Fr (fzG F) L){w:World}(hw:w∈L):r.ge w.heap.size:=by
 cases r with
 |nil=>trivial
 |row b cap sp=>exact(h.elim (λh=>h.elim) id:Above L b).mem w hw
variable {m:Nat}
theorem Rw.row_of{α:Type}{xs:List α}{r:Rw}(h:r.Fit m xs)(hx:0<xs.length):∃b cap sp,r= .row b cap sp:=by
 cases r with
 |nil=>have:xs=[]:=h;subst this;simp at hx
 |row b cap sp=>exact⟨b,cap,sp,rfl⟩
variable {b:Nat}
theorem Above.not{w:World}(h:Above L b)(hw:w∈L):w.heap.size<=b:=h.mem w hw
end
section
variable {C:Cx} {Q:Post} {E:Env} {D:List Deferred} {G:Gh} {L:List World} {H H0 H1:Heap} {ops:Array Oper} {l:List Oper}
variable {d ty:Nat} {pos:String} {aft:Array Edge} {g:Option (Nat×Bool)} {x y:Operand} {α:Type} {enc:α->List Value} {m:Nat}
variable {size:Nat} {a:Option Addr}
theorem Rd.zero{c:Nat}:Rd C G L H size 0 (.slice a 0 c) []:=λW _=>by
 cases a with
 |none=>rfl
 |some a=>simp[Builtin.firstCells,loadCells,loadCellsFrom]
theorem n8h{cs:Array Value}{off:Nat}:∀(xs:List α),(∀x,(enc x).length=m)->(∀i (h:i<xs.length),off+i*m+m<=cs.size/\cut cs (off+i*m) m=(enc xs[i]).toArray)->(cs.toList.drop off).take (xs.length*m)=flt enc xs
 | [],_,_=>by simp[flt]
 |x::xs,hm,h=>by
  have ih:=n8h (cs:=cs) (off:=off+m) xs hm (λi hi=>by
   have:=h (i+1) zMc;rw[show off+(i+1)*m=off+m+i*m by rw[a5o];omega]at this;simpa using this)
  obtain⟨h1,h2⟩:=h 0 zS;simp only[Nat.zero_mul,Nat.add_zero,List.getElem_cons_zero]at h1 h2;have h3:(cs.toList.drop off).take m=enc x:=by
   unfold cut at h2;have:=congrArg Array.toList h2;simpa using this
  have e:(x::xs).length*m=m+xs.length*m:=by rw[axo,a5o];omega
  rw[e,List.take_add,aIo,h3,ih];rfl
variable {N tx:Nat}
theorem SrcT.sl{e' c:Nat}{w:World}{xs:List α}(hm:∀x,(enc x).length=m)(h1:∀x,∀u∈enc x,u.oneCell'=true)(hU:C.P.underlying tx=some (.slice e'))(hw:w∈L)(h:SlAt (λx=>(enc x).toArray) m N w a xs)(ho:∀b,b<N->¬G.X b/\Off H b):SrcT C G L H enc m tx (.slice a xs.length c) xs:=by
 rcases h with h|⟨b,off,cs,t,fr,e1,e2,e3,e4⟩
 ·subst h;exact SrcJ.sl hU Rd.zero (by simp[flt]) (by simp[flt])
 subst e1;have hl:off+xs.length*m<=cs.size\/xs=[]:=by
  by_cases h0:xs=[]
  ·exact .inr h0
  have hp:0<xs.length:=List.length_pos_iff.2 h0;have:=(e4 (xs.length-1) zG).1;refine .inl ?_;have e:xs.length*m=(xs.length-1)*m+m:=by rw[<-Nat.succ_mul];congr 1;omega
  omega
 rcases hl with hl|h0
 ·exact SrcT.at hm h1 hU (Lies.old hw e3 (ho b e2).1 (ho b e2).2) hl (n8h xs hm e4)
 subst h0;exact SrcJ.sl hU Rd.zero (by simp[flt]) (by simp[flt])
variable {sp:List Value} {b:Nat} {sv:Value}
theorem apR{cap:Nat}{t e:Nat}{xs zs:List α}(hH:H=H0++((b,rwO enc e xs sp)::H1))(hT:RowT C.P t e m)(hm:∀x,(enc x).length=m)(hw:nm ops E g=some true)(hN:Nat.blt d C.N=true)(hx:ev E x=some (.slice (some ⟨b,0,none⟩) xs.length cap))(hy:ev E y=some sv)(hs:SrcT C G L H enc m tx sv zs)(hr:(Rw.row b cap sp).Fit m xs)(hf:Fr G L b)(hlim:xs.length+zs.length<=1000000)(k:∀(b' cap':Nat) (sp':List Value),(b=b'\/Above L b')->(Rw.row b' cap' sp').Fit m (xs++zs)->OJ C ops Q l ((d,.slice (some ⟨b',0,none⟩) (xs++zs).length cap')::E) D G L (H0++((b',rwO enc e (xs++zs) sp')::H1))):OJ C ops Q (⟨some d,.call ⟨.builtin .append,#[x,y],#[t,tx]⟩,ty,pos,aft,g⟩::l) E D G L H:=
 nqb zS hw hN λa W hF hS=>by
  obtain⟨ti,z,hti,hz,hsz,hzc,hby⟩:=hT.info;have hl:(xs++zs).length=xs.length+zs.length:=aHo;have hB:(xs.length+zs.length)*ti.bytes<=140737488355328:=aco (Nat.mul_le_mul hlim hby) zI;obtain⟨hc,hsp⟩:=hr;have hi:H[H0.length]? =some (b,.cells (flt enc xs++sp).toArray e (0,0)):=by rw[hH];simp[rwO]
  obtain⟨b',cap',sp',W',hrun,hS',hb',hc',hsp'⟩:=hS.app (P:=C.P) (ty:=ty) hi hT.und hti hz hsz hzc (hs.src hS) (n0 hm xs) hsp hc hf zG hB;refine⟨.slice (some ⟨b',0,none⟩) (xs.length+zs.length) cap',W',L,_,?_,hS',?_⟩
  ·simp[execOp,hF.ev hx,hF.ev hy,resolve,invoke,Deferred.ofValue,builtin,hrun]
  have:=k b' cap' sp' (hb'.imp Eq.symm (λh=>n1c hS h)) ⟨by rw[hl];exact hc',by rw[hl];exact hsp'⟩;rw[hl]at this;rw[hH];simpa[rwO,nbe]using this
variable {T:Nat}
theorem eqIn_ss{P:Program}{e:Nat}(hU:P.underlying T=some (.slice e))(q:Addr)(n c d:Nat)(W:World):(Op.equalIn (d+1) T (.slice (some q) n c) (.slice none 0 0)).run P W= .ok false W:=by
 simp[Op.equalIn,run_underlying hU]
theorem eqSs_r{U e n c:Nat}{q:Addr}(hU:C.P.underlying T=some (.slice e))(hx:ev E x=some (.slice (some q) n c))(hy:ev E y=some (.slice none 0 0)):RV C G L H E (.binOp .eql T x y U) (.bool false):=λd ty pos aft g a W hF _=>by
 have h1:(eqGuard .eql T x y (.slice (some q) n c) (.slice none 0 0)).run C.P W= .ok () W:=by simp[eqGuard]
 have h2:(binOp .eql T (.slice (some q) n c) (.slice none 0 0)).run C.P W= .ok (.bool false) W:=by
  have e:binOp .eql T (.slice (some q) n c) (.slice none 0 0)=(do pure (.bool (<-Op.equalIn (9999+1) T (.slice (some q) n c) (.slice none 0 0)))):=rfl;rw[e,Sem.run_bind,eqIn_ss hU];rfl
 simp only[execOp,hF.ev hx,hF.ev hy,Sem.run_bind,h1,h2,Result.andThen];rfl
theorem eqSn2_r{U e n c:Nat}(hU:C.P.underlying T=some (.slice e))(hx:ev E x=some (.slice none n c))(hy:ev E y=some (.slice none 0 0)):RV C G L H E (.binOp .eql T x y U) (.bool true):=λd ty pos aft g a W hF _=>by
 have h1:(eqGuard .eql T x y (.slice none n c) (.slice none 0 0)).run C.P W= .ok () W:=by simp[eqGuard]
 have h2:(binOp .eql T (.slice none n c) (.slice none 0 0)).run C.P W= .ok (.bool true) W:=by
  have e:binOp .eql T (.slice none n c) (.slice none 0 0)=(do pure (.bool (<-Op.equalIn (9999+1) T (.slice none n c) (.slice none 0 0)))):=rfl;rw[e,Sem.run_bind,eqIn_sn hU];rfl
 simp only[execOp,hF.ev hx,hF.ev hy,Sem.run_bind,h1,h2,Result.andThen];rfl
end
theorem nol(pre old suf new:List Value)(h:old.length=new.length):setCells (pre++(old++suf)).toArray pre.length new=(pre++(new++suf)).toArray:=by
 apply Array.ext';rw[nEb];exact nzf pre old suf new h.symm
section
variable {C:Cx} {Q:Post} {E:Env} {D:List Deferred} {G:Gh} {L:List World} {H H0 H1:Heap} {ops:Array Oper} {l:List Oper}
variable {d T ty:Nat} {pos:String} {aft:Array Edge} {g:Option (Nat×Bool)} {x y:Operand} {α:Type} {enc:α->List Value} {m:Nat}
variable {j:Nat}
theorem flt_set{cur:List α}{z:α}(hm:∀x,(enc x).length=m)(hj:j<cur.length)(sp:List Value):setCells (flt enc cur++sp).toArray (j*m) (enc z)=(flt enc (cur.set j z)++sp).toArray:=by
 have e:cur=cur.take j++(cur[j]::cur.drop (j+1)):=by rw[List.getElem_cons_drop,acp]
 have e2:cur.set j z=cur.take j++(z::cur.drop (j+1)):=by rw[List.set_eq_take_append_cons_drop,if_pos hj]
 have f1:flt enc cur++sp=flt enc (cur.take j)++(enc cur[j]++(flt enc (cur.drop (j+1))++sp)):=by
  have h9:flt enc cur=flt enc (cur.take j)++(enc cur[j]++flt enc (cur.drop (j+1))):=by
   rw[show flt enc cur=flt enc (cur.take j++(cur[j]::cur.drop (j+1)))from congrArg _ e,nbe];rfl
  rw[h9];simp
 have f2:flt enc (cur.set j z)++sp=flt enc (cur.take j)++(enc z++(flt enc (cur.drop (j+1))++sp)):=by rw[e2];simp[flt]
 have hl:(flt enc (cur.take j)).length=j*m:=by rw[n0 hm,anp,Nat.min_eq_left zG]
 rw[f1,f2,<-hl];exact nol _ _ _ _ (by rw[hm,hm])
variable {sp:List Value} {b i:Nat}
theorem stRw{t off:Nat}{cur:List α}{z:α}{v:Value}(hi:H[i]? =some (b,rwO enc t cur sp))(hm:∀x,(enc x).length=m)(h1:∀x,∀u∈enc x,u.oneCell'=true)(hZ:nK C.P T m)(hw:nm ops E g=some true)(hx:ev E x=some (ptr b off))(hy:ev E y=some v)(ho:off=j*m)(hj:j<cur.length)(hv:v.cells=(enc z).toArray)(h1c:nO (enc z)=true)(k:OJ C ops Q l E D G L (H.set i (b,rwO enc t (cur.set j z) sp))):OJ C ops Q (⟨none,.store T x y,ty,pos,aft,g⟩::l) E D G L H:=by
 subst ho;refine stW (off:=j*m) hi hZ hw hx hy (by rw[hv];simp[hm]) ?_ (by rw[hv];exact h1c) ?_
 ·have h2:(j+1)*m<=cur.length*m:=a7o _ hj;rw[a5o]at h2;simp only[amp,aHo,n0 hm];omega
 rw[hv];rw[flt_set hm hj];exact k
variable {tx:Nat} {zv:Value}
theorem clrRw{t off c':Nat}{ys zs:List α}(hi:H[i]? =some (b,rwO enc t (ys++zs) sp))(hm:∀x,(enc x).length=m)(hU:C.P.underlying tx=some (.slice T))(hZ:nvb C.P T zv)(hzs:zv.cells.size=m)(hz1:nO (Builtin.zeroCells zv.cells zs.length).toList=true)(hw:nm ops E g=some true)(hx:ev E x=some (.slice (some ⟨b,off,none⟩) zs.length c'))(ho:zs=[]\/off=ys.length*m)(k:∀sp':List Value,sp'.length=zs.length*m+sp.length->OJ C ops Q l E D G L (H.set i (b,rwO enc t ys sp'))):OJ C ops Q (⟨none,.call ⟨.builtin .clear,#[x],#[tx]⟩,ty,pos,aft,g⟩::l) E D G L H:=by
 by_cases h0:zs=[]
 ·subst h0;have hk:=k sp zS;rw[asp]at hi;have hH:H.set i (b,rwO enc t ys sp)=H:=by
   apply aDo;intro n;by_cases e:i=n
   ·subst e;rw[alo (ako.1 hi).1,hi]
   rw[amo e]
  rw[hH]at hk;exact nhc rfl zS hw (λa W hF hS=>⟨.value (.tuple #[]),W,.inr ⟨_,rfl⟩,by simp[execOp,hF.ev hx,resolve,invoke,builtin,Builtin.clear_,run_underlying hU],hS⟩) hk
 have ho':=ho.resolve_left h0;subst ho';have hzl:(Builtin.zeroCells zv.cells zs.length).toList.length=zs.length*m:=by simp[Builtin.zeroCells,hzs]
 have f1:flt enc (ys++zs)++sp=flt enc ys++(flt enc zs++sp):=by rw[nbe,a2o]
 have hl:(flt enc ys).length=ys.length*m:=n0 hm ys;refine nhc (H':=H.set i (b,rwO enc t ys ((Builtin.zeroCells zv.cells zs.length).toList++sp))) rfl zS hw (λa W hF hS=>?_) (k _ (by rw[aHo,hzl]));have hb:=hS.own _ (ajo hi);obtain⟨W',hr,hk,hb'⟩:=nEc (P:=C.P) (off:=ys.length*m) (Builtin.zeroCells zv.cells zs.length).toList 0 _ W hb (by
  rw[hzl];simp only[amp,aHo,n0 hm,nbe];omega) hz1
 rw[Nat.add_zero,f1,<-hl,nol _ _ _ _ (by rw[hzl,n0 hm])]at hb';refine⟨.value (.tuple #[]),W',.inr ⟨_,rfl⟩,?_,hS.put hi hk hb'⟩;obtain⟨q,hq⟩:∃q,zs.length=q+1:=⟨zs.length-1,by have:=List.length_pos_iff.2 h0;omega⟩;rw[hq]at hx hr;simp[execOp,hF.ev hx,resolve,invoke,builtin,Builtin.clear_,run_underlying hU,hZ W,hr]
end
section
variable {C:Cx} {Q:Post} {E:Env} {D:List Deferred} {G:Gh} {L:List World} {H:Heap} {id:Nat}
abbrev putE (o:Oper) (v:Value) (E:Env):Env:=match o.dst with|some d=>(d,v)::E|none=>E
def nJg (C:Cx) (l:List Oper) (G:Gh) (E:Env) (D:List Deferred) (sp:Sp) (ch:List Nat) (Ph:List Value->List World->Heap->Prop):Nat->List Nat->Prop
 |_,[]=>True
 |k,c::rest=>(∀(o:Oper) (ds:List Nat),l[c]? =some o->sp[c]? =some (ds,none)->∀cv L' H',cv.length=k->Ph cv L' H'->∀(F:Env) (Q':Post),
  (∀v L'' H'',Ph (cv++[v]) L'' H''->PJ C Q' .normal (putE o v (envD l.toArray sp ch cv ds++(E++F))) D G L'' H'')->OJ C l.toArray Q' [o] (envD l.toArray sp ch cv ds++(E++F)) D G L' H')/\nJg C l G E D sp ch Ph (k+1) rest
theorem nth{l:List Oper}{sp:Sp}{ch:List Nat}{Ph:List Value->List World->Heap->Prop}:∀(rest:List Nat) (n:Nat),nJg C l G E D sp ch Ph n rest->∀(k c:Nat) (o:Oper) (ds:List Nat),rest[k]? =some c->l[c]? =some o->sp[c]? =some (ds,none)->∀cv L' H',cv.length=n+k->Ph cv L' H'->∀(F:Env) (Q':Post),(∀v L'' H'',Ph (cv++[v]) L'' H''->PJ C Q' .normal (putE o v (envD l.toArray sp ch cv ds++(E++F))) D G L'' H'')->OJ C l.toArray Q' [o] (envD l.toArray sp ch cv ds++(E++F)) D G L' H'
 | [],_,_,k,c,_,_,h,_,_=>by simp at h
 |c'::rest,n,h,k,c,o,ds,hk,hl,hs=>by
  cases k with
  |zero=>simp at hk;subst hk;exact λcv L' H' hlen=>h.1 o ds hl hs cv L' H' (by simpa using hlen)
  |succ k=>exact λcv L' H' hlen=>nth rest (n+1) h.2 k c o ds zUc hl hs cv L' H' zG
variable {ch ds rest:List Nat} {k:Nat}
theorem ss{l:List Oper}{sp:Sp}{Ph:List Value->List World->Heap->Prop}{c:Nat}{o:Oper}(h1:l[c]? =some o)(h2:sp[c]? =some (ds,none))(h:∀cv L' H',cv.length=k->Ph cv L' H'->∀(F:Env) (Q':Post),(∀v L'' H'',Ph (cv++[v]) L'' H''->PJ C Q' .normal (putE o v (envD l.toArray sp ch cv ds++(E++F))) D G L'' H'')->OJ C l.toArray Q' [o] (envD l.toArray sp ch cv ds++(E++F)) D G L' H')(t:nJg C l G E D sp ch Ph (k+1) rest):nJg C l G E D sp ch Ph k (c::rest):=
 ⟨λo' ds' e1 e2=>by
  rw[h1]at e1;cases e1;rw[h2]at e2;cases e2;exact h,t⟩
theorem ssn{l:List Oper}{sp:Sp}{Ph:List Value->List World->Heap->Prop}:nJg C l G E D sp ch Ph k []:=trivial
theorem nyg{l:List Oper}(nA:Nat)(ch:List Nat)(sp:Sp)(Ph:List Value->List World->Heap->Prop)(hm:C.P.follows .mixedOrders=true)(h0:Ph [] L H)(hok:nJc l.toArray nA (sp.map (·.1)) E=true)(hsl:nFc l sp=true)(hN:nQc C.N l=true)(hch:nLd l ch=true)(hnd:nsc ch=true)(hpt:nFb ch 0 sp=true)(hlt':ch.all (λc=>Nat.blt c nA)=true)(pure:ngc C l.toArray G E sp ch Ph l sp)(step:nJg C l G E D sp ch Ph 0 ch)(fin:∀cv L' H',cv.length=ch.length->Ph cv L' H'->OJ C l.toArray Q (l.drop nA) (envD l.toArray sp ch cv (List.range nA)++E) D G L' H'):CJ C (.region id l.toArray true) Q E D G L H:=
 nDj nA ch sp Ph hm h0 hok hsl hN hch hnd hpt hlt' (nYd l sp pure)
  (λk c o ds d hk hl hs hd cv L' H' hlen hP F Q' hc=>nth ch 0 step k c o ds hk hl hs cv L' H' zG hP F Q' (λv L'' H'' hP2=>by have:=hc v L'' H'' hP2;simpa only[putE,hd]using this))
  (λk c o ds hk hl hs hd cv L' H' hlen hP F Q' hc=>nth ch 0 step k c o ds hk hl hs cv L' H' zG hP F Q' (λv L'' H'' hP2=>by have:=hc v L'' H'' hP2;simpa only[putE,hd]using this))
  fin
end
/-! ### maps from keys of any type to values -/
/-- keys that are arrays or structs -/
structure KeyF {K:Type} [DecidableEq K] (P:Program) (kt:Nat) (ek:K->Value):Prop where
 und:∃kd,P.underlying kt=some kd/\∀k v,Instr.sameNow kd (ek k) v=none
 chk:∀(b:Bool) (k:K) {W:World},(Instr.checkKey b 10000 kt (ek k)).run P W= .ok () W
 eq:∀(k k':K) {W:World},(Op.equal kt (ek k) (ek k')).run P W= .ok (decide (k=k')) W
 bits:∀k,Instr.sameBits 10000 (ek k) (ek k)=true
section
variable {K:Type} [DecidableEq K] {ek:K->Value} {β:Type}
def gidx (k:K):List (K×β)->Nat->Option (Nat×β)
 | [],_=>none
 |p::l,i=>if p.1=k then some (i,p.2)else gidx k l (i+1)
def gget (l:List (K×β)) (k:K):Option β:=(gidx k l 0).map (·.2)
def gput (l:List (K×β)) (k:K) (v:β):List (K×β):=match gidx k l 0 with|some (i,_)=>l.set i (k,v)|none=>l++[(k,v)]
theorem nqi(k:K):∀(l:List (K×β)) (i j:Nat),gidx k l (i+j)=(gidx k l i).map λp=>(p.1+j,p.2)
 | [],_,_=>rfl
 |p::l,i,j=>by
  unfold gidx;split
  ·rfl
  rw[show i+j+1=i+1+j by omega];exact nqi k l (i+1) j
theorem nfg(k:K)(l:List (K×β)):gidx k l 1=(gidx k l 0).map λp=>(p.1+1,p.2):=by
 have:=nqi k l 0 1;simpa using this
theorem n5c{k:K}:∀{l:List (K×β)} {i:Nat} {v:β},gidx k l 0=some (i,v)->l[i]? =some (k,v)
 | [],_,_,h=>by simp[gidx]at h
 |p::l,i,v,h=>by
  unfold gidx at h;split at h
  ·rename_i e;simp at h;obtain⟨rfl,rfl⟩:=h;subst e;simp
  rw[nfg]at h;obtain⟨q,hq,e⟩:=ayp.1 h;obtain⟨j,u⟩:=q;simp at e;obtain⟨rfl,rfl⟩:=e;simpa using n5c hq
theorem nGd{k:K}:∀{l:List (K×β)} {i:Nat},gidx k l i=none↔k∉l.map (·.1)
 | [],_=>by simp[gidx]
 |p::l,i=>by
  unfold gidx;split
  ·rename_i e;simp[e]
  rename_i e;rw[nGd];simp only[afo,aeo,not_or];exact⟨λh=>⟨λx=>e x.symm,h⟩,λh=>h.2⟩
theorem n7f{l:List (K×β)}{k:K}:gget l k=none↔k∉l.map (·.1):=by
 unfold gget;rw[Option.map_eq_none_iff];exact nGd
theorem nuc(p:K×β)(l:List (K×β))(k:K):gget (p::l) k=if p.1=k then some p.2 else gget l k:=by
 unfold gget;conv=>lhs;rw[gidx]
 split
 ·rfl
 rw[nfg];cases gidx k l 0<;>rfl
theorem gget_app(l l':List (K×β))(k:K):gget (l++l') k=(gget l k).or (gget l' k):=by
 induction l with
 |nil=>simp[gget,gidx]
 |cons p l ih=>
  rw[aEo,nuc,nuc,ih];split<;>simp
theorem nFh(l:List (K×β))(k:K)(v:β)(j:K):gget (gput l k v) j=if j=k then some v else gget l j:=by
 unfold gput;cases hi:gidx k l 0 with
 |none=>
  simp only;rw[gget_app,nuc];have h1:=nGd.1 hi;by_cases e:j=k
  ·subst e;rw[n7f.2 h1];simp
  rw[if_neg e,if_neg (λx=>e x.symm)];cases gget l j<;>simp[gget,gidx]
 |some q=>
  obtain⟨i,u⟩:=q;simp only;induction l generalizing i with
  |nil=>simp[gidx]at hi
  |cons p l ih=>
   unfold gidx at hi;split at hi
   ·rename_i e;simp at hi;obtain⟨rfl,rfl⟩:=hi;simp only[adp];rw[nuc,nuc,e];by_cases e2:j=k
    ·simp[e2]
    simp[e2,show ¬k=j from λx=>e2 x.symm]
   rename_i e;rw[nfg]at hi;obtain⟨q,hq,e3⟩:=ayp.1 hi;obtain⟨j',u'⟩:=q;simp at e3;obtain⟨rfl,rfl⟩:=e3;simp only[a9o];rw[nuc,nuc,ih j' hq];by_cases e2:j=k
   ·simp[e2,e]
   simp[e2]
theorem nMn(l:List (K×β))(k:K)(v:β):(gput l k v).map (·.1)=if k∈l.map (·.1)then l.map (·.1)else l.map (·.1)++[k]:=by
 unfold gput;cases hi:gidx k l 0 with
 |none=>rw[if_neg (nGd.1 hi)];simp
 |some q=>
  obtain⟨i,u⟩:=q;have h1:=n5c hi;exact z6i
theorem n5h{l:List (K×β)}{k:K}{v:β}(h:(l.map (·.1)).Nodup):((gput l k v).map (·.1)).Nodup:=by
 rw[nMn];exact zxj
structure Mq where
 bs:List Nat
 c:Nat
def mkE (ek:K->Value) (ev:β->Value) (l:List (K×β)) (bs:List Nat):List MapEntry:=(l.zip bs).map λp=>{key:=ek p.1.1,val:=ev p.1.2,born:=p.2}
def Mq.obj (ek:K->Value) (ev:β->Value) (l:List (K×β)) (m:Mq):Obj:=.map (mkE ek ev l m.bs).toArray m.c
structure Mq.Ok (l:List (K×β)) (m:Mq):Prop where
 len:m.bs.length=l.length
 lt:∀b∈m.bs,b<m.c
 nd:m.bs.Nodup
 keys:(l.map (·.1)).Nodup
variable {bs:List Nat}
theorem nnl{ev:β->Value}{l:List (K×β)}(h:bs.length=l.length)(i:Nat):(mkE ek ev l bs)[i]? =(l[i]?).map λp=>{key:=ek p.1,val:=ev p.2,born:=bs.getD i 0}:=by
 simp only[mkE,aSo,List.zip,List.getElem?_zipWith];exact zCj
theorem nRh{P:Program}{kt:Nat}(hK:KeyF P kt ek)(ev:β->Value)(k:K)(W:World):∀(l:List (K×β)) (bs:List Nat) (i:Nat),bs.length=l.length->(Instr.findAsking kt (ek k) (mkE ek ev l bs) i).run P W= .ok ((gidx k l i).map λp=>(p.1,ev p.2)) W
 | [],_,_,_=>by simp[mkE,Instr.findAsking,gidx]
 |p::l,[],_,h=>by simp at h
 |p::l,b::bs,i,h=>by
  have ih:=nRh hK ev k W l bs (i+1) z2b;simp only[mkE,List.zip_cons_cons,afo,Instr.findAsking,Sem.run_bind,hK.eq,Result.andThen]at ih ⊢;unfold gidx;by_cases e:p.1=k
  ·rw[if_pos e,if_pos (by simp[e])];simp
  rw[if_neg e,if_neg (by simp;exact λx=>e x.symm)];exact ih
variable {kt:Nat} {W:World}
theorem ntf{P:Program}(hK:KeyF P kt ek)(ev:β->Value)(k:K){l:List (K×β)}(h:bs.length=l.length):(Instr.findKey kt (ek k) (mkE ek ev l bs)).run P W= .ok ((gidx k l 0).map λp=>(p.1,ev p.2)) W:=by
 obtain⟨kd,hU,hn⟩:=hK.und;cases l with
 |nil=>simp[Instr.findKey,run_underlying hU,mkE,Instr.findNow,gidx]
 |cons p l=>
  cases bs with
  |nil=>simp at h
  |cons b bs=>
   have h1:=nRh hK ev k W (p::l) (b::bs) 0 h;have h2:Instr.findNow kd (ek k) (mkE ek ev (p::l) (b::bs)) 0=none:=by
    simp only[mkE,List.zip_cons_cons,afo,Instr.findNow,hn]
   simp only[Instr.findKey,Sem.run_bind,run_underlying hU,Result.andThen,h2,h1]
end
section
variable {C:Cx} {Q:Post} {E:Env} {D:List Deferred} {G:Gh} {L:List World} {H:Heap} {ops:Array Oper} {l:List Oper}
variable {d T ty:Nat} {pos:String} {aft:Array Edge} {g:Option (Nat×Bool)} {x y z:Operand}
variable {K:Type} [DecidableEq K] {ek:K->Value} {β:Type} {ev:β->Value} {kv:List (K×β)} {m:Mq}
theorem Mq.nil:(Mq.mk [] 0).Ok ([]:List (K×β)):=⟨rfl,by simp,by simp,by simp⟩
theorem Mq.nil_obj:(Mq.mk [] 0).obj ek ev []= .map #[] 0:=rfl
variable {b et kt:Nat} {zv:Value} {W:World}
theorem nch{k:K}{P:Program}(c:Bool)(hU:P.underlying T=some (.map kt et))(hK:KeyF P kt ek)(hz:nvb P et zv)(hm:m.Ok kv)(hb:W.heap[b]? =some (m.obj ek ev kv)):(Instr.lookup T (.map (some b)) (ek k) c).run P W= .ok (if c then .tuple #[((gget kv k).map ev).getD zv,.bool (gget kv k).isSome]else((gget kv k).map ev).getD zv) W:=by
 have hb':W.heap[b]? =some (.map (mkE ek ev kv m.bs).toArray m.c):=hb;have h1:=ntf (P:=P) (W:=W) hK ev k hm.len;have e:gget kv k=(gidx k kv 0).map (·.2):=rfl;cases hi:gidx k kv 0 with
 |none=>
  rw[hi]at h1;have e1:gget kv k=none:=by rw[e,hi];rfl
  cases c<;>simp[Instr.lookup,run_underlying hU,nbb hb',hK.chk,h1,hz W,e1]
 |some q=>
  rw[hi]at h1;have e1:gget kv k=some q.2:=by rw[e,hi];rfl
  cases c<;>simp[Instr.lookup,run_underlying hU,nbb hb',hK.chk,h1,e1]
theorem gget2_r{k:K}(hU:C.P.underlying T=some (.map kt et))(hK:KeyF C.P kt ek)(hz:nvb C.P et zv)(hm:m.Ok kv)(hb:Lies G L H b (m.obj ek ev kv))(hx:Px.ev E x=some (.map (some b)))(hy:Px.ev E y=some (ek k)):RV C G L H E (.lookup T x y true) (.tuple #[((gget kv k).map ev).getD zv,.bool (gget kv k).isSome]):=λd ty pos aft g a W hF hS=>by
 have:=nch (W:=W) (k:=k) true hU hK hz hm (hb W hS);simp[execOp,hF.ev hx,hF.ev hy,this]
theorem gget1_r{k:K}(hU:C.P.underlying T=some (.map kt et))(hK:KeyF C.P kt ek)(hz:nvb C.P et zv)(hm:m.Ok kv)(hb:Lies G L H b (m.obj ek ev kv))(hx:Px.ev E x=some (.map (some b)))(hy:Px.ev E y=some (ek k)):RV C G L H E (.lookup T x y false) (((gget kv k).map ev).getD zv):=λd ty pos aft g a W hF hS=>by
 have:=nch (W:=W) (k:=k) false hU hK hz hm (hb W hS);simp[execOp,hF.ev hx,hF.ev hy,this]
variable {i:Nat}
theorem nNh{k:K}{v:β}(hi:H[i]? =some (b,m.obj ek ev kv))(hm:m.Ok kv)(hU:C.P.underlying T=some (.map kt et))(hK:KeyF C.P kt ek)(hw:nm ops E g=some true)(hx:Px.ev E x=some (.map (some b)))(hy:Px.ev E y=some (ek k))(hz:Px.ev E z=some (ev v))(kk:∀m':Mq,m'.Ok (gput kv k v)->OJ C ops Q l E D G L (H.set i (b,m'.obj ek ev (gput kv k v)))):OJ C ops Q (⟨none,.mapUpdate T x y z,ty,pos,aft,g⟩::l) E D G L H:=by
 have h1:=λW:World=>ntf (P:=C.P) (W:=W) hK ev k hm.len;cases hk:gidx k kv 0 with
 |none=>
  have e:gput kv k v=kv++[(k,v)]:=by unfold gput;rw[hk]
  have hok:(Mq.mk (m.bs++[m.c]) (m.c+1)).Ok (gput kv k v):=by
   refine⟨by rw[e];simp[hm.len],λb hb=>?_,?_,n5h hm.keys⟩
   ·exact zVj
   exact zJj
  refine nhc rfl zS hw (λa W hF hS=>?_) (kk _ hok);have hb:=hS.own _ (ajo hi);have hlt:b<W.heap.size:=(ago.1 hb).1;have hb':W.heap[b]? =some (.map (mkE ek ev kv m.bs).toArray m.c):=hb;refine⟨.skip,_,.inl rfl,?_,hS.put hi (ngb W b _) (World.putObj_heap_same hlt)⟩;have h2:=h1 W;rw[hk]at h2;have e2:((mkE ek ev kv m.bs).toArray.push {key:=ek k,val:=ev v,born:=m.c})=(mkE ek ev (gput kv k v) (m.bs++[m.c])).toArray:=by
   rw[e];apply Array.ext';simp only[mkE,Array.toList_push];rw[List.zip_append hm.len.symm];simp
  simp[execOp,hF.ev hx,hF.ev hy,hF.ev hz,Instr.mapUpdate,run_underlying hU,nbb hb',hK.chk,h2,nvc _ hb',e2,Mq.obj]
 |some q=>
  obtain⟨j,u⟩:=q;have e:gput kv k v=kv.set j (k,v):=by unfold gput;rw[hk]
  have hok:m.Ok (gput kv k v):=⟨by rw[e];simp[hm.len],hm.lt,hm.nd,n5h hm.keys⟩;refine nhc rfl zS hw (λa W hF hS=>?_) (kk _ hok);have hb:=hS.own _ (ajo hi);have hlt:b<W.heap.size:=(ago.1 hb).1;have hb':W.heap[b]? =some (.map (mkE ek ev kv m.bs).toArray m.c):=hb;refine⟨.skip,_,.inl rfl,?_,hS.put hi (ngb W b _) (World.putObj_heap_same hlt)⟩;have h2:=h1 W;rw[hk]at h2;have h3:=n5c hk;have h4:=nnl (ek:=ek) (ev:=ev) hm.len j;rw[h3]at h4;have hk':((((mkE ek ev kv m.bs).toArray[j]?).map (·.key)).getD (ek k))=ek k:=by simp[h4]
  have hs:Instr.sameBits 10000 (ek k) (ek k)=true:=hK.bits k;have e2:((mkE ek ev kv m.bs).toArray.modify j λen=>{en with key:=ek k,val:=ev v})=(mkE ek ev (gput kv k v) m.bs).toArray:=by
   rw[e];apply Array.ext';apply aDo;intro i';simp only[Array.toList_modify,List.getElem?_modify];rw[nnl hm.len,nnl (by simp[hm.len]),azp];exact z5j
  simp only[execOp,hF.ev hx,hF.ev hy,hF.ev hz,Instr.mapUpdate,Sem.run_bind,run_underlying hU,Result.andThen,nbb hb',hK.chk,h2,aTo,hk',Instr.keyThatStays,hs,if_true,Sem.run_pure,nvc _ hb',e2];rfl
theorem mkMK(ek:K->Value)(ev:β->Value)(hw:nm ops E g=some true)(hN:Nat.blt d C.N=true)(k:∀(b:Nat),Above L b->Off H b->OJ C ops Q l ((d,.map (some b))::E) D G L ((b,(Mq.mk [] 0).obj ek ev [])::H)):OJ C ops Q (⟨some d,.makeMap T none,ty,pos,aft,g⟩::l) E D G L H:=
 nqb zS hw hN λa W _ hS=>⟨.map (some W.heap.size),W.alloc ((Mq.mk [] 0).obj ek ev []),_,_,by simp[execOp,Instr.makeMap,Mq.nil_obj],hS.alloc _,k W.heap.size hS.sizes hS.offNew⟩
end
/-! ### digests, as_ keys of maps -/
abbrev Dk:={l:List Int // l.length=32}
def dkv (k:Dk):Value:=.agg (k.1.map (Value.int .u8)).toArray
theorem nif:∀as_ bs:List Int,as_.length=bs.length->eqL (as_.map (Value.int .u8)) (bs.map (Value.int .u8))=decide (as_=bs)
 | [],[],_=>rfl
 |a::as_,b::bs,h=>by
  simp only[afo,eqL,eqV,nif as_ bs z2b];by_cases h1:a=b<;>by_cases h2:as_=bs<;>simp[h1,h2]
 | [],_::_,h=>by simp at h
 |_::_,[],h=>by simp at h
theorem nlh:∀(n:Nat) (as_ bs:List Int),as_.length=n->bs.length=n->smT (repK n [.i]) (as_.map (Value.int .u8)) (bs.map (Value.int .u8))=true
 |0,[],[],_,_=>rfl
 |n+1,a::as_,b::bs,h,h'=>by
  have:=nlh n as_ bs z2b (by simpa using h');simp only[repK,aEo,abp,afo,smT,smK,this];simp
 |0,_::_,_,h,_=>by simp at h
 |0,[],_::_,_,h=>by simp at h
 |n+1,[],_,h,_=>by simp at h
 |n+1,_::_,[],_,h=>by simp at h
theorem chk_arr{P:Program}{t len e:Nat}{k:IntKind}(hU:P.underlying t=some (.array len e))(hE:P.underlying e=some (.int k))(hZ:nK P e 1)(hA:AggF P e false)(em:Bool)(cs:List Value)(hl:cs.length=len)(W:World):(Instr.checkKey em 10000 t (.agg cs.toArray)).run P W= .ok () W:=by
 show(Instr.checkKey em (9998+1+1) t (.agg cs.toArray)).run P W= .ok () W;generalize 9998=n;rw[Instr.checkKey];simp only[Sem.run_bind,run_underlying hU,Result.andThen_ok];simp only[Std.Legacy.Range.forIn_eq_forIn_range',Std.Legacy.Range.size,Nat.sub_zero,Nat.add_one_sub_one,Nat.div_one];have each:∀j∈List.range' 0 len,j<cs.length:=λj hj=>by rw[List.mem_range'_1]at hj;omega
 generalize List.range' 0 len=is at each;induction is with
 |nil=>simp
 |cons j is ih=>
  have hj:=each j zS;have p1:(part e cs.toArray (j*1)).run P W= .ok cs[j] W:=by simp[part,hA W,hj]
  have p2:(Instr.checkKey em (n+1) e cs[j]).run P W= .ok () W:=by simp[Instr.checkKey,run_underlying hE]
  exact zGj
theorem ntj(n:Nat):∀as_:List Int,((as_.map (Value.int .u8)).zip (as_.map (Value.int .u8))).all (λp=>Instr.sameBits n p.1 p.2)=true
 | []=>rfl
 |a::as_=>by
  have:=ntj n as_;simp only[afo,List.zip_cons_cons,List.all_cons,this,Bool.and_true];cases n<;>simp[Instr.sameBits]
theorem keyDk{P:Program}{t e:Nat}(hU:P.underlying t=some (.array 32 e))(hE:P.underlying e=some (.int .u8))(hZ:nK P e 1)(hA:AggF P e false):KeyF P t dkv where
 und:=⟨_,hU,λk v=>by cases v<;>rfl⟩
 chk:=λb k W=>chk_arr hU hE hZ hA b _ (by simp[k.2]) W
 eq:=λk k' W=>by
  have h:=EqA.array hU hZ (ks:=[.i]) rfl (EqP.int hE hA) 9998 (k.1.map (Value.int .u8)) (k'.1.map (Value.int .u8)) W (nlh 32 _ _ k.2 k'.2);have e:decide (k=k')=decide (k.1=k'.1):=by simp only[Subtype.ext_iff]
  rw[e,<-nif _ _ (by rw[k.2,k'.2])];exact h
 bits:=λk=>by
  show Instr.sameBits (9999+1) (dkv k) (dkv k)=true;generalize 9999=n;simp only[dkv,Instr.sameBits,beq_self_eq_true,Bool.true_and];exact ntj n k.1
/-! ### slices whose blocks are frozen -/
def SlF {α:Type} (enc:α->Array Value) (n:Nat) (F:Heap) (a:Option Addr) (xs:List α):Prop:=
 xs=[]\/∃b off cs t fr,a=some ⟨b,off,none⟩/\(b,Obj.cells cs t fr)∈F/\∀i (h:i<xs.length),off+i*n+n<=cs.size/\cut cs (off+i*n) n=enc xs[i]
section
variable {α:Type} {enc:α->Array Value} {n N K:Nat} {w W:World} {a:Option Addr} {xs:List α} {F F':Heap} {L:List World} {H:Heap}
theorem SlF.mono(h:SlF enc n F a xs)(hF:∀p∈F,p∈F'):SlF enc n F' a xs:=by
 rcases h with h|⟨b,off,cs,t,fr,h1,h2,h3⟩
 ·exact .inl h
 exact .inr ⟨b,off,cs,t,fr,h1,hF _ h2,h3⟩
theorem SlF.at(h:SlF enc n F a xs)(hW:∀p∈F,p.1<N/\W.heap[p.1]? =some p.2):SlAt enc n N W a xs:=by
 rcases h with h|⟨b,off,cs,t,fr,h1,h2,h3⟩
 ·exact .inl h
 exact .inr ⟨b,off,cs,t,fr,h1,(hW _ h2).1,(hW _ h2).2,h3⟩
theorem SlAt.fs(h:SlAt enc n N w a xs)(hn:∀q,a=some q->K<=q.block):∃F,(∀p∈F,K<=p.1/\w.heap[p.1]? =some p.2)/\SlF enc n F a xs:=by
 rcases h with h|⟨b,off,cs,t,fr,h1,h2,h3,h4⟩
 ·exact⟨[],by simp,.inl h⟩
 refine⟨[(b,.cells cs t fr)],λp hp=>?_,.inr ⟨b,off,cs,t,fr,h1,by simp,h4⟩⟩;simp only[agp]at hp;subst hp;exact⟨hn _ h1,h3⟩
theorem SlF.ge(h:SlF enc n F a xs)(hF:∀p∈F,K<=p.1):∀q,a=some q->xs=[]\/K<=q.block:=by
 intro q hq;rcases h with h|⟨b,off,cs,t,fr,h1,h2,h3⟩
 ·exact .inl h
 rw[h1]at hq;cases hq;exact .inr (hF _ h2)
theorem St.fzLies(h:St (fzG F) L H W):∀p∈F,p.1<W.heap.size/\W.heap[p.1]? =some p.2:=λp hp=>⟨(ago.1 (h.ghost p hp)).1,h.ghost p hp⟩
variable {W':World}
theorem St.fzAdd(h:St (fzG F) L H W)(hb:Below W.heap.size W W')(hF:∀p∈F',W.heap.size<=p.1/\W'.heap[p.1]? =some p.2):St (fzG (F'++F)) L H W':=by
 have h1:=h.step hb;refine⟨λp hp=>?_,λk hk=>?_,λk hk=>hk.elim,h1.links,h1.own,h1.nodup,λp hp hv=>?_⟩
 ·rcases azo.1 hp with hp|hp
  ·exact(hF p hp).2
  exact h1.ghost p hp
 ·obtain⟨p,hp,rfl⟩:=ano.1 hk;rcases azo.1 hp with hp|hp
  ·exact(ago.1 (hF p hp).2).1
  exact h1.vlt p.1 (ano.2 ⟨p,hp,rfl⟩)
 obtain⟨q,hq,e⟩:=ano.1 hv;rcases azo.1 hq with hq|hq
 ·have:=(hF q hq).1;have:=h.lt p hp;omega
 exact h1.apart p hp (ano.2 ⟨q,hq,e⟩)
end
section
variable {C:Cx} {Q:Post} {E:Env} {D:List Deferred} {L:List World} {H F:Heap} {ops:Array Oper} {l:List Oper}
variable {d ty f:Nat} {pos:String} {aft:Array Edge} {g:Option (Nat×Bool)} {xo:List Operand} {vs:List Value} {tys:Array Nat}
theorem callFz{γ:Type}{v:γ->Value}{Φ:Heap->γ->Prop}(hent:Ent C.P f)(hw:nm ops E g=some true)(hN:Nat.blt d C.N=true)(ha:evs E xo=some vs)(hc:∀W,St (fzG F) L H W->Calls C.P f vs.toArray W (λe w'=>∃x F',e= .returned (v x)/\Below W.heap.size W w'/\(∀p∈F',W.heap.size<=p.1/\w'.heap[p.1]? =some p.2)/\Φ F' x))(k:∀x F',Φ F' x->(∀p∈F',Above L p.1)->OJ C ops Q l ((d,v x)::E) D (fzG (F'++F)) L H):OJ C ops Q (⟨some d,.call ⟨.value (.func f),xo.toArray,tys⟩,ty,pos,aft,g⟩::l) E D (fzG F) L H:=
 nN rfl hw rfl ha zS hent λa W hN' hD hF hS=>(hc W hS).mono (by
  rintro ed W' ⟨x,F',rfl,hb,hF',hx⟩;exact k x F' hx (λp hp=>n1c hS (hF' p hp).1) (a.put (some d) (v x)) W' zrb zpb (hF.put _ zqb) (hS.fzAdd hb hF'))
variable {G:Gh} {m:Nat}
theorem callRrX{α:Type}{enc:α->List Value}{t:Nat}{v:Value->Value}{Φ:World->World->List α->Prop}(hent:Ent C.P f)(hw:nm ops E g=some true)(hN:Nat.blt d C.N=true)(ha:evs E xo=some vs)(hm:∀x,(enc x).length=m)(hc:∀W,St G L H W->Calls C.P f vs.toArray W (λe w'=>∃xs,Φ W w' xs/\nC W enc m t xs v e w'))(k:∀W (xs:List α) a cp w1,St G L H W->Below W.heap.size W w1->Φ W w1 xs->SlAt (λx=>(enc x).toArray) m w1.heap.size w1 a xs->(∀b,a=some b->W.heap.size<=b.block)->OJ C ops Q l ((d,v (.slice a xs.length cp))::E) D G (w1::L) H):OJ C ops Q (⟨some d,.call ⟨.value (.func f),xo.toArray,tys⟩,ty,pos,aft,g⟩::l) E D G L H:=
 nN rfl hw rfl ha zS hent λac W hN' hD hF hS=>(hc W hS).mono (by
  rintro ed W' ⟨xs,hΦ,r,rfl,hb,hge,hfit,hat⟩;obtain⟨a,cp,he,hsl⟩:=r.sl hm hfit hat (abo _);have:=k W xs a cp W' hS hb hΦ hsl (by
   intro b hab;cases r with
   |nil=>simp only[Rw.val,Value.slice.injEq]at he;rw[<-he.1]at hab;cases hab
   |row b' cap sp=>simp only[Rw.val,Value.slice.injEq]at he;rw[<-he.1]at hab;cases hab;exact hge) (ac.put (some d) (v (.slice a xs.length cp))) W' zrb zpb (hF.put _ zqb) (hS.step hb).snap
  rw[he];exact this)
end
/-! ### walks that say the world exactly -/
section
variable (C:Cx)
def PX (Q:Post) (e:Exit) (E:Env) (T:World->Prop):Prop:=∀a W,a.tmps.size=C.N->a.defers=[]->Fits E a->T W->Q e a W
def CX (c:Code) (Q:Post) (E:Env) (T:World->Prop):Prop:=∀a W,a.tmps.size=C.N->a.defers=[]->Fits E a->T W->c.wpIn (FW C.r) 0 C.P Q a W
def OX (ops:Array Oper) (Q:Post) (l:List Oper) (E:Env) (T:World->Prop):Prop:=∀a W,a.tmps.size=C.N->a.defers=[]->Fits E a->T W->wpListIn (FW C.r) 0 C.P ops Q l a W
end
section
variable {C:Cx} {Q:Post} {E E':Env} {T:World->Prop} {ops:Array Oper} {l:List Oper}
theorem CX.region{id:Nat}(h:OX C l.toArray Q l E T):CX C (.region id l.toArray false) Q E T:=λa W hN hD hF hS=>wpIn_region_lit (h a W hN hD hF hS)
variable {y:Code}
theorem CX.seq{x:Code}(h:CX C x (Exit.then (y.wpIn (FW C.r) 0 C.P Q) Q) E T):CX C (.seq x y) Q E T:=λa W hN hD hF hS=>wpIn_seq (h a W hN hD hF hS)
theorem CX.block{id:Nat}{c:Code}(h:CX C c (Exit.inBlock id Q) E T):CX C (.block id c) Q E T:=λa W hN hD hF hS=>wpIn_block (h a W hN hD hF hS)
theorem CX.skip(h:PX C Q .normal E T):CX C .skip Q E T:=λa W hN hD hF hS=>wpIn_skip (h a W hN hD hF hS)
theorem CX.ret(h:PX C Q .ret E T):CX C .ret Q E T:=λa W hN hD hF hS=>wpIn_ret (h a W hN hD hF hS)
theorem CX.exit{id:Nat}(h:PX C Q (.exit id) E T):CX C (.exit id) Q E T:=λa W hN hD hF hS=>wpIn_exit (h a W hN hD hF hS)
theorem PX.next(h:CX C y Q E T):PX C (Exit.then (y.wpIn (FW C.r) 0 C.P Q) Q) .normal E T:=h
theorem OX.done(h:PX C Q .normal E T):OX C ops Q [] E T:=h
theorem CX.condT{c:Operand}{x:Code}(hc:ev E c=some (.bool true))(h:CX C x Q E T):CX C (.cond c x y) Q E T:=λa W hN hD hF hS=>wpIn_cond_true (hF.ev hc) (h a W hN hD hF hS)
theorem CX.condF{c:Operand}{x:Code}(hc:ev E c=some (.bool false))(h:CX C y Q E T):CX C (.cond c x y) Q E T:=λa W hN hD hF hS=>wpIn_cond_false (hF.ev hc) (h a W hN hD hF hS)
theorem PX.retThen{R:Act->World->Prop}(h:PX C Q .ret E T):PX C (Exit.then R Q) .ret E T:=h
theorem PX.exThen{R:Act->World->Prop}{id:Nat}(h:PX C Q (.exit id) E T):PX C (Exit.then R Q) (.exit id) E T:=h
theorem PX.retBlock{id:Nat}(h:PX C Q .ret E T):PX C (Exit.inBlock id Q) .ret E T:=h
theorem PX.norBlock{id:Nat}(h:PX C Q .normal E T):PX C (Exit.inBlock id Q) .normal E T:=h
theorem PX.exHit{id:Nat}(h:PX C Q .normal E T):PX C (Exit.inBlock id Q) (.exit id) E T:=λa W hN hD hF hS=>by
 simp only[Exit.inBlock];have:=h a W hN hD hF hS;simpa using this
theorem OX.fix(h:∀W1,T W1->OX C ops Q l E (· =W1)):OX C ops Q l E T:=λa W hN hD hF hS=>h W hS a W hN hD hF rfl
variable {aft:Array Edge} {L:List World} {pos:String}
theorem rvX{o:Op}{d ty:Nat}{g:Option (Nat×Bool)}{v:Value}(hT:∀W,T W->St Gh.no L [] W)(hnd:nOg o=true)(hw:nm ops E g=some true)(hN:Nat.blt d C.N=true)(h:RV C Gh.no L [] E o v)(k:OX C ops Q l ((d,v)::E) T):OX C ops Q (⟨some d,o,ty,pos,aft,g⟩::l) E T:=by
 intro a W hN' hD hF hS;have hr:=h d ty pos aft g a W hF (hT W hS);unfold wpListIn;rw[if_pos (nsb hF hw)];refine⟨λ_ _=>trivial,?_⟩;rw[Oper.semAt_eq _ _ _ (nd_of hnd),hr,Oper.uponIn_value];exact k (a.put (some d) v) W zrb zpb (hF.put _ zqb) hS
variable {x:Operand}
theorem boxX{d t ty:Nat}{g:Option (Nat×Bool)}{v:Value}(hw:nm ops E g=some true)(hN:Nat.blt d C.N=true)(hx:ev E x=some v)(k:∀W,T W->OX C ops Q l ((d,ptr W.heap.size 0)::E) (· =W.alloc (.cells v.cells t (0,0)))):OX C ops Q (⟨some d,.box t x,ty,pos,aft,g⟩::l) E T:=by
 intro a W hN' hD hF hS;have hr:(execOp a.eval ⟨some d,.box t x,ty,pos,aft,g⟩).run C.P W= .ok (.value (ptr W.heap.size 0)) (W.alloc (.cells v.cells t (0,0))):=n9i (hF.ev hx);unfold wpListIn;rw[if_pos (nsb hF hw)];refine⟨λ_ _=>trivial,?_⟩;rw[Oper.semAt_eq _ _ _ zS,hr,Oper.uponIn_value];exact k W hS (a.put (some d) (ptr W.heap.size 0)) _ zrb zpb (hF.put _ zqb) rfl
variable {tys:Array Nat} {vs:List Value}
theorem callX'{d f ty:Nat}{g:Option (Nat×Bool)}{xs:List Operand}{first cap:List Value}{v:Value}{T':World->Prop}(hx:ev E x=some (.func (.func f) first.toArray cap.toArray))(hent:Ent C.P f)(hw:nm ops E g=some true)(hN:Nat.blt d C.N=true)(ha:evs E xs=some vs)(hc:∀W,T W->Calls C.P f (first++vs++cap).toArray W (λe w'=>e= .returned v/\T' w'))(k:OX C ops Q l ((d,v)::E) T'):OX C ops Q (⟨some d,.call ⟨.value x,xs.toArray,tys⟩,ty,pos,aft,g⟩::l) E T:=by
 intro a W hN' hD hF hS;unfold wpListIn;rw[if_pos (nsb hF hw)];refine⟨λ_ _=>trivial,?_⟩;have hr:(execOp a.eval ⟨some d,.call ⟨.value x,xs.toArray,tys⟩,ty,pos,aft,g⟩).run C.P W= .ok (.enter f (first++vs++cap).toArray) W:=by
  have h2:(xs.toArray).map a.eval=vs.toArray:=by rw[aro,nic hF xs vs ha]
  simp only[execOp,resolve,hF.ev hx,Deferred.ofValue,h2];have h3:=hent (first++vs++cap).toArray W;simp only[a2o]at h3 ⊢;simp[invoke,h3]
 rw[Oper.semAt_eq _ _ _ zS,hr,Oper.uponIn_enter];refine⟨by simp,nIb.2 ((hc W hS).mono ?_)⟩;rintro e W' ⟨rfl,h⟩;exact k (a.put (some d) v) W' zrb zpb (hF.put _ zqb) h
def loopX {α:Type} (C:Cx) (Ei:α->Env) (Ti:α->World->Prop) (ok:α->Prop) (μ:α->Nat) (x:α):Act->World->Prop:=λa W=>
 ∃x',ok x'/\μ x'<μ x/\a.tmps.size=C.N/\a.defers=[]/\Fits (Ei x') a/\Ti x' W
theorem CX.loop{α:Type}{c:Code}(Ei:α->Env)(Ti:α->World->Prop)(ok:α->Prop)(μ:α->Nat)(x0:α)(h0:ok x0)(hE:Sub (Ei x0) E)(hT:∀W,T W->Ti x0 W)(round:∀x,ok x->CX C c (Exit.then (loopX C Ei Ti ok μ x) Q) (Ei x) (Ti x)):CX C (.loop c) Q E T:=by
 intro a W hN hD hF hS
 let Inv:Act->World->Nat->Prop:=λa W m=>∃x,μ x=m/\ok x/\a.tmps.size=C.N/\a.defers=[]/\Fits (Ei x) a/\Ti x W
 refine wpIn_loop (λa W=>∃m,Inv a W m) (λa W=>nhd (Inv a W)) ⟨_,x0,rfl,h0,hN,hD,hE.fits hF,hT W hS⟩ ?_;exact zni
theorem PX.again{α:Type}{Ei:α->Env}{Ti:α->World->Prop}{ok:α->Prop}{μ:α->Nat}{x:α}(x':α)(h0:ok x')(hlt:μ x'<μ x)(hE:Sub (Ei x') E)(hT:∀W,T W->Ti x' W):PX C (Exit.then (loopX C Ei Ti ok μ x) Q) .normal E T:=λa W hN hD hF hS=>⟨x',h0,hlt,hN,hD,hE.fits hF,hT W hS⟩
variable {R:Ending->World->Prop} {e:Exit}
theorem retX'{fn:Func}{t:Nat}{v:Value}(he:e= .ret\/e= .normal)(hr:fn.results=#[.tmp t])(hv:look E t=some v)(h:∀W,T W->R (.returned v) W):PX C (bodyPost C.P fn R) e E T:=by
 intro a W hN hD hF hS;have:bodyPost C.P fn R .ret a W:=⟨hD,v,by rw[results_tmp hr];exact congrArg (λu=>Result.ok u W) (hF t v hv),h W hS⟩;rcases he with rfl|rfl<;>exact this
end
variable {R:Ending->World->Prop} {vs:List Value} {N:Nat}
theorem enterX{P:Program}{f:Nat}{fn:Func}{c:Code}{w:World}(hf:P.funcs[f]? =some fn)(hb:fn.body=some c)(hN:fn.ntmps=N)(hl:Nat.ble vs.length N=true)(h:CX ⟨P,none,N⟩ c (bodyPost P fn R) (nSd 0 vs) (· =w)):Calls P f vs.toArray w R:=by
 rw[<-nIb (r:=none) (n:=0)];refine callsIn_of_wp hf hb trivial (h _ w ?_ rfl ?_ rfl)
 ·have:=apo hl;simp[hN];omega
 exact nyf vs _
def Gz (w0:World) (W:World):Prop:=∃q os,W=Sort.grow (w0.drewN q) os
theorem Gz.refl(w:World):Gz w w:=⟨0,#[],by simp[Sort.grow,World.drewN]⟩
theorem Gz.trans{a b c:World}(h:Gz a b)(k:Gz b c):Gz a c:=by
 obtain⟨q,os,rfl⟩:=h;obtain⟨q',os',rfl⟩:=k;exact⟨q+q',os++os',by simp[Sort.grow,World.drewN,Nat.add_assoc]⟩
theorem Gz.alloc(w:World)(o:Obj):Gz w (w.alloc o):=⟨0,#[o],by rw[Sort.alloc_eq_grow];simp[Sort.grow,World.drewN]⟩
variable {W:World}
theorem Gz.below{w:World}(h:Gz w W):Below w.heap.size w W:=by
 obtain⟨q,os,rfl⟩:=h;refine⟨rfl,rfl,rfl,?_,λk hk=>?_⟩
 ·simp[Sort.grow,World.drewN]
 simp only[Sort.grow,World.drewN];rw[aso hk]
variable {L:List World}
theorem st_of(h:∀w∈L,Below w.heap.size w W):St Gh.no L [] W:=
 ⟨trivial,λ_ h=>h.elim,λ_ h=>h.elim,λw' hw=>(Keep.of_below (X:=λk=>Gh.no.X k\/k∈([]:Heap).map (·.1)) (h w' hw)),λ_ h=>by simp at h,λ_ _ _ _ h=>by simp at h,λ_ h=>by simp at h⟩
end Px
