/- Memory, operations, iterators, slices, maps. No condition beyond those stated. -/
import Derived.Test.YtpgobjebhigaoaaGreatDoorXd
set_option linter.unusedSimpArgs false
set_option linter.unusedVariables false
set_option linter.unusedSectionVars false
set_option linter.unnecessarySimpa false
set_option maxRecDepth 20000
set_option maxHeartbeats 8000000
namespace Px
open Go Go.RowKit
def vZ (P:Program) (f:Nat) (cap:List Value) {α:Type} (enc:α->List Value) (Pre Fin:List α->aB->World->Prop) (MI RO:aB) (W:World):Prop:=
 ∀(l:Nat) (M:aB) (I:List α->aB->World->Prop) (X:aB->World->Prop),
  (∀k,M k->k<W.heap.size/\¬MI k/\¬RO k)->
  (∀pre V,eA (λk=>(k<W.heap.size/\¬MI k)\/V k) (I pre V))->(∀V,eA (λk=>(k<W.heap.size/\¬MI k)\/V k) (X V))->
  (∀pre x V W1,Pre (pre++[x]) (λk=>M k\/V k) W1->(∀k,V k->W.heap.size<=k/\k<W1.heap.size)->I pre V W1->JZ P l (enc x).toArray W1 (λb W2=>aI (λk=>M k\/V k) W1 W2/\(if b then I (pre++[x]) (oI V W1 W2) W2 else X (oI V W1 W2) W2)))->
  I [] (λ_=>False) W->
  Calls P f (yv l::cap).toArray W (λe W'=>(∃v,e= .returned v)/\aI (λk=>M k\/MI k) W W'/\∃V,(∃xs,Fin xs (λk=>M k\/V k) W'/\I xs V W')\/X V W')
section
variable {C:Cx} {Q:aG} {E:Env} {D:List Deferred} {L:List World} {H:ae} {ops:Array Oper} {l:List Oper}
variable {d ty:Nat} {pos:String} {aD:Array Edge} {g:Option (Nat×Bool)} {x:Operand} {xs:List Operand} {vs:List Value} {ea:Array Nat}
variable {W0:World} {MI RO M:aB} {hM:∀k,M k->k<W0.heap.size/\¬MI k/\¬RO k}
variable {assign body:Code} {I1 X1:aB->World->Prop} {G:Gh} {N f:Nat} {I:World->Prop}
theorem JI{y:Nat}(Z:aB)(T:Gh->Gh)(hT:∀G,(T G).M=G.M/\(T G).V=G.V/\(T G).R=G.R/\(T G).X=λk=>G.X k\/Z k){V:aB}{hI:eA (λk=>(k<W0.heap.size/\¬MI k)\/V k) I}(kI:∀V,eA (λk=>(k<W0.heap.size/\¬MI k)\/V k) (I1 V))(fk:∀V,eA (λk=>(k<W0.heap.size/\¬MI k)\/V k) (X1 V))(hV:∀k,V k->W0.heap.size<=k)(hw:nq ops E g=some true)(hN:Nat.blt d C.N=true)(hx:ev E x=some (yv y))(ha:iv E xs=some vs)(hy:∀W1,St (T (cj hM V hI)) L H W1->(∀k,V k->W0.heap.size<=k/\k<W1.heap.size)->I W1->JZ C.P y vs.toArray W1 (λb W2=>aI (λk=>M k\/V k) W1 W2/\(if b then I1 (oI V W1 W2) W2 else X1 (oI V W1 W2) W2)))(k1:∀V2,(∀k,V k->V2 k)->(∀w∈L,∀k,V2 k->V k\/w.heap.size<=k)->OJ C ops Q l ((d,.bool true)::E) D (T (cj hM V2 (kI V2))) L H)(k2:∀V2,(∀k,V k->V2 k)->(∀w∈L,∀k,V2 k->V k\/w.heap.size<=k)->OJ C ops Q l ((d,.bool false)::E) D (T (cj hM V2 (fk V2))) L H):OJ C ops Q (⟨some d,.call ⟨.value x,xs.toArray,ea⟩,ty,pos,aD,g⟩::l) E D (T (cj hM V hI)) L H:=by
 refine Od (λG'=>∃V2,(∀k,V k->V2 k)/\(∀w∈L,∀k,V2 k->V k\/w.heap.size<=k)/\G'=T (cj hM V2 (kI V2))) (λG'=>∃V2,(∀k,V k->V2 k)/\(∀w∈L,∀k,V2 k->V k\/w.heap.size<=k)/\G'=T (cj hM V2 (fk V2))) hw hN hx ha (λW1 hS=>?_) (by rintro _ ⟨V2,h2,h3,rfl⟩;exact k1 V2 h2 h3) (by rintro _ ⟨V2,h2,h3,rfl⟩;exact k2 V2 h2 h3);have cb:∀k,V k->k<W1.heap.size:=λk hk=>hS.xlt k (by rw[(hT _).2.2.2];exact .inl (.inr hk));have hgh:I W1:=by have:=hS.ghost;rw[(hT _).2.2.1]at this;exact this
 obtain⟨fn,tmps,assign,body,gy,gz⟩:=hy W1 hS (λk hk=>⟨hV k hk,cb k hk⟩) hgh;exact zaj
theorem Ur{fn:Func}{V:aB}{hI:eA (λk=>(k<W0.heap.size/\¬MI k)\/V k) I}{α:Type}{Fin:List α->aB->World->Prop}{I':List α->aB->World->Prop}{X:aB->World->Prop}{e:Exit}(he:e= .ret\/e= .normal)(hr:fn.results=#[])(hw:W0∈L)(hV:∀k,V k->W0.heap.size<=k)(hH:∀k,k<W0.heap.size->k∈H.map (·.1)->MI k)(h:∀A,St (cj hM V hI) L H A->I A->(∃xs,Fin xs (λk=>M k\/V k) A/\I' xs V A)\/X V A):PJ C (bodyPost C.P fn (λe W'=>(∃v,e= .returned v)/\aI (λk=>M k\/MI k) W0 W'/\∃V,(∃xs,Fin xs (λk=>M k\/V k) W'/\I' xs V W')\/X V W')) e E [] (cj hM V hI) L H:=by
 intro a W' _ hD _ hS;have key:bodyPost C.P fn (λe W'=>(∃v,e= .returned v)/\aI (λk=>M k\/MI k) W0 W'/\∃V,(∃xs,Fin xs (λk=>M k\/V k) W'/\I' xs V W')\/X V W') .normal a W':=by
  refine⟨hD,.tuple #[],results_none hr _ _ _,⟨_,rfl⟩,(hS.links W0 hw).mono λk hk hx=>?_,V,h W' hS hS.ghost⟩;exact z7k
 exact PU
end
section
variable {α:Type}
variable {assign body:Code} {E:Env} {G:Gh} {H:ae} {D:List Deferred} {L:List World} {N f:Nat} {MI RO:Nat->Prop}
theorem range3{B:World->Prop}{P:Program}{Q:aG}{g:Operand}{ps:Array Tmp}{cap:List Value}{enc:α->List Value}{Pre Fin:List α->aB->World->Prop}(hg:ev E g=some (.func (.func f) #[] cap.toArray))(az:dR P f)(o3:∀W W2,St G L H W->B W->Below W.heap.size W W2->vZ P f cap enc Pre Fin MI RO W2)(xC:∀W,St G L H W->B W->(∀k,MI k->k<W.heap.size/\ad L k/\k∉H.map (·.1)/\¬G.V k/\¬G.X k))(my:∀W,St G L H W->(∀k,RO k->k<W.heap.size/\k∉H.map (·.1)/\¬G.X k))(pT:∀x,(enc x).length=ps.size)(Inv:List α->Gh->ae->Prop)(bX:Code->Gh->ae->Prop)(h0:Inv [] G H)(tF:∀p∈ps.toList,p<N)(round:∀(pre:List α) (x:α) (G':Gh) (Hc:ae) (l Dk:Nat) (rec:Loop) (W1:World) (M V:aB) (Wy:World),rec.state= .ready->rec.pending=none->Pre (pre++[x]) (λk=>M k\/V k) Wy->Inv pre G' Hc->ad L Dk->l=Dk+1->l<Wy.heap.size->ad L Wy.heap.size->mo G H L Dk W1 MI M V Wy G' Hc->St G' L (book Hc l rec (bQ Dk)) Wy->CJ ⟨P,some l,N⟩ assign (NM ⟨P,some l,N⟩ l body (Oe P W1 MI M L V Wy Inv bX l rec (bQ Dk) (pre++[x]))) ((ps.toList.zip (enc x)).reverse++E) [] (G'.ext λk=>M k\/V k) (Wy::L) (book Hc l rec (bQ Dk)))(done:∀xs l Dk rec G' Hc (Z:aB) (Wd:World),Fin xs Z Wd->(∀p∈book Hc l rec (bQ Dk),Z p.1)->ad L Dk->l=Dk+1->Inv xs G' Hc->PJ ⟨P,none,N⟩ Q .normal E (er Dk::D) G' (Wd::L) (book Hc l rec (bQ Dk)))(stop:∀l Dk rec c G' Hc,ad L Dk->l=Dk+1->bX c G' Hc->CJ ⟨P,none,N⟩ c Q E (er Dk::D) G' L (book Hc l rec (bQ Dk))):∀a W,a.tmps.size=N->a.defers=D->Fits E a->St G L H W->B W->(Code.rangeFunc g ps assign body).wpIn (FW none) 0 P Q a W:=by
 intro a W hN hD hF hS NI;refine wpIn_rangeFunc ?_;intro fn _;have jy:(W.alloc (.deferred (some []))).heap.size=W.heap.size+1:=by simp
 obtain⟨rec,fF⟩:∃rec:Loop,rec={state:=.ready,pending:=none,fn,tmps:=a.tmps,params:=ps,assign,body,defers:=W.heap.size}:=⟨_,rfl⟩;obtain⟨W1,Es⟩:∃W1,W1=(W.alloc (.deferred (some []))).alloc (.loop rec):=⟨_,rfl⟩;have mm:St G L (book H (W.heap.size+1) rec (bQ W.heap.size)) W1:=by
  exact zwk
 have NK:Below W.heap.size W W1:=by
  rw[Es];exact((Below.refl _ _).alloc (ao _) _).alloc z1 _
 have af8:W1.heap.size=W.heap.size+2:=by rw[Es];simp
 have he:(Instr.enterLoop fn a.tmps ps assign body (none:Option Nat)).run P W= .ok (W.heap.size+1,[er W.heap.size]) W1:=by
  rw[Es,fF];exact run_enterLoop_outer _ _ _ _ _
 refine⟨W.heap.size+1,[er W.heap.size],W1,{target:=.fn (.func f) cap.toArray,args:=#[yv (W.heap.size+1)]},W1,f,(yv (W.heap.size+1)::cap).toArray,W1,he,?_,λ_ _=>trivial,?_,by simp,?_⟩
 ·simp[resolve,hF.ev hg,Deferred.ofValue];rfl
 ·simp[invoke,az _ W1]
 refine CG.2 ?_;have lx:∀k,MI k->k<W.heap.size/\ad L k/\k∉H.map (·.1)/\¬G.V k/\¬G.X k:=xC W hS NI
 let M:aB:=λk=>G.X k\/k∈H.map (·.1)\/k=W.heap.size\/k=W.heap.size+1
 have xJ:∀k,M k->k<W1.heap.size/\¬MI k/\¬RO k:=by
  exact zxj
 have stab:∀{V:aB} {G':Gh} {Hc:ae} {o:Loop},Loc W1 MI M V G' Hc->eA (λk=>(k<W1.heap.size/\¬MI k)\/V k) (St G' L (book Hc (W.heap.size+1) o (bQ W.heap.size))):=by
  intro V G' Hc o fX A B hA ho ht oX hs ee;exact zjj
 have Da:Loc W1 MI M (λ_=>False) G H:=⟨λk hv=>.inl ⟨mm.vlt k hv,λhm=>(lx k hm).2.2.2.1 hv⟩,λk hx=>.inl (.inl hx),λp hp=>.inl (.inr (.inl (bU.2 ⟨p,hp,rfl⟩)))⟩;have pY:∀x,(ps.zip (enc x).toArray).foldl (λtmps (p:Tmp×Value)=>match p with|(t,a)=>tmps.setIfInBounds t a) a.tmps=(ps.toList.zip (enc x)).foldl (λt (p:Nat×Value)=>t.setIfInBounds p.1 p.2) a.tmps:=by
  exact zil
 have sV:=o3 W W1 hS NI NK (W.heap.size+1) M (YM W1 MI M L Inv (W.heap.size+1) rec (bQ W.heap.size)) (YN W1 MI M L bX (W.heap.size+1) rec (bQ W.heap.size)) xJ
  (λpre V A B hA ho ht oX hs ee=>by
   obtain⟨G',Hc,hi,fX,bY⟩:=hA;exact⟨G',Hc,hi,fX,stab fX A B bY ho ht oX hs ee⟩)
  (λV A B hA ho ht oX hs ee=>by
   obtain⟨c,G',Hc,hi,fX,bY⟩:=hA;exact⟨c,G',Hc,hi,fX,stab fX A B bY ho ht oX hs ee⟩)
  (λpre x V Wy dU hV hI=>by
   obtain⟨G',Hc,hi,fX,bY⟩:=hI;have hy:=run_yield (P:=P) (args:=(enc x).toArray) bY.loopAt (by simp[pT,fF]);refine⟨_,_,_,_,hy,roundIn_of_wpIn (F:=FW none) trivial ?_⟩;have th:W1.heap.size<=Wy.heap.size:=by
    have h1:=bY.lt (W.heap.size+1,.loop rec) z1;simp only at h1;omega
   have bj:mo G H L W.heap.size W1 MI M V Wy G' Hc:=⟨fX,λk hk=>hk,λk hk=>.inr (.inr hk),λk hk=>(hV k hk).1,by omega,λw hw=>(hS.links w hw).size⟩;have wO:St (G'.ext λk=>M k\/V k) (Wy::L) (book Hc (W.heap.size+1) rec (bQ W.heap.size)) Wy:=by
    exact zGj
   have hr:=round pre x G' Hc (W.heap.size+1) W.heap.size rec W1 M V Wy (by rw[fF]) (by rw[fF]) dU hi hS.sizes rfl (aM.1 bY.loopAt).1 bY.sizes bj bY;have Of:rec.params=ps:=by rw[fF]
   have Og:rec.assign=assign:=by rw[fF]
   have Oh:rec.body=body:=by rw[fF]
   have Oi:rec.tmps=a.tmps:=by rw[fF]
   rw[Og,Oh,Oi,Of,pY x];have kn:=YA (zs:=ps.toList.zip (enc x)) hF (λp hp=>by rw[hN];exact tF p.1 (List.of_mem_zip hp).1);exact hr _ Wy (by have:=kn.1;rw[hN]at this;exact this) rfl kn.2 wO)
  ⟨G,H,h0,Da,mm⟩
 refine sV.mono ?_;rintro e W2 ⟨⟨v,rfl⟩,J0,V,⟨xs,bZ,hI⟩|hX⟩
 ·obtain⟨G',Hc,hi,fX,bY⟩:=hI;refine⟨rec.pending,_,run_endLoop bY.loopAt (by rw[fF];simp),?_⟩;rw[show rec.pending=none by rw[fF]];exact done xs _ _ _ G' Hc _ _ bZ (λp hp=>by simp only[book,cO,cP,fG,or_false]at hp;rcases hp with hp|rfl|rfl;(exact fX.h p hp);(exact .inl (.inr (.inr (.inr rfl))));exact .inl (.inr (.inr (.inl rfl)))) hS.sizes rfl hi _ _ (by simpa using hN) (by simp[hD]) (λt v hv=>hF t v hv) (bY.snap.loop _)
 exact z9j
theorem CJ.range3{P:Program}{Q:aG}{g:Operand}{ps:Array Tmp}{cap:List Value}{enc:α->List Value}{Pre Fin:List α->aB->World->Prop}(hg:ev E g=some (.func (.func f) #[] cap.toArray))(az:dR P f)(o3:∀W W2,St G L H W->Below W.heap.size W W2->vZ P f cap enc Pre Fin MI RO W2)(xC:∀W,St G L H W->(∀k,MI k->k<W.heap.size/\ad L k/\k∉H.map (·.1)/\¬G.V k/\¬G.X k))(my:∀W,St G L H W->(∀k,RO k->k<W.heap.size/\k∉H.map (·.1)/\¬G.X k))(pT:∀x,(enc x).length=ps.size)(Inv:List α->Gh->ae->Prop)(bX:Code->Gh->ae->Prop)(h0:Inv [] G H)(tF:∀p∈ps.toList,p<N)(round:∀(pre:List α) (x:α) (G':Gh) (Hc:ae) (l Dk:Nat) (rec:Loop) (W1:World) (M V:aB) (Wy:World),rec.state= .ready->rec.pending=none->Pre (pre++[x]) (λk=>M k\/V k) Wy->Inv pre G' Hc->ad L Dk->l=Dk+1->l<Wy.heap.size->ad L Wy.heap.size->mo G H L Dk W1 MI M V Wy G' Hc->St G' L (book Hc l rec (bQ Dk)) Wy->CJ ⟨P,some l,N⟩ assign (NM ⟨P,some l,N⟩ l body (Oe P W1 MI M L V Wy Inv bX l rec (bQ Dk) (pre++[x]))) ((ps.toList.zip (enc x)).reverse++E) [] (G'.ext λk=>M k\/V k) (Wy::L) (book Hc l rec (bQ Dk)))(done:∀xs l Dk rec G' Hc (Z:aB) (Wd:World),Fin xs Z Wd->(∀p∈book Hc l rec (bQ Dk),Z p.1)->ad L Dk->l=Dk+1->Inv xs G' Hc->PJ ⟨P,none,N⟩ Q .normal E (er Dk::D) G' (Wd::L) (book Hc l rec (bQ Dk)))(stop:∀l Dk rec c G' Hc,ad L Dk->l=Dk+1->bX c G' Hc->CJ ⟨P,none,N⟩ c Q E (er Dk::D) G' L (book Hc l rec (bQ Dk))):CJ ⟨P,none,N⟩ (.rangeFunc g ps assign body) Q E D G L H:=
 λa W hN hD hF hS=>Px.range3 (B:=λ_=>True) hg az (λW W2 h _ hb=>o3 W W2 h hb) (λW h _=>xC W h) my pT Inv bX h0 tF round done stop a W hN hD hF hS True.intro
end
section
variable {C:Cx} {G:Gh} {L:List World} {H:ae} {E:Env} {x:Operand}
end
/-! ### panics that are recovered -/
section
variable {C:Cx} {Q:aG} {E:Env} {D:List Deferred} {G:Gh} {L:List World} {H:ae} {ops:Array Oper} {l:List Oper} {fn:Func} {R:Ending->World->Prop}
variable {ty f:Nat} {dst:Option Nat} {pos:String} {aD:Array Edge} {g:Option (Nat×Bool)} {x:Operand} {xs:List Operand} {vs:List Value} {ea:Array Nat}
end
end Px
