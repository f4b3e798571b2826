/- Memory, operations, iterators, slices, maps. No condition beyond those stated. -/
import Derived.Test.YtpgobjebhigaoaaGreatDoorXd
set_option linter.unusedSimpArgs false
set_option linter.unusedVariables false
set_option linter.unusedSectionVars false
set_option linter.unnecessarySimpa false
set_option maxRecDepth 20000
set_option maxHeartbeats 8000000
namespace Px
open Go Go.RowKit
def uF (P:Program) (f:Nat) (cap:List Value) {α:Type} (enc:α->List Value) (Pre Fin:List α->aB->World->Prop) (MI RO:aB) (W:World):Prop:=
 ∀(l:Nat) (M:aB) (I:List α->aB->World->Prop) (X:aB->World->Prop),
  (∀k,M k->k<W.heap.size/\¬MI k/\¬RO k)->
  (∀pre V,dW (λk=>(k<W.heap.size/\¬MI k)\/V k) (I pre V))->(∀V,dW (λk=>(k<W.heap.size/\¬MI k)\/V k) (X V))->
  (∀pre x V W1,Pre (pre++[x]) (λk=>M k\/V k) W1->(∀k,V k->W.heap.size<=k/\k<W1.heap.size)->I pre V W1->Iz P l (enc x).toArray W1 (λb W2=>aF (λk=>M k\/V k) W1 W2/\(if b then I (pre++[x]) (mN V W1 W2) W2 else X (mN V W1 W2) W2)))->
  I [] (λ_=>False) W->
  Calls P f (yv l::cap).toArray W (λe W'=>(∃v,e= .returned v)/\aF (λk=>M k\/MI k) W W'/\∃V,(∃xs,Fin xs (λk=>M k\/V k) W'/\I xs V W')\/X V W')
section
variable {C:Cx} {Q:aC} {E:Env} {D:List Deferred} {L:List World} {H:ab} {ops:Array Oper} {l:List Oper}
variable {d ty:Nat} {pos:String} {aA:Array Edge} {g:Option (Nat×Bool)} {x:Operand} {xs:List Operand} {vs:List Value} {dJ:Array Nat}
variable {W0:World} {MI RO M:aB} {hM:∀k,M k->k<W0.heap.size/\¬MI k/\¬RO k}
variable {assign body:Code} {I1 X1:aB->World->Prop} {G:Gh} {N f:Nat} {I:World->Prop}
theorem Ii{y:Nat}(Z:aB)(T:Gh->Gh)(hT:∀G,(T G).M=G.M/\(T G).V=G.V/\(T G).R=G.R/\(T G).X=λk=>G.X k\/Z k){V:aB}{hI:dW (λk=>(k<W0.heap.size/\¬MI k)\/V k) I}(kJ:∀V,dW (λk=>(k<W0.heap.size/\¬MI k)\/V k) (I1 V))(eQ:∀V,dW (λk=>(k<W0.heap.size/\¬MI k)\/V k) (X1 V))(hV:∀k,V k->W0.heap.size<=k)(hw:np ops E g=some true)(hN:Nat.blt d C.N=true)(hx:ev E x=some (yv y))(ha:gR E xs=some vs)(hy:∀W1,St (T (cF hM V hI)) L H W1->(∀k,V k->W0.heap.size<=k/\k<W1.heap.size)->I W1->Iz C.P y vs.toArray W1 (λb W2=>aF (λk=>M k\/V k) W1 W2/\(if b then I1 (mN V W1 W2) W2 else X1 (mN V W1 W2) W2)))(k1:∀V2,(∀k,V k->V2 k)->(∀w∈L,∀k,V2 k->V k\/w.heap.size<=k)->OJ C ops Q l ((d,.bool true)::E) D (T (cF hM V2 (kJ V2))) L H)(k2:∀V2,(∀k,V k->V2 k)->(∀w∈L,∀k,V2 k->V k\/w.heap.size<=k)->OJ C ops Q l ((d,.bool false)::E) D (T (cF hM V2 (eQ V2))) L H):OJ C ops Q (⟨some d,.call ⟨.value x,xs.toArray,dJ⟩,ty,pos,aA,g⟩::l) E D (T (cF hM V hI)) L H:=by
 refine Mz (λG'=>∃V2,(∀k,V k->V2 k)/\(∀w∈L,∀k,V2 k->V k\/w.heap.size<=k)/\G'=T (cF hM V2 (kJ V2))) (λG'=>∃V2,(∀k,V k->V2 k)/\(∀w∈L,∀k,V2 k->V k\/w.heap.size<=k)/\G'=T (cF hM V2 (eQ V2))) hw hN hx ha (λW1 hS=>?_) (by rintro _ ⟨V2,h2,h3,rfl⟩;exact k1 V2 h2 h3) (by rintro _ ⟨V2,h2,h3,rfl⟩;exact k2 V2 h2 h3);have cj:∀k,V k->k<W1.heap.size:=λk hk=>hS.xlt k (by rw[(hT _).2.2.2];exact .inl (.inr hk));have hgh:I W1:=by have:=hS.ghost;rw[(hT _).2.2.1]at this;exact this
 obtain⟨fn,tmps,assign,body,fZ,ga⟩:=hy W1 hS (λk hk=>⟨hV k hk,cj k hk⟩) hgh;exact zqi
theorem SP{fn:Func}{V:aB}{hI:dW (λk=>(k<W0.heap.size/\¬MI k)\/V k) I}{α:Type}{Fin:List α->aB->World->Prop}{I':List α->aB->World->Prop}{X:aB->World->Prop}{e:Exit}(he:e= .ret\/e= .normal)(hr:fn.results=#[])(hw:W0∈L)(hV:∀k,V k->W0.heap.size<=k)(hH:∀k,k<W0.heap.size->k∈H.map (·.1)->MI k)(h:∀A,St (cF hM V hI) L H A->I A->(∃xs,Fin xs (λk=>M k\/V k) A/\I' xs V A)\/X V A):PJ C (bodyPost C.P fn (λe W'=>(∃v,e= .returned v)/\aF (λk=>M k\/MI k) W0 W'/\∃V,(∃xs,Fin xs (λk=>M k\/V k) W'/\I' xs V W')\/X V W')) e E [] (cF hM V hI) L H:=by
 intro a W' _ hD _ hS;have key:bodyPost C.P fn (λe W'=>(∃v,e= .returned v)/\aF (λk=>M k\/MI k) W0 W'/\∃V,(∃xs,Fin xs (λk=>M k\/V k) W'/\I' xs V W')\/X V W') .normal a W':=by
  refine⟨hD,.tuple #[],results_none hr _ _ _,⟨_,rfl⟩,(hS.links W0 hw).mono λk hk hx=>?_,V,h W' hS hS.ghost⟩;exact z9j
 exact Oh
end
section
variable {α:Type}
variable {assign body:Code} {E:Env} {G:Gh} {H:ab} {D:List Deferred} {L:List World} {N f:Nat} {MI RO:Nat->Prop}
theorem range3{B:World->Prop}{P:Program}{Q:aC}{g:Operand}{ps:Array Tmp}{cap:List Value}{enc:α->List Value}{Pre Fin:List α->aB->World->Prop}(hg:ev E g=some (.func (.func f) #[] cap.toArray))(az:dP P f)(oh:∀W W2,St G L H W->B W->Below W.heap.size W W2->uF P f cap enc Pre Fin MI RO W2)(vK:∀W,St G L H W->B W->(∀k,MI k->k<W.heap.size/\ad L k/\k∉H.map (·.1)/\¬G.V k/\¬G.X k))(lF:∀W,St G L H W->(∀k,RO k->k<W.heap.size/\k∉H.map (·.1)/\¬G.X k))(o8:∀x,(enc x).length=ps.size)(Inv:List α->Gh->ab->Prop)(bS:Code->Gh->ab->Prop)(h0:Inv [] G H)(rU:∀p∈ps.toList,p<N)(round:∀(pre:List α) (x:α) (G':Gh) (Hc:ab) (l Dk:Nat) (rec:Loop) (W1:World) (M V:aB) (Wy:World),rec.state= .ready->rec.pending=none->Pre (pre++[x]) (λk=>M k\/V k) Wy->Inv pre G' Hc->ad L Dk->l=Dk+1->l<Wy.heap.size->ad L Wy.heap.size->lD G H L Dk W1 MI M V Wy G' Hc->St G' L (book Hc l rec (bT Dk)) Wy->CJ ⟨P,some l,N⟩ assign (L9 ⟨P,some l,N⟩ l body (MA P W1 MI M L V Wy Inv bS l rec (bT Dk) (pre++[x]))) ((ps.toList.zip (enc x)).reverse++E) [] (G'.ext λk=>M k\/V k) (Wy::L) (book Hc l rec (bT Dk)))(done:∀xs l Dk rec G' Hc (Z:aB) (Wd:World),Fin xs Z Wd->(∀p∈book Hc l rec (bT Dk),Z p.1)->ad L Dk->l=Dk+1->Inv xs G' Hc->PJ ⟨P,none,N⟩ Q .normal E (ec Dk::D) G' (Wd::L) (book Hc l rec (bT Dk)))(stop:∀l Dk rec c G' Hc,ad L Dk->l=Dk+1->bS c G' Hc->CJ ⟨P,none,N⟩ c Q E (ec Dk::D) G' L (book Hc l rec (bT Dk))):∀a W,a.tmps.size=N->a.defers=D->Fits E a->St G L H W->B W->(Code.rangeFunc g ps assign body).wpIn (FW none) 0 P Q a W:=by
 intro a W hN hD hF hS L4;refine wpIn_rangeFunc ?_;intro fn _;have iW:(W.alloc (.deferred (some []))).heap.size=W.heap.size+1:=by simp
 obtain⟨rec,eV⟩:∃rec:Loop,rec={state:=.ready,pending:=none,fn,tmps:=a.tmps,params:=ps,assign,body,defers:=W.heap.size}:=⟨_,rfl⟩;obtain⟨W1,C1⟩:∃W1,W1=(W.alloc (.deferred (some []))).alloc (.loop rec):=⟨_,rfl⟩;have lC:St G L (book H (W.heap.size+1) rec (bT W.heap.size)) W1:=by
  exact zDj
 have L6:Below W.heap.size W W1:=by
  rw[C1];exact((Below.refl _ _).alloc (ao _) _).alloc zX _
 have ad6:W1.heap.size=W.heap.size+2:=by rw[C1];simp
 have he:(Instr.enterLoop fn a.tmps ps assign body (none:Option Nat)).run P W= .ok (W.heap.size+1,[ec W.heap.size]) W1:=by
  rw[C1,eV];exact run_enterLoop_outer _ _ _ _ _
 refine⟨W.heap.size+1,[ec W.heap.size],W1,{target:=.fn (.func f) cap.toArray,args:=#[yv (W.heap.size+1)]},W1,f,(yv (W.heap.size+1)::cap).toArray,W1,he,?_,λ_ _=>trivial,?_,by simp,?_⟩
 ·simp[resolve,hF.ev hg,Deferred.ofValue];rfl
 ·simp[invoke,az _ W1]
 refine Bp.2 ?_;have kD:∀k,MI k->k<W.heap.size/\ad L k/\k∉H.map (·.1)/\¬G.V k/\¬G.X k:=vK W hS L4
 let M:aB:=λk=>G.X k\/k∈H.map (·.1)\/k=W.heap.size\/k=W.heap.size+1
 have vS:∀k,M k->k<W1.heap.size/\¬MI k/\¬RO k:=by
  exact zMi
 have stab:∀{V:aB} {G':Gh} {Hc:ab} {o:Loop},Loc W1 MI M V G' Hc->dW (λk=>(k<W1.heap.size/\¬MI k)\/V k) (St G' L (book Hc (W.heap.size+1) o (bT W.heap.size))):=by
  intro V G' Hc o fj A B hA ho ht od hs dL;exact zyi
 have BT:Loc W1 MI M (λ_=>False) G H:=⟨λk hv=>.inl ⟨lC.vlt k hv,λhm=>(kD k hm).2.2.2.1 hv⟩,λk hx=>.inl (.inl hx),λp hp=>.inl (.inr (.inl (bW.2 ⟨p,hp,rfl⟩)))⟩;have pg:∀x,(ps.zip (enc x).toArray).foldl (λtmps (p:Tmp×Value)=>match p with|(t,a)=>tmps.setIfInBounds t a) a.tmps=(ps.toList.zip (enc x)).foldl (λt (p:Nat×Value)=>t.setIfInBounds p.1 p.2) a.tmps:=by
  exact zik
 have rB:=oh W W1 hS L4 L6 (W.heap.size+1) M (Xe W1 MI M L Inv (W.heap.size+1) rec (bT W.heap.size)) (Xf W1 MI M L bS (W.heap.size+1) rec (bT W.heap.size)) vS
  (λpre V A B hA ho ht od hs dL=>by
   obtain⟨G',Hc,hi,fj,bV⟩:=hA;exact⟨G',Hc,hi,fj,stab fj A B bV ho ht od hs dL⟩)
  (λV A B hA ho ht od hs dL=>by
   obtain⟨c,G',Hc,hi,fj,bV⟩:=hA;exact⟨c,G',Hc,hi,fj,stab fj A B bV ho ht od hs dL⟩)
  (λpre x V Wy eC hV hI=>by
   obtain⟨G',Hc,hi,fj,bV⟩:=hI;have hy:=run_yield (P:=P) (args:=(enc x).toArray) bV.loopAt (by simp[o8,eV]);refine⟨_,_,_,_,hy,roundIn_of_wpIn (F:=FW none) trivial ?_⟩;have yq:W1.heap.size<=Wy.heap.size:=by
    have h1:=bV.lt (W.heap.size+1,.loop rec) zX;simp only at h1;omega
   have bM:lD G H L W.heap.size W1 MI M V Wy G' Hc:=⟨fj,λk hk=>hk,λk hk=>.inr (.inr hk),λk hk=>(hV k hk).1,by omega,λw hw=>(hS.links w hw).size⟩;have u4:St (G'.ext λk=>M k\/V k) (Wy::L) (book Hc (W.heap.size+1) rec (bT W.heap.size)) Wy:=by
    exact zUi
   have hr:=round pre x G' Hc (W.heap.size+1) W.heap.size rec W1 M V Wy (by rw[eV]) (by rw[eV]) eC hi hS.sizes rfl (aT.1 bV.loopAt).1 bV.sizes bM bV;have MB:rec.params=ps:=by rw[eV]
   have MC:rec.assign=assign:=by rw[eV]
   have MD:rec.body=body:=by rw[eV]
   have ME:rec.tmps=a.tmps:=by rw[eV]
   rw[MC,MD,ME,MB,pg x];have jF:=WV (zs:=ps.toList.zip (enc x)) hF (λp hp=>by rw[hN];exact rU p.1 (List.of_mem_zip hp).1);exact hr _ Wy (by have:=jF.1;rw[hN]at this;exact this) rfl jF.2 u4)
  ⟨G,H,h0,BT,lC⟩
 refine rB.mono ?_;rintro e W2 ⟨⟨v,rfl⟩,IA,V,⟨xs,cB,hI⟩|hX⟩
 ·obtain⟨G',Hc,hi,fj,bV⟩:=hI;refine⟨rec.pending,_,run_endLoop bV.loopAt (by rw[eV];simp),?_⟩;rw[show rec.pending=none by rw[eV]];exact done xs _ _ _ G' Hc _ _ cB (λp hp=>by simp only[book,cQ,cI,fu,or_false]at hp;rcases hp with hp|rfl|rfl;(exact fj.h p hp);(exact .inl (.inr (.inr (.inr rfl))));exact .inl (.inr (.inr (.inl rfl)))) hS.sizes rfl hi _ _ (by simpa using hN) (by simp[hD]) (λt v hv=>hF t v hv) (bV.snap.loop _)
 exact zij
theorem CJ.range3{P:Program}{Q:aC}{g:Operand}{ps:Array Tmp}{cap:List Value}{enc:α->List Value}{Pre Fin:List α->aB->World->Prop}(hg:ev E g=some (.func (.func f) #[] cap.toArray))(az:dP P f)(oh:∀W W2,St G L H W->Below W.heap.size W W2->uF P f cap enc Pre Fin MI RO W2)(vK:∀W,St G L H W->(∀k,MI k->k<W.heap.size/\ad L k/\k∉H.map (·.1)/\¬G.V k/\¬G.X k))(lF:∀W,St G L H W->(∀k,RO k->k<W.heap.size/\k∉H.map (·.1)/\¬G.X k))(o8:∀x,(enc x).length=ps.size)(Inv:List α->Gh->ab->Prop)(bS:Code->Gh->ab->Prop)(h0:Inv [] G H)(rU:∀p∈ps.toList,p<N)(round:∀(pre:List α) (x:α) (G':Gh) (Hc:ab) (l Dk:Nat) (rec:Loop) (W1:World) (M V:aB) (Wy:World),rec.state= .ready->rec.pending=none->Pre (pre++[x]) (λk=>M k\/V k) Wy->Inv pre G' Hc->ad L Dk->l=Dk+1->l<Wy.heap.size->ad L Wy.heap.size->lD G H L Dk W1 MI M V Wy G' Hc->St G' L (book Hc l rec (bT Dk)) Wy->CJ ⟨P,some l,N⟩ assign (L9 ⟨P,some l,N⟩ l body (MA P W1 MI M L V Wy Inv bS l rec (bT Dk) (pre++[x]))) ((ps.toList.zip (enc x)).reverse++E) [] (G'.ext λk=>M k\/V k) (Wy::L) (book Hc l rec (bT Dk)))(done:∀xs l Dk rec G' Hc (Z:aB) (Wd:World),Fin xs Z Wd->(∀p∈book Hc l rec (bT Dk),Z p.1)->ad L Dk->l=Dk+1->Inv xs G' Hc->PJ ⟨P,none,N⟩ Q .normal E (ec Dk::D) G' (Wd::L) (book Hc l rec (bT Dk)))(stop:∀l Dk rec c G' Hc,ad L Dk->l=Dk+1->bS c G' Hc->CJ ⟨P,none,N⟩ c Q E (ec Dk::D) G' L (book Hc l rec (bT Dk))):CJ ⟨P,none,N⟩ (.rangeFunc g ps assign body) Q E D G L H:=
 λa W hN hD hF hS=>Px.range3 (B:=λ_=>True) hg az (λW W2 h _ hb=>oh W W2 h hb) (λW h _=>vK W h) lF o8 Inv bS h0 rU round done stop a W hN hD hF hS True.intro
end
section
variable {C:Cx} {G:Gh} {L:List World} {H:ab} {E:Env} {x:Operand}
end
/-! ### panics that are recovered -/
section
variable {C:Cx} {Q:aC} {E:Env} {D:List Deferred} {G:Gh} {L:List World} {H:ab} {ops:Array Oper} {l:List Oper} {fn:Func} {R:Ending->World->Prop}
variable {ty f:Nat} {dst:Option Nat} {pos:String} {aA:Array Edge} {g:Option (Nat×Bool)} {x:Operand} {xs:List Operand} {vs:List Value} {dJ:Array Nat}
end
end Px
