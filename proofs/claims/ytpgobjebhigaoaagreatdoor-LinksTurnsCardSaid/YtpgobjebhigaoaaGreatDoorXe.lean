/- Memory, operations, iterators, slices, maps. No condition beyond those stated. -/
import Derived.Test.YtpgobjebhigaoaaGreatDoorXd
set_option linter.unusedSimpArgs false
set_option linter.unusedVariables false
set_option linter.unusedSectionVars false
set_option maxRecDepth 20000
set_option maxHeartbeats 8000000
namespace Px
open Go Go.RowKit
def wo (P:Program) (f:Nat) (cap:List Value) {α:Type} (enc:α->List Value) (Pre Fin:List α->aA->World->Prop) (MI RO:aA) (W:World):Prop:=
 ∀(l:Nat) (M:aA) (I:List α->aA->World->Prop) (X:aA->World->Prop),
  (∀k,M k->k<W.heap.size/\¬MI k/\¬RO k)->
  (∀pre V,eC (λk=>(k<W.heap.size/\¬MI k)\/V k) (I pre V))->(∀V,eC (λk=>(k<W.heap.size/\¬MI k)\/V k) (X V))->
  (∀pre x V W1,Pre (pre++[x]) (λk=>M k\/V k) W1->(∀k,V k->W.heap.size<=k/\k<W1.heap.size)->I pre V W1->Kc P l (enc x).toArray W1 (λb W2=>aG (λk=>M k\/V k) W1 W2/\(if b then I (pre++[x]) (oO V W1 W2) W2 else X (oO V W1 W2) W2)))->
  I [] (λ_=>False) W->
  Calls P f (yv l::cap).toArray W (λe W'=>(∃v,e= .returned v)/\aG (λk=>M k\/MI k) W W'/\∃V,(∃xs,Fin xs (λk=>M k\/V k) W'/\I xs V W')\/X V W')
section
variable {C:Cx} {Q:aF} {E:Env} {D:List Deferred} {L:List World} {H:ad} {ops:Array Oper} {l:List Oper}
variable {d ty:Nat} {pos:String} {aB:Array Edge} {g:Option (Nat×Bool)} {x:Operand} {xs:List Operand} {vs:List Value} {dX:Array Nat}
variable {W0:World} {MI RO M:aA} {hM:∀k,M k->k<W0.heap.size/\¬MI k/\¬RO k}
variable {assign body:Code} {R:Ending->World->Prop} {e:Exit} {I1 X1:aA->World->Prop} {G:Gh} {rs:List ResultVar} {N b f i:Nat} {o:Obj} {v:Value} {I:World->Prop}
theorem JU{y:Nat}(Z:aA)(T:Gh->Gh)(hT:∀G,(T G).M=G.M/\(T G).V=G.V/\(T G).R=G.R/\(T G).X=λk=>G.X k\/Z k){V:aA}{hI:eC (λk=>(k<W0.heap.size/\¬MI k)\/V k) I}(kP:∀V,eC (λk=>(k<W0.heap.size/\¬MI k)\/V k) (I1 V))(fl:∀V,eC (λk=>(k<W0.heap.size/\¬MI k)\/V k) (X1 V))(hV:∀k,V k->W0.heap.size<=k)(hw:np ops E g=some true)(hN:Nat.blt d C.N=true)(hx:ev E x=some (yv y))(ha:il E xs=some vs)(hy:∀W1,St (T (cj hM V hI)) L H W1->(∀k,V k->W0.heap.size<=k/\k<W1.heap.size)->I W1->Kc C.P y vs.toArray W1 (λb W2=>aG (λk=>M k\/V k) W1 W2/\(if b then I1 (oO V W1 W2) W2 else X1 (oO V W1 W2) W2)))(k1:∀V2,(∀k,V k->V2 k)->(∀w∈L,∀k,V2 k->V k\/w.heap.size<=k)->OJ C ops Q l ((d,.bool true)::E) D (T (cj hM V2 (kP V2))) L H)(k2:∀V2,(∀k,V k->V2 k)->(∀w∈L,∀k,V2 k->V k\/w.heap.size<=k)->OJ C ops Q l ((d,.bool false)::E) D (T (cj hM V2 (fl V2))) L H):OJ C ops Q (⟨some d,.call ⟨.value x,xs.toArray,dX⟩,ty,pos,aB,g⟩::l) E D (T (cj hM V hI)) L H:=by
 refine OA (λG'=>∃V2,(∀k,V k->V2 k)/\(∀w∈L,∀k,V2 k->V k\/w.heap.size<=k)/\G'=T (cj hM V2 (kP V2))) (λG'=>∃V2,(∀k,V k->V2 k)/\(∀w∈L,∀k,V2 k->V k\/w.heap.size<=k)/\G'=T (cj hM V2 (fl V2))) hw hN hx ha (λW1 hS=>?_) (by rintro _ ⟨V2,h2,h3,rfl⟩;exact k1 V2 h2 h3) (by rintro _ ⟨V2,h2,h3,rfl⟩;exact k2 V2 h2 h3);have ck:∀k,V k->k<W1.heap.size:=λk hk=>hS.xlt k (by rw[(hT _).2.2.2];exact .inl (.inr hk));have hgh:I W1:=by have:=hS.ghost;rw[(hT _).2.2.1]at this;exact this
 obtain⟨fn,tmps,assign,body,gv,gw⟩:=hy W1 hS (λk hk=>⟨hV k hk,ck k hk⟩) hgh;exact zaj
theorem UC{fn:Func}{V:aA}{hI:eC (λk=>(k<W0.heap.size/\¬MI k)\/V k) I}{α:Type}{Fin:List α->aA->World->Prop}{I':List α->aA->World->Prop}{X:aA->World->Prop}(he:e= .ret\/e= .normal)(hr:fn.results=#[])(hw:W0∈L)(hV:∀k,V k->W0.heap.size<=k)(hH:∀k,k<W0.heap.size->k∈H.map (·.1)->MI k)(h:∀A,St (cj hM V hI) L H A->I A->(∃xs,Fin xs (λk=>M k\/V k) A/\I' xs V A)\/X V A):PJ C (bodyPost C.P fn (λe W'=>(∃v,e= .returned v)/\aG (λk=>M k\/MI k) W0 W'/\∃V,(∃xs,Fin xs (λk=>M k\/V k) W'/\I' xs V W')\/X V W')) e E [] (cj hM V hI) L H:=by
 intro a W' _ hD _ hS;have key:bodyPost C.P fn (λe W'=>(∃v,e= .returned v)/\aG (λk=>M k\/MI k) W0 W'/\∃V,(∃xs,Fin xs (λk=>M k\/V k) W'/\I' xs V W')\/X V W') .normal a W':=by
  refine⟨hD,.tuple #[],results_none hr _ _ _,⟨_,rfl⟩,(hS.links W0 hw).mono λk hk hx=>?_,V,h W' hS hS.ghost⟩;exact z1k
 exact Qh
end
section
variable {α:Type}
variable {assign body:Code} {E:Env} {G:Gh} {H:ad} {D:List Deferred} {L:List World} {N f:Nat} {MI RO:Nat->Prop}
theorem range3{B:World->Prop}{P:Program}{Q:aF}{g:Operand}{ps:Array Tmp}{cap:List Value}{enc:α->List Value}{Pre Fin:List α->aA->World->Prop}(hg:ev E g=some (.func (.func f) #[] cap.toArray))(ax:dU P f)(pd:∀W W2,St G L H W->B W->Below W.heap.size W W2->wo P f cap enc Pre Fin MI RO W2)(xJ:∀W,St G L H W->B W->(∀k,MI k->k<W.heap.size/\ab L k/\k∉H.map (·.1)/\¬G.V k/\¬G.X k))(mE:∀W,St G L H W->(∀k,RO k->k<W.heap.size/\k∉H.map (·.1)/\¬G.X k))(pZ:∀x,(enc x).length=ps.size)(Inv:List α->Gh->ad->Prop)(bX:Code->Gh->ad->Prop)(h0:Inv [] G H)(tP:∀p∈ps.toList,p<N)(round:∀(pre:List α) (x:α) (G':Gh) (Hc:ad) (l Dk:Nat) (rec:Loop) (W1:World) (M V:aA) (Wy:World),rec.state= .ready->rec.pending=none->Pre (pre++[x]) (λk=>M k\/V k) Wy->Inv pre G' Hc->ab L Dk->l=Dk+1->l<Wy.heap.size->ab L Wy.heap.size->my G H L Dk W1 MI M V Wy G' Hc->St G' L (book Hc l rec (bQ Dk)) Wy->CJ ⟨P,some l,N⟩ assign (Oa ⟨P,some l,N⟩ l body (OB P W1 MI M L V Wy Inv bX l rec (bQ Dk) (pre++[x]))) ((ps.toList.zip (enc x)).reverse++E) [] (G'.ext λk=>M k\/V k) (Wy::L) (book Hc l rec (bQ Dk)))(done:∀xs l Dk rec G' Hc (Z:aA) (Wd:World),Fin xs Z Wd->(∀p∈book Hc l rec (bQ Dk),Z p.1)->ab L Dk->l=Dk+1->Inv xs G' Hc->PJ ⟨P,none,N⟩ Q .normal E (eh Dk::D) G' (Wd::L) (book Hc l rec (bQ Dk)))(stop:∀l Dk rec c G' Hc,ab L Dk->l=Dk+1->bX c G' Hc->CJ ⟨P,none,N⟩ c Q E (eh Dk::D) G' L (book Hc l rec (bQ Dk))):∀a W,a.tmps.size=N->a.defers=D->Fits E a->St G L H W->B W->(Code.rangeFunc g ps assign body).wpIn (FW none) 0 P Q a W:=by
 intro a W hN hD hF hS N6;refine wpIn_rangeFunc ?_;intro fn _;have jF:(W.alloc (.deferred (some []))).heap.size=W.heap.size+1:=by simp
 obtain⟨rec,ft⟩:∃rec:Loop,rec={state:=.ready,pending:=none,fn,tmps:=a.tmps,params:=ps,assign,body,defers:=W.heap.size}:=⟨_,rfl⟩;obtain⟨W1,EA⟩:∃W1,W1=(W.alloc (.deferred (some []))).alloc (.loop rec):=⟨_,rfl⟩;have mw:St G L (book H (W.heap.size+1) rec (bQ W.heap.size)) W1:=by
  exact zrk
 have N8:Below W.heap.size W W1:=by
  rw[EA];exact((Below.refl _ _).alloc (ao _) _).alloc z1 _
 have ago:W1.heap.size=W.heap.size+2:=by rw[EA];simp
 have he:(Instr.enterLoop fn a.tmps ps assign body (none:Option Nat)).run P W= .ok (W.heap.size+1,[eh W.heap.size]) W1:=by
  rw[EA,ft];exact run_enterLoop_outer _ _ _ _ _
 refine⟨W.heap.size+1,[eh W.heap.size],W1,{target:=.fn (.func f) cap.toArray,args:=#[yv (W.heap.size+1)]},W1,f,(yv (W.heap.size+1)::cap).toArray,W1,he,?_,λ_ _=>trivial,?_,by simp,?_⟩
 ·simp[resolve,hF.ev hg,Deferred.ofValue];rfl
 ·simp[invoke,ax _ W1]
 refine C4.2 ?_;have lB:∀k,MI k->k<W.heap.size/\ab L k/\k∉H.map (·.1)/\¬G.V k/\¬G.X k:=xJ W hS N6
 let M:aA:=λk=>G.X k\/k∈H.map (·.1)\/k=W.heap.size\/k=W.heap.size+1
 have xR:∀k,M k->k<W1.heap.size/\¬MI k/\¬RO k:=by
  exact zxj
 have stab:∀{V:aA} {G':Gh} {Hc:ad} {o:Loop},Loc W1 MI M V G' Hc->eC (λk=>(k<W1.heap.size/\¬MI k)\/V k) (St G' L (book Hc (W.heap.size+1) o (bQ W.heap.size))):=by
  intro V G' Hc o fN A B hA ho ht o7 hs ee;exact zjj
 have Dy:Loc W1 MI M (λ_=>False) G H:=⟨λk hv=>.inl ⟨mw.vlt k hv,λhm=>(lB k hm).2.2.2.1 hv⟩,λk hx=>.inl (.inl hx),λp hp=>.inl (.inr (.inl (bU.2 ⟨p,hp,rfl⟩)))⟩;have qa:∀x,(ps.zip (enc x).toArray).foldl (λtmps (p:Tmp×Value)=>match p with|(t,a)=>tmps.setIfInBounds t a) a.tmps=(ps.toList.zip (enc x)).foldl (λt (p:Nat×Value)=>t.setIfInBounds p.1 p.2) a.tmps:=by
  exact zal
 have th:=pd W W1 hS N6 N8 (W.heap.size+1) M (Y3 W1 MI M L Inv (W.heap.size+1) rec (bQ W.heap.size)) (Y4 W1 MI M L bX (W.heap.size+1) rec (bQ W.heap.size)) xR
  (λpre V A B hA ho ht o7 hs ee=>by
   obtain⟨G',Hc,hi,fN,bS⟩:=hA;exact⟨G',Hc,hi,fN,stab fN A B bS ho ht o7 hs ee⟩)
  (λV A B hA ho ht o7 hs ee=>by
   obtain⟨c,G',Hc,hi,fN,bS⟩:=hA;exact⟨c,G',Hc,hi,fN,stab fN A B bS ho ht o7 hs ee⟩)
  (λpre x V Wy dF hV hI=>by
   obtain⟨G',Hc,hi,fN,bS⟩:=hI;have hy:=run_yield (P:=P) (args:=(enc x).toArray) bS.loopAt (by simp[pZ,ft]);refine⟨_,_,_,_,hy,roundIn_of_wpIn (F:=FW none) trivial ?_⟩;have sk:W1.heap.size<=Wy.heap.size:=by
    have h1:=bS.lt (W.heap.size+1,.loop rec) z1;simp only at h1;omega
   have aW:my G H L W.heap.size W1 MI M V Wy G' Hc:=⟨fN,λk hk=>hk,λk hk=>.inr (.inr hk),λk hk=>(hV k hk).1,by omega,λw hw=>(hS.links w hw).size⟩;have tA:St (G'.ext λk=>M k\/V k) (Wy::L) (book Hc (W.heap.size+1) rec (bQ W.heap.size)) Wy:=by
    exact zFj
   have hr:=round pre x G' Hc (W.heap.size+1) W.heap.size rec W1 M V Wy (by rw[ft]) (by rw[ft]) dF hi hS.sizes rfl (aL.1 bS.loopAt).1 bS.sizes aW bS;have OC:rec.params=ps:=by rw[ft]
   have OD:rec.assign=assign:=by rw[ft]
   have OE:rec.body=body:=by rw[ft]
   have OF:rec.tmps=a.tmps:=by rw[ft]
   rw[OD,OE,OF,OC,qa x];have kz:=YQ (zs:=ps.toList.zip (enc x)) hF (λp hp=>by rw[hN];exact tP p.1 (List.of_mem_zip hp).1);exact hr _ Wy (by have:=kz.1;rw[hN]at this;exact this) rfl kz.2 tA)
  ⟨G,H,h0,Dy,mw⟩
 refine th.mono ?_;rintro e W2 ⟨⟨v,rfl⟩,Kd,V,⟨xs,bV,hI⟩|hX⟩
 ·obtain⟨G',Hc,hi,fN,bS⟩:=hI;refine⟨rec.pending,_,run_endLoop bS.loopAt (by rw[ft];simp),?_⟩;rw[show rec.pending=none by rw[ft]];exact done xs _ _ _ G' Hc _ _ bV (λp hp=>by simp only[book,cS,cP,fm,or_false]at hp;rcases hp with hp|rfl|rfl;(exact fN.h p hp);(exact .inl (.inr (.inr (.inr rfl))));exact .inl (.inr (.inr (.inl rfl)))) hS.sizes rfl hi _ _ (by simpa using hN) (by simp[hD]) (λt v hv=>hF t v hv) (bS.snap.loop _)
 exact z6j
theorem CJ.range3{P:Program}{Q:aF}{g:Operand}{ps:Array Tmp}{cap:List Value}{enc:α->List Value}{Pre Fin:List α->aA->World->Prop}(hg:ev E g=some (.func (.func f) #[] cap.toArray))(ax:dU P f)(pd:∀W W2,St G L H W->Below W.heap.size W W2->wo P f cap enc Pre Fin MI RO W2)(xJ:∀W,St G L H W->(∀k,MI k->k<W.heap.size/\ab L k/\k∉H.map (·.1)/\¬G.V k/\¬G.X k))(mE:∀W,St G L H W->(∀k,RO k->k<W.heap.size/\k∉H.map (·.1)/\¬G.X k))(pZ:∀x,(enc x).length=ps.size)(Inv:List α->Gh->ad->Prop)(bX:Code->Gh->ad->Prop)(h0:Inv [] G H)(tP:∀p∈ps.toList,p<N)(round:∀(pre:List α) (x:α) (G':Gh) (Hc:ad) (l Dk:Nat) (rec:Loop) (W1:World) (M V:aA) (Wy:World),rec.state= .ready->rec.pending=none->Pre (pre++[x]) (λk=>M k\/V k) Wy->Inv pre G' Hc->ab L Dk->l=Dk+1->l<Wy.heap.size->ab L Wy.heap.size->my G H L Dk W1 MI M V Wy G' Hc->St G' L (book Hc l rec (bQ Dk)) Wy->CJ ⟨P,some l,N⟩ assign (Oa ⟨P,some l,N⟩ l body (OB P W1 MI M L V Wy Inv bX l rec (bQ Dk) (pre++[x]))) ((ps.toList.zip (enc x)).reverse++E) [] (G'.ext λk=>M k\/V k) (Wy::L) (book Hc l rec (bQ Dk)))(done:∀xs l Dk rec G' Hc (Z:aA) (Wd:World),Fin xs Z Wd->(∀p∈book Hc l rec (bQ Dk),Z p.1)->ab L Dk->l=Dk+1->Inv xs G' Hc->PJ ⟨P,none,N⟩ Q .normal E (eh Dk::D) G' (Wd::L) (book Hc l rec (bQ Dk)))(stop:∀l Dk rec c G' Hc,ab L Dk->l=Dk+1->bX c G' Hc->CJ ⟨P,none,N⟩ c Q E (eh Dk::D) G' L (book Hc l rec (bQ Dk))):CJ ⟨P,none,N⟩ (.rangeFunc g ps assign body) Q E D G L H:=
 λa W hN hD hF hS=>Px.range3 (B:=λ_=>True) hg ax (λW W2 h _ hb=>pd W W2 h hb) (λW h _=>xJ W h) mE pZ Inv bX h0 tP round done stop a W hN hD hF hS True.intro
end
section
variable {C:Cx} {G:Gh} {L:List World} {H:ad} {E:Env} {x:Operand}
variable {v:Value}
theorem NK{t:Nat}(hc:C.P.concrete t=true)(hx:ev E x=some v):RV C G L H E (.makeInterface t x) (.iface t v):=λd ty pos aB g a W hF _=>by
 simp[execOp,hF.ev hx,run_makeInterface W t v hc]
theorem NM{t xT:Nat}(hc:C.P.concrete t=true)(hx:ev E x=some (.iface t v)):RV C G L H E (.typeAssert x xT t true) (.tuple #[v,.bool true]):=λd ty pos aB g a W hF _=>by
 unfold Program.concrete at hc;cases hd:C.P.underlying t with
 |none=>simp[hd]at hc
 |some u=>cases u<;>first|(simp[hd]at hc;done)|simp[execOp,hF.ev hx,Instr.typeAssert,run_underlying hd]
end
/-! ### panics that are recovered -/
section
variable {C:Cx} {Q:aF} {E:Env} {D:List Deferred} {G:Gh} {L:List World} {H:ad} {ops:Array Oper} {l:List Oper} {fn:Func} {R:Ending->World->Prop}
variable {ty f:Nat} {dst:Option Nat} {pos:String} {aB:Array Edge} {g:Option (Nat×Bool)} {x:Operand} {xs:List Operand} {vs:List Value} {dX:Array Nat}
variable {v:Value}
theorem NL{t:Nat}(hw:np ops E g=some true)(hx:ev E x=some (.iface t v))(k:PJ C Q (.panic [{v:=.iface t v,recovered:=false}]) E D G L H):OJ C ops Q (⟨dst,.panic x,ty,pos,aB,g⟩::l) E D G L H:=by
 intro a W hN hD hF hS;unfold wpListIn;rw[if_pos (tO hF hw)];refine⟨λ_ _=>trivial,?_⟩;have hr:(execOp a.eval ⟨dst,.panic x,ty,pos,aB,g⟩).run C.P W= .halt (.panic (.iface t v)) W:=by
  simp only[execOp,hF.ev hx];rfl
 rw[Oper.semAt_eq _ _ _ z1,hr,Oper.uponIn_panic];exact k a W hN hD hF hS
theorem nYi{K:Act->World->Prop}{ch:List PanicEntry}(h:PJ C Q (.panic ch) E D G L H):PJ C (Exit.then K Q) (.panic ch) E D G L H:=h
def NJ (w:World) (ch:List PanicEntry):Ending->World->Prop:=λe w'=>e= .panicked ch/\Below w.heap.size w w'
theorem ae0{ch:List PanicEntry}{w:World}(hw:w∈L)(hH:Over w.heap.size H)(hX:∀k,¬G.X k):PJ C (bodyPost C.P fn (NJ w ch)) (.panic ch) E [] G L H:=λa W _ hD _ hS=>
 ⟨hD,rfl,(hS.links w hw).below λk hk hx=>hx.elim (hX k) λh=>by obtain⟨p,hp,rfl⟩:=bU.1 h;have:=hH.mem p hp;omega⟩
theorem UL{ch:List PanicEntry}(ax:dU C.P f)(hw:np ops E g=some true)(ha:il E xs=some vs)(hc:∀W,St G L H W->Calls C.P f vs.toArray W (NJ W ch))(k:PJ C Q (.panic ch) E D G L H):OJ C ops Q (⟨dst,.call ⟨.value (.func f),xs.toArray,dX⟩,ty,pos,aB,g⟩::l) E D G L H:=
 nY rfl hw rfl ha z1 ax λa W hN hD hF hS=>(hc W hS).mono (by
  rintro e W' ⟨rfl,hb⟩;exact k a W' hN hD hF (hS.step hb))
end
theorem nFk(v:Value)(c₀:Frame)(cs:List Frame)(h:c₀.mode= .panicking [{v,recovered:=false}]):xQ (c₀::cs)=(v,{c₀ with mode:=.panicking [{v,recovered:=true}]}::cs):=by
 simp only[xQ,recoverD,h]
variable {R:Ending->World->Prop} {E:Env} {G:Gh} {H:ad} {rs:List ResultVar} {vs:List Value} {L:List World} {N b f i:Nat} {o:Obj}
theorem UM{P:Program}{fn:Func}{cap:List Value}{pv:Value}{o':Obj}(hi:H[i]? =some (b,o))(ax:dU P f)(hc:∀W,St G L H W->W.heap[b]? =some o->CallsDIn (FW none) 0 P f cap.toArray (.panicking [{v:=pv,recovered:=false}]) W (λe u' w'=>u'= .panicking [{v:=pv,recovered:=true}]/\(∃v,e= .returned v)/\aG (· =b) W w'/\w'.heap[b]? =some o'))(hr:fn.results=rs.toArray)(h:RS ⟨P,none,N⟩ G L (H.set i (b,o')) E rs vs)(hR:∀W,St G L (H.set i (b,o')) W->R (.returned (Et vs)) W):PJ ⟨P,none,N⟩ (bodyPostDIn (FW none) 0 P fn R) (.panic [{v:=pv,recovered:=false}]) E [{target:=.fn (.func f) cap.toArray,args:=#[]}] G L H:=by
 intro a W ik hD hF hS;show LeavesIn (FW none) 0 P fn a.tmps R a.defers (.panicking _) W;rw[hD];refine zVh ?_;refine(hc W hS (hS.own _ (cB hi))).mono ?_;rintro e u' w' ⟨rfl,⟨v,rfl⟩,hk,hb⟩;have tA:=hS.put hi hk hb;exact⟨_,h.res hr hF tA,hR w' tA⟩
end Px
