/- Memory, operations, iterators, slices, maps. No condition beyond those stated. -/
import Derived.Test.YtodpaegknpbomaaGreatDoorXa
import Derived.OrdersIn
import Derived.Deep.AppendSrc
import Derived.Laws.MakeOwn
import Derived.Laws.IdiomStrings
set_option linter.unusedSimpArgs false
set_option linter.unusedVariables false
set_option linter.unusedSectionVars false
set_option linter.unnecessarySimpa false
set_option maxRecDepth 20000
set_option maxHeartbeats 8000000
namespace Px
open Go Go.RowKit
def X (C:Cx) (ops:Array Oper) (G:Gh) (L:List World) (H:ad) (E:Env) (Pre:World->Prop) (o:Oper) (Φ:Value->World->Prop):Prop:=
 ∀(a:Act) (W:World) (K:Act->World->Prop) (Q:aZ),a.tmps.size=C.N->Fits E a->St G L H W->Pre W->
  (∀v W',Below W.heap.size W W'->Φ v W'->K (a.put o.dst v) W')->
  if Region.wanted o (yielded ops a.tmps)then o.wpIn (FW C.r) 0 C.P a W K Q else K (a.put o.dst undef) W
section
variable {C:Cx} {G:Gh} {L:List World} {H:ad} {E:Env} {Pre:World->Prop} {ops:Array Oper} {Φ:Value->World->Prop}
variable {d ty:Nat} {op:Op} {pos:String} {aC:Array Edge} {g:Option (Nat×Bool)}
theorem X.val{v:Value}(hnd:MM op=true)(hw:nl ops E g=some true)(hr:RV C G L H E op v)(hΦ:∀W,Pre W->Φ v W):X C ops G L H E Pre ⟨some d,op,ty,pos,aC,g⟩ Φ:=by
 intro a W K Q _ hF hS hP hk;rw[if_pos (Bg hF hw)];refine⟨λ_ _=>trivial,?_⟩;rw[Oper.semAt_eq _ _ _ (HM hnd),hr d ty pos aC g a W hF hS,Oper.uponIn_value];exact hk v W (Below.refl _ _) (hΦ W hP)
theorem X.v{v:Value}(hr:RV C G L H E op v)(hnd:MM op=true:=by rfl)(hw:nl ops E g=some true:=by rfl):X C ops G L H E Pre ⟨some d,op,ty,pos,aC,g⟩ (λu _=>u=v):=X.val hnd hw hr λ_ _=>rfl
theorem X.off(hw:nl ops E g=some false)(hΦ:∀W,Pre W->Φ undef W):X C ops G L H E Pre ⟨some d,op,ty,pos,aC,g⟩ Φ:=by
 intro a W K Q _ hF hS hP hk;all_goals grind [Bg,Below.refl]
variable {f:Nat} {xs:List Operand} {vs:List Value} {eo:Array Nat}
variable {a:Act} {K:Act->World->Prop} {I:Array Bool->Act->World->Prop} {cs:Array Value} {H':ad} {ps:List (Nat×Operand)} {rs:List ResultVar} {news:List Value} {L':List World} {b e i m size:Nat} {fr:Nat×Nat} {o:Obj} {hi:Option Operand} {z:Value} {W:World} {R:World->Ending->World->Prop}
theorem X.call(az:eg C.P f)(hw:nl ops E g=some true)(ha:iV E xs=some vs)(hc:∀W,St G L H W->Pre W->Calls C.P f vs.toArray W (R W))(hR:∀W e W',R W e W'->Pre W->∃v,e= .returned v/\Below W.heap.size W W'/\Φ v W'):X C ops G L H E Pre ⟨some d,.call ⟨.value (.func f),xs.toArray,eo⟩,ty,pos,aC,g⟩ Φ:=by
 intro a W K Q _ hF hS hP hk;rw[if_pos (Bg hF hw)];refine⟨λ_ _=>trivial,?_⟩;have hr:(execOp a.eval ⟨some d,.call ⟨.value (.func f),xs.toArray,eo⟩,ty,pos,aC,g⟩).run C.P W= .ok (.enter f vs.toArray) W:=by
  have h2:(xs.toArray).map a.eval=vs.toArray:=by rw[C8,MN hF xs vs ha]
  simp only[execOp,resolve,Act.eval,Deferred.ofValue,h2];simp[invoke,az _ W]
 rw[Oper.semAt_eq _ _ _ zJ,hr,Oper.uponIn_enter];refine⟨by simp,I7.2 ((hc W hS hP).mono ?_)⟩;intro e W' h;obtain⟨v,rfl,hb,hv⟩:=hR W e W' h hP;exact hk v W' hb hv
theorem nf{v:Value}(az:eg C.P f)(hw:nl ops E g=some true)(ha:iV E xs=some vs)(hc:∀W,St G L H W->Pre W->Calls C.P f vs.toArray W (aM W v))(hΦ:∀W,Φ v W):X C ops G L H E Pre ⟨some d,.call ⟨.value (.func f),xs.toArray,eo⟩,ty,pos,aC,g⟩ Φ:=
 X.call az hw ha hc λ_ _ W' h _=>⟨v,h.1,h.2,hΦ W'⟩
end
theorem nml{p q:Nat->Bool}:∀(l:List Nat),(∀k∈l,q k=true->p k=true)->l.countP q<=l.countP p:=
 by intro x;induction x<;>(intros;grind)
theorem nqg{p q:Nat->Bool}:∀(l:List Nat),(∀k∈l,q k=true->p k=true)->(∃k∈l,p k=true/\q k=false)->l.countP q<l.countP p
 | [],_,h=>by obtain⟨k,hk,_⟩:=h;cases hk
 |k::l,h,hx=>by
  have amZ:=nml (p:=p) (q:=q) l λj hj=>h j (by simp[hj]);simp only[List.countP_cons];obtain⟨j,hj,hp,hq⟩:=hx;rcases bX.1 hj with rfl|hj
  ·simp[hp,hq];omega
  have ih:=nqg l (λj hj=>h j (by simp[hj])) ⟨j,hj,hp,hq⟩;cases hqk:q k with
  |false=>simp;omega
  |true=>simp[h k zJ hqk];omega
def Bi (N:Nat):List Oper->Bool
 | []=>true
 |o::l=>(match o.dst with|some d=>Nat.blt d N|none=>true)&&Bi N l
theorem nlp{N:Nat}:∀{l:List Oper},Bi N l=true->∀o∈l,∀d,o.dst=some d->d<N:=
 by intro x;induction x<;>(intros;grind [Bi,nT])
def Tg:List Nat->Nat->Nat
 | [],_=>0
 |c::ch,j=>match Nat.beq c j with|true=>0|false=>Tg ch j+1
theorem nCe:∀(ch:List Nat) (k c:Nat),ch[k]? =some c->ch.Nodup->Tg ch c=k:=
 by intro x;induction x<;>(intros;grind [Tg,MK,TI])
def naj:List Nat->Bool
 | []=>true
 |c::ch=>ch.all (λj=> !Nat.beq c j)&&naj ch
theorem HS:∀{ch:List Nat},naj ch=true->ch.Nodup:=
 by intro x;induction x<;>(intros;grind [naj,MK])
variable {a:Act} {K:Act->World->Prop}
theorem n8i{F:Fence}{n:Nat}{P:Program}{Q Q':aZ}{o:Oper}{w:World}{K':Act->World->Prop}(h:∀a w,K a w->K' a w)(hq:∀c a w,Q (.panic c) a w->Q' (.panic c) a w)(hl:LetsOut Q->LetsOut Q')(hh:o.wpIn F n P a w K Q):o.wpIn F n P a w K' Q':=by
 unfold Oper.wpIn at *;refine⟨hh.1,?_⟩;have hh:=hh.2;generalize (o.semAt F.round a.eval).run P w=r at *;cases r with
 |ok x w'=>
  cases x<;>simp only[Oper.uponIn]at hh ⊢ <;>
   first
    |exact h _ _ hh
    |exact⟨hh.1,CallsIn.mono hh.2 (λe w'' he=>by cases e<;>first|exact h _ _ he|exact hq _ _ _ he|exact hl he)⟩
    |exact⟨hh.1,RowsIn.mono hh.2 (λ_ _ he=>h _ _ he)⟩
    |exact⟨hh.1,RoundIn.mono hh.2 (λe w'' he=>by cases e<;>first|exact h _ _ he|exact hq _ _ _ he|exact hl he)⟩
 |halt x w'=>cases x<;>simp only[Oper.uponIn]at hh ⊢ <;>first|exact hh|exact hq _ _ _ hh
def Qn (Q:aZ) (K:Act->World->Prop):aZ:=λe a w=>match e with| .normal=>K a w|e=>Q e a w
/-! ### regions that draw their order -/
/-- what an operation stands behind -/
def vK (o:Oper):List Nat:=(o.after.toList.filter (λe=>Region.binds .any e)).map (·.on)
def oE (n0:Nat) (o:Oper):List Nat:=(vK o).filter (Nat.ble n0)
def VI (acc:List Nat):List Nat->Nat
 | []=>0
 |j::js=>(1<<<j)|||acc.getD j 0|||VI acc js
def MR:List Oper->List Nat->List Nat
 | [],acc=>acc
 |o::l,acc=>MR l (acc++[VI acc (vK o)])
theorem nPi(acc:List Nat)(b:Nat):∀js,(VI acc js).testBit b=true->∃d∈js,d=b\/(acc.getD d 0).testBit b=true
 | [],h=>by simp[VI]at h
 |j::js,h=>by
  simp only[VI,Nat.testBit_or,Bool.or_eq_true]at h;rcases h with(h|h)|h
  ·refine⟨j,by simp,.inl ?_⟩;rw[Nat.testBit_shiftLeft]at h;simp only[oh,decide_eq_true_eq]at h;obtain⟨h1,h2⟩:=h;have:b-j=0:=by
    rcases Nat.eq_zero_or_pos (b-j)with h0|h0
    ·exact h0
    rw[Nat.testBit_one_eq_true_iff_self_eq_zero]at h2;omega
   omega
  ·exact⟨j,by simp,.inr h⟩
  obtain⟨d,hd,h⟩:=nPi acc b js h;exact⟨d,by simp[hd],h⟩
theorem nYf(ops:List Oper)(D:Nat->Prop)(hD:∀(k:Nat) (o:Oper),ops[k]? =some o->D k->∀j∈vK o,D j)(hlt:∀(i:Nat) (o:Oper),ops[i]? =some o->∀j∈vK o,j<i):∀(l:List Oper) (acc:List Nat),ops.drop acc.length=l->(∀(k:Nat) (o:Oper),ops[k]? =some o->k<acc.length->(∀j∈vK o,D j)->∀j,(acc.getD k 0).testBit j=true->D j)->∀(k:Nat) (o:Oper),ops[k]? =some o->(∀j∈vK o,D j)->∀j,((MR l acc).getD k 0).testBit j=true->D j
 | [],acc,hl,hP=>by
  intro k o ho hr j hj;have:=agq.1 hl;exact hP k o ho (by have:=(gX.1 ho).1;omega) hr j hj
 |o::l,acc,hl,hP=>by
  have ho0:ops[acc.length]? =some o:=by
   have:(ops.drop acc.length)[0]? =some o:=by rw[hl];rfl
   simpa using this
  refine nYf ops D hD hlt l (acc++[VI acc (vK o)]) (by rw[ck,<-List.drop_drop,hl];rfl) ?_;intro k o' xh hk hr j hj;simp only[ck,List.length_singleton]at hk;by_cases e:k=acc.length
  ·subst e;rw[ho0]at xh;cases xh;obtain⟨d,hd,h⟩:=nPi acc j _ (by simpa using hj);have alK:=hlt _ _ ho0 d hd;rcases h with rfl|h
   ·exact hr _ hd
   have dq:ops[d]? =some (ops[d]'(by have:=(gX.1 ho0).1;omega)):=kx _;exact hP d _ dq alK (hD d _ dq (hr _ hd)) j h
  exact hP k o' xh aa hr j (by rwa[List.getD_eq_getElem?_getD,SH aa,<-List.getD_eq_getElem?_getD]at hj)
abbrev Sp:=List (Option Value)
abbrev TW:=List (Option Value)->List World->ad->Prop
def lV (sp:Sp) (ch:List Nat) (cv:List (Option Value)) (j:Nat):Value:=
 match sp[j]? with
 |some (some u)=>u
 |_=>((cv[Tg ch j]?).join).getD undef
def cO (ops:Array Oper) (sp:Sp) (ch:List Nat) (cv:List (Option Value)):List Nat->Env
 | []=>[]
 |j::js=>match(ops[j]?).bind (·.dst)with
  |some d=>(d,lV sp ch cv j)::cO ops sp ch cv js
  |none=>cO ops sp ch cv js
section
variable {C:Cx} {Q:aZ} {E:Env} {D:List Deferred} {G:Gh} {L:List World} {H:ad} {l:List Oper} {ops:Array Oper} {sp:Sp} {ch:List Nat} {cv:List (Option Value)} {Ph:TW} {n0:Nat}
theorem nYe(d:Nat):∀js:List Nat,(look (cO ops sp ch cv js) d=none/\∀j∈js,(ops[j]?).bind (·.dst)≠some d)\/∃j∈js,(ops[j]?).bind (·.dst)=some d/\look (cO ops sp ch cv js) d=some (lV sp ch cv j)
 | []=>.inl ⟨rfl,by simp⟩
 |j::js=>by
  have ih:=nYe d js;unfold cO;cases e:(ops[j]?).bind (·.dst)with
  |none=>grind
  |some t=>
   by_cases ht:t=d
   ·subst ht;exact .inr ⟨j,by simp,e,by simp[look,MK]⟩
   simp only[look,TI ht];grind
theorem nRg(js:List Nat)(h:∀j∈js,∀d,(ops[j]?).bind (·.dst)=some d->a.eval (.tmp d)=lV sp ch cv j):Fits (cO ops sp ch cv js) a:=λt v ht=>by
 rcases nYe (ops:=ops) (sp:=sp) (ch:=ch) (cv:=cv) t js with h1|⟨j,hj,hd,h1⟩
 ·rw[h1.1]at ht;cases ht
 rw[h1]at ht;cases ht;exact h j hj t hd
def Hm (rq:List Nat) (k:Nat) (cv:List (Option Value)):Bool:=((cv[k]?).join).isNone&&rq.all λj=>((cv[j]?).join).isSome
def MS (ops:List Oper) (ch:List Nat):Nat->List (List Nat)->Bool
 |_,[]=>true
 |k,rq::ka=>(match ch[k]? with|some c=>rq.all (λj=>match ch[j]? with|some c'=>((MR ops []).getD c 0).testBit c'|none=>false)|none=>false)&&MS ops ch (k+1) ka
theorem HT(ops:List Oper)(ch:List Nat):∀(ka:List (List Nat)) (n:Nat),MS ops ch n ka=true->∀(k c:Nat) (rq:List Nat),ka[k]? =some rq->ch[n+k]? =some c->∀j∈rq,∃c',ch[j]? =some c'/\((MR ops []).getD c 0).testBit c'=true
 | [],_,_,k,c,rq,h,_=>by simp at h
 |r::ka,n,h,k,c,rq,hk,hc=>by
  simp only[MS,oh]at h;cases k with
  |zero=>
   simp at hk;subst hk;rw[Nat.add_zero]at hc;rw[hc]at h;intro j hj;have h1:=h.1;simp only[rZ]at h1;have:=h1 j hj;split at this
   ·rename_i c' Ah;exact⟨c',Ah,this⟩
   cases this
  |succ k=>exact HT ops ch ka (n+1) h.2 k c rq (by simpa using hk) (by rw[show n+1+k=n+(k+1) by omega];exact hc)
def Mg (ch ds:List Nat) (cv:List (Option Value)):Bool:=ds.all λj=> !(ch.any λc=>Nat.beq c j)||((cv[Tg ch j]?).join).isSome
def Bj (ch:List Nat):Nat->Sp->Bool
 |_,[]=>true
 |i,u::sp=>(match u with|none=>ch.any (λc=>Nat.beq c i)|some _=>ch.all (λc=> !Nat.beq c i))&&Bj ch (i+1) sp
theorem nQj(ch:List Nat):∀(sp:Sp) (i:Nat),Bj ch i sp=true->∀j u,sp[j]? =some u->(i+j∈ch↔u=none)
 | [],_,_,j,u,h=>by simp at h
 |u'::sp,i,h,j,u,hj=>by
  simp only[Bj,oh]at h;cases j with
  |zero=>
   cases u'<;>simp at hj<;>subst hj<;>simp at h ⊢
   ·exact h.1
   exact λhm=>by have:=h.1 _ hm;simp at this
  |succ j=>rw[show i+(j+1)=i+1+j by omega];exact nQj ch sp (i+1) h.2 j u (by simpa using hj)
def Bk (N:Nat) (l:List Oper) (n0 nA:Nat) (ch:List Nat) (sp:Sp) (ka:List (List Nat)) (E:Env):Bool:=
 Nat.beq sp.length nA&&(Nat.ble n0 nA&&(Nat.ble nA l.length&&(Nat.beq ka.length ch.length&&(naj ch&&(Bj ch 0 sp&&(MS l ch 0 ka&&(Bi N l&&(ch.all (λc=>Nat.ble n0 c&&Nat.blt c nA)&&
 ((List.range l.length).all (λi=>match l[i]? with|none=>true|some o=>(vK o).all λj=>Nat.blt j i)&&
 ((List.range l.length).all (λi=>Nat.blt i nA||(List.range nA).all λj=>((MR l []).getD i 0).testBit j)&&
 (List.range nA).all λi=>Nat.blt i n0||match(l.toArray[i]?).bind (·.dst)with
  |none=>true
  |some d=>(look E d).isNone&&(List.range nA).all λj=>Nat.beq i j||(Nat.blt j n0||match(l.toArray[j]?).bind (·.dst)with|none=>true|some d'=> !Nat.beq d d')))))))))))
def MT (C:Cx) (ops:Array Oper) (Q:aZ) (n:Nat) (a:Act) (W:World):Prop:=∀cR:Array Bool,cR.size=ops.size->(∀i,i<ops.size->(cR.getD i false=true↔i<n))->∀fuel:Nat,(List.range ops.size).countP (λi=> !cR.getD i false)<=fuel->wpAnyIn (FW C.r) 0 C.P .any ops Q fuel cR a W
def DJ (C:Cx) (ops:Array Oper) (Q:aZ) (n:Nat) (E:Env) (D:List Deferred) (G:Gh) (L:List World) (H:ad):Prop:=∀a W,a.tmps.size=C.N->a.defers=D->Fits E a->St G L H W->MT C ops Q n a W
theorem CJ.dj{id:Nat}(hm:C.P.follows .mixedOrders=true)(h:DJ C l.toArray Q 0 E D G L H):CJ C (.region id l.toArray true) Q E D G L H:=by
 intro a W abG hD hF hS;refine wpIn_region_draw λt=>?_;simp only[Region.schedule,hm,Bool.true_or,if_true];refine wpAnyIn_sound l.toArray.size t _ a _ (h a _ abG hD hF (hS.step (D9 W _)) (Array.replicate l.toArray.size false) zJ (λi hi=>?_) _ (dG List.countP_le_length zJ));simp only[Array.getD_eq_getD_getElem?,Array.getElem?_replicate];split<;>simp
theorem n6h(cR:Array Bool)(i:Nat)(lT:cR.size=l.length):i∈Region.ready .any l.toArray cR↔∃o,l[i]? =some o/\cR.getD i false=false/\∀j∈vK o,cR.getD j false=true:=by
 simp only[Region.ready,wD,tA,oh,Bool.not_eq_true',vK,bY];constructor
 ·rintro⟨hi,hf,hr⟩;have U0:i<l.length:=by simpa using hi
  refine⟨l[i],kx U0,by simp[show i<cR.size by omega]at hf ⊢;exact hf,?_⟩;rintro _ ⟨e,he,rfl⟩;rw[DQ,kx U0]at hr;simp only[JP,Option.getD_some,Array.all_eq_true_iff_forall_mem,Bool.or_eq_true,Bool.not_eq_true']at hr;simp only[Array.mem_toList_iff]at he;rcases hr e he.1 with h|h
  ·rw[he.2]at h;cases h
  exact h
 rintro⟨o,ho,hf,hr⟩;have U0:=(gX.1 ho).1;refine⟨by simpa using U0,by simp[show i<cR.size by omega]at hf ⊢;exact hf,?_⟩;rw[DQ,ho];simp only[JP,Option.getD_some,Array.all_eq_true_iff_forall_mem,Bool.or_eq_true,Bool.not_eq_true'];intro e he;by_cases hb:Region.binds .any e=true
 ·exact .inr (hr _ ⟨e,by simpa[hb]using he,rfl⟩)
 exact .inl (by simpa using hb)
variable {I:Array Bool->Act->World->Prop}
theorem nrl{Dn:Array Bool->Prop}(hb:∀(i:Nat) (o:Oper),l[i]? =some o->∀j∈vK o,j<i)(hs:∀cR a W,I cR a W->cR.size=l.length)(hd:∀cR a W,I cR a W->Dn cR->∀fuel,(List.range l.length).countP (λi=> !cR.getD i false)<=fuel->wpAnyIn (FW C.r) 0 C.P .any l.toArray Q fuel cR a W)(hn:∀cR a W,I cR a W->¬Dn cR->(∃k,k<l.length/\cR.getD k false=false)/\∀(i:Nat) (o:Oper),l[i]? =some o->cR.getD i false=false->(∀j∈vK o,cR.getD j false=true)->wpOpIn (FW C.r) 0 C.P l.toArray Q i (λa' W'=>I (cR.setIfInBounds i true) a' W') a W):∀(fuel:Nat) (cR:Array Bool) a W,I cR a W->(List.range l.length).countP (λi=> !cR.getD i false)<=fuel->wpAnyIn (FW C.r) 0 C.P .any l.toArray Q fuel cR a W:=by
 intro fuel;induction fuel with
 |zero=>
  intro cR a W hI hc;refine hd _ _ _ hI (Classical.byContradiction λh=>?_) _ hc;obtain⟨⟨k,hk,hf⟩,-⟩:=hn _ _ _ hI h;simpa[hf]using List.countP_eq_zero.1 (Nat.le_zero.1 hc) k (tA.2 hk)
 |succ fuel ih=>
  intro cR a W hI hc;by_cases cx:Dn cR
  ·exact hd _ _ _ hI cx _ hc
  obtain⟨⟨k,hk,SK⟩,hn⟩:=hn _ _ _ hI cx;have lT:=hs _ _ _ hI;refine⟨λhr=>?_,λi hi=>?_⟩
  ·have all:∀i,i<l.length->cR.getD i false=true:=by
    intro i;induction i using Nat.strongRecOn with
    |_ i ih2=>
     intro hi;refine Classical.byContradiction λhf=>?_;have:=(n6h cR i lT).2 ⟨_,kx hi,by simpa using hf,λj hj=>by
      have:=hb i _ (kx hi) j hj;exact ih2 j this aa⟩
     rw[hr]at this;cases this
   rw[all k hk]at SK;cases SK
  obtain⟨o,ho,hf,hr⟩:=(n6h cR i lT).1 hi;have lk:=(gX.1 ho).1;refine wpOpIn_mono (λa' W' hI'=>ih _ a' W' hI' (Nat.le_of_lt_succ (lZ (nqg _ (λk _ hk=>?_) ⟨i,tA.2 lk,by simp[hf],?_⟩) hc))) (hn i o ho hf hr)
  ·simp only[Array.getD_eq_getD_getElem?,aoq]at hk ⊢;grind
  simp only[Array.getD_eq_getD_getElem?,aoq];grind
variable {i:Nat}
theorem nKl(cR:Array Bool)(hi:i<cR.size)(k:Nat):(cR.setIfInBounds i true).getD k false=if k=i then true else cR.getD k false:=by
 simp only[Array.getD_eq_getD_getElem?,aoq];grind
variable {W:World}
theorem HU{o:Oper}(ho:l[i]? =some o)(h:wpListIn (FW C.r) 0 C.P l.toArray (Qn Q K) [o] a W):wpOpIn (FW C.r) 0 C.P l.toArray Q i K a W:=by
 unfold wpListIn at h;unfold wpOpIn;simp only[DQ,ho];split
 ·rename_i hw;rw[if_pos hw]at h;exact n8i (λa' W' h=>h) (λ_ _ _ h=>h) zL h
 rename_i hw;rw[if_neg hw]at h;exact h
theorem nFk{n:Nat}{o:Oper}(ho:l[n]? =some o)(hb:∀(i:Nat) (o:Oper),l[i]? =some o->∀j∈vK o,j<i)(hk:∀i,n<i->i<l.length->((MR l []).getD i 0).testBit n=true)(h:wpOpIn (FW C.r) 0 C.P l.toArray Q n (MT C l.toArray Q (n+1)) a W):MT C l.toArray Q n a W:=by
 intro cR lT rR fuel hc;have wh:=(gX.1 ho).1;simp only[qq]at lT rR hc;have h0:cR.getD n false=false:=Bool.eq_false_iff.2 λe=>by have:=(rR n wh).1 e;omega
 refine nrl (I:=λcR a W=>cR.size=l.length/\((cR.getD n false=false/\(∀i,i<l.length->(cR.getD i false=true↔i<n))/\wpOpIn (FW C.r) 0 C.P l.toArray Q n (MT C l.toArray Q (n+1)) a W)\/(∀i,i<l.length->(cR.getD i false=true↔i<n+1))/\MT C l.toArray Q (n+1) a W))
  (Dn:=λcR=>cR.getD n false=true) hb (λ_ _ _ h=>h.1) (λcR a W hI hd=>?_) (λcR a W hI hd=>?_) fuel cR a W ⟨lT,.inl ⟨h0,rR,h⟩⟩ hc
 ·rcases hI.2 with h1|h1
  ·rw[h1.1]at hd;cases hd
  exact λfuel hc=>h1.2 cR (by simpa using hI.1) (by simpa using h1.1) fuel (by simpa using hc)
 rcases hI.2 with h1|h1
 ·refine⟨⟨n,wh,h1.1⟩,λi o' xh hf hr=>?_⟩;have lk:=(gX.1 xh).1;obtain rfl:i=n:=by
   rcases Nat.lt_trichotomy i n with h9|h9|h9
   ·rw[(h1.2.1 i lk).2 h9]at hf;cases hf
   ·exact h9
   have:=nYf l (λj=>cR.getD j false=true) (λk o2 hk2 hd2 j hj=>?_) hb l [] rfl (λ_ _ _ hk=>by simp at hk) i o' xh hr n (hk i h9 lk)
   ·rw[h1.1]at this;cases this
   have vx:=(gX.1 hk2).1;have:=hb k o2 hk2 j hj;exact(h1.2.1 j aa).2 (by have:=(h1.2.1 k vx).1 hd2;omega)
  refine wpOpIn_mono (λa' W' h2=>⟨by simp[hI.1],.inr ⟨λk vx=>?_,h2⟩⟩) h1.2.2;rw[nKl cR (by rw[hI.1];exact lk)];by_cases e:k=i
  ·subst e;simp
  rw[if_neg e,h1.2.1 k vx];omega
 exact absurd ((h1.1 n wh).2 aa) hd
theorem nMg{n:Nat}(hn:l.length<=n)(h:Q .normal a W):MT C l.toArray Q n a W:=by
 intro cR lT rR fuel hc;have hz:Region.ready .any l.toArray cR=[]:=List.eq_nil_iff_forall_not_mem.2 λi hi=>by
  obtain⟨o,ho,hf,_⟩:=(n6h cR i (by simpa using lT)).1 hi;have lk:=(gX.1 ho).1;rw[(rR i (by simpa using lk)).2 aa]at hf;cases hf
 cases fuel with
 |zero=>exact⟨hz,h⟩
 |succ fuel=>exact⟨λ_=>h,λi hi=>absurd hi (by rw[hz];simp)⟩
theorem nBk(hb:∀(i:Nat) (o:Oper),l[i]? =some o->∀j∈vK o,j<i):∀(m n:Nat),l.length<=n+m->(∀i,n<=i->i<l.length->∀j,j<i->((MR l []).getD i 0).testBit j=true)->∀a W,wpListIn (FW C.r) 0 C.P l.toArray Q (l.drop n) a W->MT C l.toArray Q n a W
 |0,n,hm,_,a,W,h=>nMg aa (by rwa[agq.2 aa]at h)
 |m+1,n,hm,hk,a,W,h=>by
  by_cases hn:l.length<=n
  ·exact nMg hn (by rwa[agq.2 hn]at h)
  have ho:l[n]? =some (l[n]'aa):=kx _;rw[List.drop_eq_getElem_cons aa]at h;refine nFk ho hb (λi h1 h2=>hk i aa h2 n h1) (wpOpIn_mono (λa' W' h2=>nBk hb m (n+1) aa (λi h1=>hk i aa) a' W' h2) ?_);unfold wpListIn at h;unfold wpOpIn;simp only[DQ,ho];exact h
abbrev xi (o:Oper) (v:Value) (E:Env):Env:=match o.dst with|some d=>(d,v)::E|none=>E
def tW (C:Cx) (ops:Array Oper) (G:Gh) (E:Env) (n0:Nat) (sp:Sp) (ch:List Nat) (Ph:TW):List Oper->Sp->Prop
 |o::l,some u::ss=>(∀cv L' H',cv.length=ch.length->Mg ch (oE n0 o) cv=true->Ph cv L' H'->X C ops G L' H' (cO ops sp ch cv (oE n0 o)++E) (λ_=>True) o (λv _=>v=u))/\tW C ops G E n0 sp ch Ph l ss
 |_::l,none::ss=>tW C ops G E n0 sp ch Ph l ss
 |_,_=>True
theorem nwn:∀(l:List Oper) (ss:Sp),tW C ops G E n0 sp ch Ph l ss->∀(i:Nat) (o:Oper) (u:Value),l[i]? =some o->ss[i]? =some (some u)->∀cv L' H',cv.length=ch.length->Mg ch (oE n0 o) cv=true->Ph cv L' H'->X C ops G L' H' (cO ops sp ch cv (oE n0 o)++E) (λ_=>True) o (λv _=>v=u)
 | [],_,_,i,o,u,hl,_=>by simp at hl
 |_::_,[],_,i,o,u,_,hs=>by simp at hs
 |o'::l,u'::ss,h,i,o,u,hl,hs=>by
  cases i with
  |zero=>simp at hl hs;subst hs;subst hl;exact h.1
  |succ i=>exact nwn l ss (by cases u'<;>first|exact h.2|exact h) i o u NN (by simpa using hs)
abbrev Cn (C:Cx) (l:List Oper) (G:Gh) (E:Env) (D:List Deferred) (n0:Nat) (sp:Sp) (ch:List Nat) (cv:List (Option Value)) (o:Oper) (K:Value->List World->ad->Prop) (L':List World) (H':ad):Prop:=
 ∀(F:Env) (Q':aZ),(∀v qC qD,K v qC qD->PJ C Q' .normal (xi o v (cO l.toArray sp ch cv (oE n0 o)++(E++F))) D G qC qD)->OJ C l.toArray Q' [o] (cO l.toArray sp ch cv (oE n0 o)++(E++F)) D G L' H'
def gw (C:Cx) (l:List Oper) (G:Gh) (E:Env) (D:List Deferred) (n0:Nat) (sp:Sp) (ch:List Nat) (ka:List (List Nat)) (Ph:TW):Nat->List Nat->Prop
 |_,[]=>True
 |k,c::rest=>(∀(rq:List Nat) (o:Oper),ka[k]? =some rq->l[c]? =some o->∀cv L' H',cv.length=ch.length->Hm rq k cv=true->Ph cv L' H'->Cn C l G E D n0 sp ch cv o (λv=>Ph (cv.set k (some v))) L' H')/\gw C l G E D n0 sp ch ka Ph (k+1) rest
theorem n5n{ka:List (List Nat)}:∀(rest:List Nat) (n:Nat),gw C l G E D n0 sp ch ka Ph n rest->∀(k c:Nat) (rq:List Nat) (o:Oper),rest[k]? =some c->ka[n+k]? =some rq->l[c]? =some o->∀cv L' H',cv.length=ch.length->Hm rq (n+k) cv=true->Ph cv L' H'->Cn C l G E D n0 sp ch cv o (λv=>Ph (cv.set (n+k) (some v))) L' H'
 | [],_,_,k,c,_,_,h,_,_=>by simp at h
 |c'::rest,n,h,k,c,rq,o,hk,hr,hl=>by
  cases k with
  |zero=>simp at hk;subst hk;exact h.1 rq o hr hl
  |succ k=>
   rw[show n+(k+1)=n+1+k by omega]at hr ⊢;exact n5n rest (n+1) h.2 k c rq o (by simpa using hk) hr hl
theorem DJ.net(nA:Nat)(ka:List (List Nat))(h0:Ph (ch.map λ_=>none) L H)(pure:tW C l.toArray G E n0 sp ch Ph (l.drop n0) (sp.drop n0))(step:gw C l G E D n0 sp ch ka Ph 0 ch)(fin:∀cv L' H',cv.length=ch.length->cv.all (λx=>x.isSome)=true->Ph cv L' H'->DJ C l.toArray Q nA (cO l.toArray sp ch cv ((List.range nA).filter (Nat.ble n0))++E) D G L' H')(iu:Bk C.N l n0 nA ch sp ka E=true):DJ C l.toArray Q n0 E D G L H:=by
 simp only[Bk,oh,rZ,tA,Nat.beq_eq,Nat.ble_eq,Nat.blt_eq,Bool.or_eq_true]at iu;obtain⟨vG,hn0,hnA,hrq,hnd,hpt,alQ,hN,rn,hb,abH,abI⟩:=iu;have hnd:=HS hnd;have back:∀(i:Nat) (o:Oper),l[i]? =some o->∀j∈vK o,j<i:=λi o ho j hj=>by
  have:=hb i (gX.1 ho).1;simp only[ho,rZ,Nat.blt_eq]at this;exact this j hj
 have apart:∀i d,n0<=i->i<nA->(l.toArray[i]?).bind (·.dst)=some d->look E d=none/\∀j,n0<=j->j<nA->(l.toArray[j]?).bind (·.dst)=some d->i=j:=by
  intro i d h1 h2 h3;have h4:=(abI i h2).resolve_left aa;simp only[h3,oh,rZ,tA,Nat.beq_eq,Nat.blt_eq,Bool.or_eq_true]at h4;refine⟨by simpa using h4.1,λj h5 h6 h7=>?_⟩;have:=h4.2 j h6;simp only[h7,Nat.beq_refl]at this
  grind
 let done:=λ(cR:Array Bool)=>(List.range nA).filter λj=>Nat.ble n0 j&&cR.getD j false
 let I:Array Bool->Act->World->Prop:=λcR a W=>cR.size=l.length/\(∀(k:Nat) (o:Oper),l[k]? =some o->cR.getD k false=true->∀j∈vK o,cR.getD j false=true)/\(∀i,i<n0->cR.getD i false=true)/\(∀i,nA<=i->cR.getD i false=false)/\
  ∃cv L' H',a.tmps.size=C.N/\a.defers=D/\Fits E a/\Ph cv L' H'/\St G L' H' W/\cv.length=ch.length/\(∀(k c:Nat),ch[k]? =some c->(cR.getD c false=true↔∃v,cv[k]? =some (some v)))/\∀j∈done cR,∀d,(l.toArray[j]?).bind (·.dst)=some d->a.eval (.tmp d)=lV sp ch cv j
 have dX:∀cR a W,I cR a W->¬(∀k,k<nA->cR.getD k false=true)->(∃k,k<l.length/\cR.getD k false=false)/\∀(i:Nat) (o:Oper),l[i]? =some o->cR.getD i false=false->(∀j∈vK o,cR.getD j false=true)->
  wpOpIn (FW C.r) 0 C.P l.toArray Q i (λa' W'=>I (cR.setIfInBounds i true) a' W') a W:=by
  rintro cR a W ⟨lT,lQ,Ic,VR,cv,L',H',h1,h2,h3,h4,h5,h6,h7,h8⟩ cx;obtain⟨k0,Y8,Jf⟩:∃k,k<nA/\cR.getD k false=false:=by simpa using cx
  refine⟨⟨k0,by omega,Jf⟩,λi o ho I9 hrd=>?_⟩;have lk:=(gX.1 ho).1;have hi0:n0<=i:=Nat.le_of_not_lt λh=>by rw[Ic i h]at I9;cases I9
  have mask:=nYf l (λj=>cR.getD j false=true) lQ back l [] rfl (λ_ _ _ hk=>by simp at hk) i o ho hrd;have wS:i<nA:=(abH i lk).resolve_right λh=>by
   have:=mask k0 (h k0 Y8);rw[Jf]at this;cases this
  have gs:=nKl cR (i:=i) aa;have TX:∀j∈done cR,n0<=j/\j<nA/\cR.getD j false=true:=λj hj=>by simp only[done,wD,tA,oh,Nat.ble_eq]at hj;exact⟨hj.2.1,hj.1,hj.2.2⟩
  have iq:∀j∈oE n0 o,j∈done cR:=λj hj=>by
   obtain⟨h9,h10⟩:=wD.1 hj;have:=back i o ho j h9;exact wD.2 ⟨tA.2 aa,by rw[h10,hrd j h9];rfl⟩
  have bN:Fits (cO l.toArray sp ch cv (oE n0 o)) a:=nRg _ λj hj=>h8 j (iq j hj);have hF:Fits (cO l.toArray sp ch cv (done cR)) a:=nRg _ h8
  -- after it
  have next:∀js v cv' qC qD a' W',(∀j∈js,j∈done cR)->a'.tmps.size=C.N->a'.defers=D->Fits (xi o v (cO l.toArray sp ch cv js++(E++cO l.toArray sp ch cv (done cR)))) a'->Ph cv' qC qD->St G qC qD W'->cv'.length=ch.length->
   (∀(k c:Nat),ch[k]? =some c->((c=i\/cR.getD c false=true)↔∃v,cv'[k]? =some (some v)))->lV sp ch cv' i=v->(∀j∈done cR,lV sp ch cv' j=lV sp ch cv j)->I (cR.setIfInBounds i true) a' W':=by
   intro js v cv' qC qD a' W' kj k1 k2 k3 k4 k5 k6 k7 k8 k9;have hne:∀j d,n0<=j->j<nA->(l.toArray[j]?).bind (·.dst)=some d->j≠i->o.dst≠some d:=λj d e1 e2 e3 e4 e5=>e4 ((apart j d e1 e2 e3).2 i hi0 wS (by simp[ho,e5]));have Co:∀t u,o.dst≠some t->look (cO l.toArray sp ch cv js++(E++cO l.toArray sp ch cv (done cR))) t=some u->a'.eval (.tmp t)=u:=λt u e1 e2=>k3 t u (by
    unfold xi;split
    ·rename_i d hd;simp only[look,TI (show ¬d=t from λe=>e1 (e▸hd))];exact e2
    exact e2)
   refine⟨by simp[lT],λk o' xh hk j hj=>?_,λj hj=>by rw[gs,Ic j hj];simp,λj hj=>by rw[gs,if_neg aa];exact VR j hj,cv',qC,qD,k1,k2,λt u hu=>?_,k4,k5,k6,λk c hc=>?_,λj hj d hd=>?_⟩
   ·rw[gs]at hk ⊢;by_cases e:k=i
    ·subst e;rw[ho]at xh;cases xh;rw[hrd j hj];simp
    rw[if_neg e]at hk;rw[lQ k o' xh hk j hj];simp
   ·refine Co t u (λe=>?_) ?_
    ·rw[(apart i t hi0 wS (by simp[ho,e])).1]at hu;cases hu
    rcases nYe (ops:=l.toArray) (sp:=sp) (ch:=ch) (cv:=cv) t js with h9|⟨q,hq,hqd,h9⟩
    ·rw[nYc,nYc,h9.1,hu];rfl
    rw[(apart q t (TX q (kj q hq)).1 (TX q (kj q hq)).2.1 hqd).1]at hu;cases hu
   ·rw[gs,<-k7 k c hc];split<;>simp[*]
   have xU:n0<=j/\j<nA/\(j=i\/cR.getD j false=true):=by
    simp only[done,wD,tA,gs,oh,Nat.ble_eq]at hj;exact⟨hj.2.1,hj.1,by have:=hj.2.2;split at this<;>simp[*]⟩
   by_cases e:j=i
   ·subst e;have hd:o.dst=some d:=by simpa[ho]using hd
    rw[k8];exact k3 d v (by simp[xi,hd,look,MK])
   have hjd:j∈done cR:=wD.2 ⟨tA.2 xU.2.1,by rw[xU.2.2.resolve_left e,Nat.ble_eq_true_of_le xU.1];rfl⟩;rw[k9 j hjd];refine Co d _ (hne j d xU.1 xU.2.1 hd e) ?_;have at_:∀js,(∀j∈js,j∈done cR)->(look (cO l.toArray sp ch cv js) d=none/\j∉js)\/look (cO l.toArray sp ch cv js) d=some (lV sp ch cv j):=λjs kj=>by
    rcases nYe (ops:=l.toArray) (sp:=sp) (ch:=ch) (cv:=cv) d js with h9|⟨q,hq,hqd,h9⟩
    ·exact .inl ⟨h9.1,λh=>h9.2 j h hd⟩
    exact .inr (by rw[h9,(apart j d xU.1 xU.2.1 hd).2 q (TX q (kj q hq)).1 (TX q (kj q hq)).2.1 hqd])
   rw[nYc,nYc,(apart j d xU.1 xU.2.1 hd).1];rcases at_ js kj with h9|h9
   ·rw[h9.1,(at_ (done cR) λ_ h=>h).resolve_left λh=>h.2 hjd];rfl
   rw[h9];rfl
  obtain⟨u,hu⟩:∃u,sp[i]? =some u:=⟨sp[i]'aa,kx _⟩;have jU:=nQj ch sp 0 hpt i u hu;rw[lE]at jU;cases u with
  |some u=>
   have alT:i∉ch:=λh=>by cases jU.1 h
   have hx:=nwn _ _ pure (i-n0) o u (by rw[QY,show n0+(i-n0)=i by omega];exact ho) (by rw[QY,show n0+(i-n0)=i by omega];exact hu) cv L' H' h6 (by
    simp only[Mg,rZ,Bool.or_eq_true,Bool.not_eq_true'];intro j hj;by_cases hc:j∈ch
    ·obtain⟨q,hq⟩:=kA.1 hc;obtain⟨v,hv⟩:=(h7 q j hq).1 (TX j (iq j hj)).2.2;rw[nCe ch q j hq hnd,hv];exact .inr rfl
    ·exact .inl (Bool.eq_false_iff.2 λh=>hc (by obtain⟨c,hc,e⟩:=List.any_eq_true.1 h;rw[Nat.beq_eq]at e;exact e▸hc))) h4 a W (λa' W'=>I (cR.setIfInBounds i true) a' W') Q h1 (TO bN h3) h5 trivial (by
    rintro v W' hb rfl;refine next [] v cv L' H' _ W' zJ (by cases hd:o.dst<;>simp[Act.put,hd,h1]) (by cases hd:o.dst<;>simp[Act.put,hd,h2]) ?_ h4 (h5.step hb) h6 (λk c hc=>by rw[<-h7 k c hc];exact⟨λh=>h.resolve_left λe=>alT (e▸cP hc),.inr⟩) (by simp[lV,hu]) λ_ _=>rfl;unfold xi;split
    ·rename_i d hd;rw[hd];exact(TO h3 hF).put v (by rw[h1];exact nlp hN o (cP ho) d hd)
    rename_i hd;rw[hd];exact(TO h3 hF:Fits (E++cO l.toArray sp ch cv (done cR)) a))
   unfold wpOpIn;simp only[DQ,ho];split
   ·rename_i hw;rw[if_pos hw]at hx;exact hx
   rename_i hw;rw[if_neg hw]at hx;exact⟨λ_ _=>trivial,hx⟩
  |none=>
   obtain⟨k,hk⟩:=kA.1 (jU.2 rfl);have vx:=(gX.1 hk).1;obtain⟨rq,Va⟩:∃rq,ka[k]? =some rq:=⟨ka[k]'aa,kx _⟩;have Vi:((cv[k]?).join).isNone=true:=by
    have:=h7 k i hk;rw[I9]at this;cases e:cv[k]? with
    |none=>rfl
    |some x=>cases x with
     |none=>rfl
     |some v=>exact absurd (this.2 ⟨v,e⟩) zJ
   have hr:Hm rq k cv=true:=by
    simp only[Hm,Vi,Bool.true_and,rZ];intro j hj;obtain⟨c',Ah,alU⟩:=HT l ch ka 0 alQ k i rq Va (by rw[lE];exact hk) j hj;obtain⟨v,hv⟩:=(h7 j c' Ah).1 (mask c' alU);rw[hv];rfl
   have alV:∀j∈done cR,j∈ch->Tg ch j≠k:=λj hj hc e=>by
    obtain⟨q,hq⟩:=kA.1 hc;rw[nCe ch q j hq hnd]at e;subst e;rw[hk]at hq;cases hq;have:=(TX _ hj).2.2;rw[I9]at this;cases this
   refine HU ho (n5n ch 0 step k i rq o hk (by rw[lE];exact Va) ho cv L' H' h6 (by rw[lE];exact hr) h4 (cO l.toArray sp ch cv (done cR)) _ (λv qC qD hP a' W' k1 k2 k3 k4=>?_) a W h1 h2 (TO bN (TO h3 hF)) h5);rw[lE]at hP;refine next (oE n0 o) v _ qC qD a' W' iq k1 k2 k3 hP k4 (by rw[List.length_set];exact h6) (λk' c hc=>?_) (by simp[lV,hu,nCe ch k i hk hnd,h6,vx]) λj hj=>?_
   ·by_cases e:k'=k
    ·subst e;rw[hk]at hc;cases hc;simp[h6,vx]
    rw[TJ (λh=>e h.symm),<-h7 k' c hc];exact⟨λh=>h.resolve_left λe2=>e (by rw[<-nCe ch k' c hc hnd,<-nCe ch k i hk hnd,e2]),.inr⟩
   obtain⟨u',hu'⟩:∃u,sp[j]? =some u:=⟨sp[j]'(by have:=(TX j hj).2.1;omega),kx _⟩;have hm:=nQj ch sp 0 hpt j u' hu';rw[lE]at hm;unfold lV;rw[hu'];cases u' with
   |some u'=>rfl
   |none=>simp only;rw[TJ (λh=>alV j hj (hm.2 rfl) h.symm)]
 intro a W h1 h2 h3 h4 cR lT rR fuel hc;simp only[qq]at lT rR hc;have gn:∀i,n0<=i->cR.getD i false=false:=λi hi=>Bool.eq_false_iff.2 λh=>by
  by_cases lk:i<l.length
  ·have:=(rR i lk).1 h;omega
  simp[Array.getElem?_eq_none (show cR.size<=i by omega)]at h
 refine nrl (I:=I) back (λ_ _ _ h=>h.1) ?_ dX fuel cR a W ⟨lT,λk o ho hk j hj=>?_,λi hi=>(rR i aa).2 hi,λi hi=>gn i aa,_,L,H,h1,h2,h3,h0,h4,eG _,λk c hc=>?_,λj hj=>?_⟩ hc
 ·rintro cR a W ⟨lT,lQ,Ic,VR,cv,L',H',h1,h2,h3,h4,h5,h6,h7,h8⟩ cx fuel hc;refine fin cv L' H' h6 (rZ.2 λx hx=>?_) h4 a W h1 h2 (TO (nRg _ λj hj=>h8 j ?_) h3) h5 cR (by simpa using lT) (λi hi=>⟨λh=>?_,λh=>cx i h⟩) fuel (by simpa using hc)
  ·obtain⟨k,hk⟩:=kA.1 hx;have vx:k<ch.length:=by rw[<-h6];exact(gX.1 hk).1
   obtain⟨v,hv⟩:=(h7 k _ (kx vx)).1 (cx _ (rn _ (Wu vx)).2);rw[hk]at hv;cases hv;rfl
  ·obtain⟨h9,h10⟩:=wD.1 hj;exact wD.2 ⟨h9,by rw[h10,cx j (tA.1 h9)];rfl⟩
  exact Nat.lt_of_not_le λhle=>by rw[VR i hle]at h;cases h
 ·have h9:=back k o ho j hj;have vx:=(gX.1 ho).1;have:=(rR k vx).1 hk;exact(rR j aa).2 aa
 ·rw[gn c (rn c (cP hc)).1,sA,hc];simp
 simp only[done,wD,oh,Nat.ble_eq]at hj;rw[gn j hj.2.1]at hj;cases hj.2.2
theorem DJ.one{n:Nat}{o:Oper}(ho:l[n]? =some o)(hk:((List.range l.length).all λi=>match l[i]? with|none=>true|some o'=>((vK o').all λj=>Nat.blt j i)&&(Nat.ble i n||((MR l []).getD i 0).testBit n))=true)(h:OJ C l.toArray (Qn Q (MT C l.toArray Q (n+1))) [o] E D G L H):DJ C l.toArray Q n E D G L H:=by
 simp only[rZ,tA]at hk;have at_:=λi (hi:i<l.length)=>by simpa[kx hi]using hk i hi
 exact λa W h1 h2 h3 h4=>nFk ho (λi o' xh j hj=>by obtain⟨hi,rfl⟩:=gX.1 xh;exact(at_ i hi).1 j hj) (λi h5 h6=>by simpa using(at_ i h6).2.resolve_left aa) (HU ho (h a W h1 h2 h3 h4))
theorem DJ.done{n:Nat}(k:PJ C Q .normal E D G L H)(hn:Nat.ble l.length n=true:=by kernel_rfl):DJ C l.toArray Q n E D G L H:=λa W h1 h2 h3 h4=>nMg (dO hn) (k a W h1 h2 h3 h4)
theorem PJ.dj{n:Nat}(k:DJ C l.toArray Q n E D G L H):PJ C (Qn Q (MT C l.toArray Q n)) .normal E D G L H:=k
theorem DJ.less{n:Nat}{E':Env}(h:Sub E' E)(k:DJ C ops Q n E' D G L H):DJ C ops Q n E D G L H:=λa W h1 h2 h3 h4=>k a W h1 h2 (h.fits h3) h4
def Ai (l:List Oper) (nA:Nat):Bool:=(List.range l.length).all λi=>Nat.blt i nA||(List.range i).all λj=>((MR l []).getD i 0).testBit j
theorem nSi{id:Nat}(nA:Nat)(ch:List Nat)(sp:Sp)(ka:List (List Nat))(Ph:TW)(h0:Ph (ch.map λ_=>none) L H)(pure:tW C l.toArray G E 0 sp ch Ph l sp)(step:gw C l G E D 0 sp ch ka Ph 0 ch)(fin:∀cv L' H',cv.length=ch.length->cv.all (λx=>x.isSome)=true->Ph cv L' H'->OJ C l.toArray Q (l.drop nA) (cO l.toArray sp ch cv (List.range nA)++E) D G L' H')(iu:(C.P.follows .mixedOrders&&(Bk C.N l 0 nA ch sp ka E&&Ai l nA))=true:=by kernel_rfl):CJ C (.region id l.toArray true) Q E D G L H:=by
 simp only[oh]at iu;refine CJ.dj iu.1 (DJ.net nA ka h0 pure step (λcv L' H' h1 h2 h3 a W k1 k2 k3 k4=>nBk ?_ l.length nA aa (λi h5 h6 j h7=>?_) a W (fin cv L' H' h1 h2 h3 a W k1 k2 ?_ k4)) iu.2.1)
 ·intro i o ho j hj;have:=iu.2.1;simp only[Bk,oh,rZ,tA]at this;have:=this.2.2.2.2.2.2.2.2.2.1 i (gX.1 ho).1;rw[ho]at this;simpa using rZ.1 this j hj
 ·have:=rZ.1 iu.2.2 i (tA.2 h6);simp only[Bool.or_eq_true,Nat.blt_eq,rZ,tA]at this;exact this.resolve_left aa j h7
 rwa[List.filter_eq_self.2 (λ_ _=>Nat.ble_eq_true_of_le (cV _))]at k3
/-! #### a chain: the operations whose values are not known stand behind each other -/
def rq1:Nat->List Nat
 |0=>[]
 |n+1=>[n]
def Aj:Nat->Nat->List (List Nat)
 |_,0=>[]
 |k,n+1=>rq1 k::Aj (k+1) n
abbrev MU:=List Value->List World->ad->Prop
abbrev sm (vs:List Value):List (Option Value):=vs.map some
def Bl (n:Nat) (Ph:MU):TW:=λcv L' H'=>∃vs:List Value,vs.length<=n/\cv=sm vs++List.replicate (n-vs.length) none/\Ph vs L' H'
theorem Bm(vs:List Value)(n k:Nat):((sm vs++List.replicate n none)[k]?).join=((sm vs)[k]?).join:=by grind
theorem nth(vs:List Value)(n:Nat):∀js,cO ops sp ch (sm vs++List.replicate n none) js=cO ops sp ch (sm vs) js
 | []=>rfl
 |j::js=>by unfold cO;rw[nth vs n js];simp only[lV,Bm]
variable {Pc:MU} {k c:Nat} {o:Oper} {rest:List Nat} {ka:List (List Nat)} {tl:Sp} {u:Value}
theorem pc(h:∀cv L' H',Mg ch (oE n0 o) (sm cv)=true->Pc cv L' H'->X C ops G L' H' (cO ops sp ch (sm cv) (oE n0 o)++E) (λ_=>True) o (λv _=>v=u))(t:tW C ops G E n0 sp ch (Bl ch.length Pc) l tl):tW C ops G E n0 sp ch (Bl ch.length Pc) (o::l) (some u::tl):=
 ⟨by rintro _ L' H' _ hd ⟨vs,hle,rfl,hP⟩;simp only[Mg,Bm]at hd;rw[nth];exact h vs L' H' hd hP,t⟩
theorem qc(h:∀cv L' H',cv.length=ch.length->Mg ch (oE n0 o) cv=true->Ph cv L' H'->X C ops G L' H' (cO ops sp ch cv (oE n0 o)++E) (λ_=>True) o (λv _=>v=u))(t:tW C ops G E n0 sp ch Ph l tl):tW C ops G E n0 sp ch Ph (o::l) (some u::tl):=⟨h,t⟩
theorem pk(t:tW C ops G E n0 sp ch Ph l tl):tW C ops G E n0 sp ch Ph (o::l) (none::tl):=t
theorem pn:tW C ops G E n0 sp ch Ph l []:=by cases l<;>trivial
theorem nc{rq:List Nat}(h0:ka[k]? =some rq)(h1:l[c]? =some o)(h:∀cv L' H',cv.length=ch.length->Hm rq k cv=true->Ph cv L' H'->Cn C l G E D n0 sp ch cv o (λv=>Ph (cv.set k (some v))) L' H')(t:gw C l G E D n0 sp ch ka Ph (k+1) rest):gw C l G E D n0 sp ch ka Ph k (c::rest):=
 ⟨λrq' o' e0 e1=>by rw[h0]at e0;cases e0;rw[h1]at e1;cases e1;exact h,t⟩
theorem nn:gw C l G E D n0 sp ch ka Ph k []:=trivial
theorem ss(h1:l[c]? =some o)(h:∀cv L' H',cv.length=k->Pc cv L' H'->Cn C l G E D n0 sp ch (sm cv) o (λv=>Pc (cv++[v])) L' H')(t:gw C l G E D n0 sp ch ka (Bl ch.length Pc) (k+1) rest)(h0:ka[k]? =some (rq1 k):=by rfl)(h2:Nat.blt k ch.length=true:=by rfl):gw C l G E D n0 sp ch ka (Bl ch.length Pc) k (c::rest):=by
 refine nc h0 h1 ?_ t;rintro _ L' H' _ hr ⟨vs,hle,rfl,hP⟩ F Q' hc;rw[Nat.blt_eq]at h2;simp only[Hm,Bm,oh,rZ,Option.isNone_iff_eq_none]at hr;obtain rfl:vs.length=k:=by
  exact zth
 rw[nth]at hc ⊢;refine h vs L' H' rfl hP F Q' λv qC qD hP'=>hc v qC qD ⟨vs++[v],by simp;omega,?_,hP'⟩;exact zPg
variable {H':ad} {L':List World}
theorem n0n(h:cv.all (λx=>x.isSome)=true):Bl ch.length Pc cv L' H'->∃vs:List Value,vs.length=ch.length/\cv=sm vs/\Pc vs L' H':=by
 rintro⟨vs,hle,rfl,hP⟩;have:ch.length-vs.length=0:=by
  simp only[List.all_append,List.all_replicate,oh]at h;have:=h.2;split at this<;>simp_all
 exact⟨vs,by omega,by rw[this];simp,hP⟩
theorem HV(h0:Pc [] L' H'):Bl ch.length Pc (ch.map λ_=>none) L' H':=⟨[],cV _,by simp[List.map_const'],h0⟩
theorem CJ.chn{id:Nat}(nA:Nat)(ch:List Nat)(sp:Sp)(Ph:MU)(pure:tW C l.toArray G E 0 sp ch (Bl ch.length Ph) l sp)(step:gw C l G E D 0 sp ch (Aj 0 ch.length) (Bl ch.length Ph) 0 ch)(fin:∀cv L' H',cv.length=ch.length->Ph cv L' H'->OJ C l.toArray Q (l.drop nA) (cO l.toArray sp ch (sm cv) (List.range nA)++E) D G L' H')(h0:Ph [] L H:=by exact⟨rfl,rfl⟩)(iu:(C.P.follows .mixedOrders&&(Bk C.N l 0 nA ch sp (Aj 0 ch.length) E&&Ai l nA))=true:=by kernel_rfl):CJ C (.region id l.toArray true) Q E D G L H:=
 nSi nA ch sp (Aj 0 ch.length) (Bl ch.length Ph) (HV h0) pure step (λcv L' H' h1 h2 h3=>by obtain⟨vs,hl,rfl,hP⟩:=n0n h2 h3;exact fin vs L' H' hl hP) iu
theorem DJ.chn(n0 nA:Nat)(ch:List Nat)(sp:Sp)(Ph:MU)(pure:tW C l.toArray G E n0 sp ch (Bl ch.length Ph) (l.drop n0) (sp.drop n0))(step:gw C l G E D n0 sp ch (Aj 0 ch.length) (Bl ch.length Ph) 0 ch)(fin:∀cv L' H',cv.length=ch.length->Ph cv L' H'->DJ C l.toArray Q nA (cO l.toArray sp ch (sm cv) ((List.range nA).filter (Nat.ble n0))++E) D G L' H')(h0:Ph [] L H:=by exact⟨rfl,rfl⟩)(iu:Bk C.N l n0 nA ch sp (Aj 0 ch.length) E=true:=by kernel_rfl):DJ C l.toArray Q n0 E D G L H:=
 DJ.net nA (Aj 0 ch.length) (HV h0) pure step (λcv L' H' h1 h2 h3=>by obtain⟨vs,hl,rfl,hP⟩:=n0n h2 h3;exact fin vs L' H' hl hP) iu
theorem xc{L0:List World}{H0:ad}(h:Nat->X C ops G L0 H0 (cO ops sp [] [] (oE n0 o)++E) (λ_=>True) o (λv _=>v=u))(t:tW C ops G E n0 sp [] (λ_ L' H'=>L'=L0/\H'=H0) l tl):tW C ops G E n0 sp [] (λ_ L' H'=>L'=L0/\H'=H0) (o::l) (some u::tl):=
 ⟨by rintro cv _ _ hl _ ⟨rfl,rfl⟩;cases kX hl;exact h 0,t⟩
theorem CJ.drwD{id:Nat}(nA:Nat)(sp:Sp)(exec:tW C l.toArray G E 0 sp [] (λ_ L' H'=>L'=L/\H'=H) l sp)(fin:Nat->OJ C l.toArray Q (l.drop nA) (cO l.toArray sp [] [] (List.range nA)++E) D G L H)(iu:(C.P.follows .mixedOrders&&(Bk C.N l 0 nA [] sp [] E&&Ai l nA))=true:=by kernel_rfl):CJ C (.region id l.toArray true) Q E D G L H:=
 nSi nA [] sp [] _ ⟨rfl,rfl⟩ exec trivial (by rintro cv _ _ hl _ ⟨rfl,rfl⟩;cases kX hl;exact fin 0) iu
variable {nA:Nat}
/-- the pure operations, at a state; the number of the elements is said -/
def PB (nA:Nat) (C:Cx) (ops:Array Oper) (G:Gh) (E:Env) (n0:Nat) (sp:Sp) (ch:List Nat) (L:List World) (H:ad):List Oper->Sp->Prop
 |o::l,some u::ss=>X C ops G L H (cO ops sp ch [] (oE n0 o)++E) (λ_=>True) o (λv _=>v=u)/\PB nA C ops G E n0 sp ch L H l ss
 |_::l,none::ss=>PB nA C ops G E n0 sp ch L H l ss
 |_,_=>True
theorem aU(h:X C ops G L H (cO ops sp ch [] (oE n0 o)++E) (λ_=>True) o (λv _=>v=u))(t:PB nA C ops G E n0 sp ch L H l tl):PB nA C ops G E n0 sp ch L H (o::l) (some u::tl):=⟨h,t⟩
theorem qbk(_hc:ch.any (Nat.beq (ops.size-(l.length+1)))=true)(t:PB nA C ops G E n0 sp ch L H l tl):PB nA C ops G E n0 sp ch L H (o::l) (none::tl):=t
theorem vO(_h:Nat.beq (ops.size-l.length) nA=true):PB nA C ops G E n0 sp ch L H l []:=by cases l<;>trivial
theorem PB.at:∀{l:List Oper} {ss:Sp},PB nA C ops G E n0 sp ch L H l ss->∀(i:Nat) (o:Oper) (u:Value),l[i]? =some o->ss[i]? =some (some u)->X C ops G L H (cO ops sp ch [] (oE n0 o)++E) (λ_=>True) o (λv _=>v=u)
 | [],_,_,i,o,u,hl,_=>by simp at hl
 |_::_,[],_,i,o,u,_,hs=>by simp at hs
 |o'::l,u'::ss,h,i,o,u,hl,hs=>by
  cases i with
  |zero=>simp at hl hs;subst hs;subst hl;exact h.1
  |succ i=>exact PB.at (l:=l) (ss:=ss) (by cases u'<;>first|exact h.2|exact h) i o u NN (by simpa using hs)
theorem nci:∀(m:List Oper) (ss:Sp),(∀(i:Nat) (o:Oper) (u:Value),m[i]? =some o->ss[i]? =some (some u)->∀cv L' H',cv.length=ch.length->Mg ch (oE n0 o) cv=true->Ph cv L' H'->X C ops G L' H' (cO ops sp ch cv (oE n0 o)++E) (λ_=>True) o (λv _=>v=u))->tW C ops G E n0 sp ch Ph m ss
 | [],ss,_=>by cases ss<;>trivial
 |_::_,[],_=>trivial
 |o::m,none::ss,h=>nci m ss λi o u h1 h2=>h (i+1) o u CM Kq
 |o::m,some u::ss,h=>⟨h 0 o u rfl rfl,nci m ss λi o u h1 h2=>h (i+1) o u CM Kq⟩
/-- the values of these operations are known -/
def knB (sp:Sp) (js:List Nat):Bool:=js.all λj=>match sp[j]? with|some (some _)=>true|_=>false
theorem nQn{cv cv':List (Option Value)}:∀{js:List Nat},knB sp js=true->cO ops sp ch cv js=cO ops sp ch cv' js
 | [],_=>rfl
 |j::js,h=>by
  simp only[knB,List.all_cons,oh]at h;unfold cO;rw[nQn (js:=js) h.2];have h1:=h.1;have:lV sp ch cv j=lV sp ch cv' j:=by unfold lV;split at h1<;>simp_all
  rw[this]
def xj (n0:Nat) (l:List Oper) (sp:Sp):Bool:=(List.range l.length).all λi=>Nat.blt i n0||match l[i]?,sp[i]? with|some o,some (some _)=>knB sp (oE n0 o)|_,_=>true
theorem X.mono{Pre:World->Prop}{Φ:Value->World->Prop}(hm:∀W,St G L' H' W->St G L H W)(h:X C ops G L H E Pre o Φ):X C ops G L' H' E Pre o Φ:=
 λa W K Q h1 h2 h3 h4 h5=>h a W K Q h1 h2 (hm W h3) h4 h5
/-- the operations of a chain, one behind the other -/
def PW (C:Cx) (l:List Oper) (G:Gh) (E:Env) (D:List Deferred) (n0:Nat) (sp:Sp) (ch:List Nat) (Fin:MU) (L0:List World) (H0:ad):List Nat->MU
 | [],vs,L',H'=>(∀W,St G L' H' W->St G L0 H0 W)/\Fin vs L' H'
 |c::rest,vs,L',H'=>(∀W,St G L' H' W->St G L0 H0 W)/\∀o,l[c]? =some o->Cn C l G E D n0 sp ch (sm vs) o (λv=>PW C l G E D n0 sp ch Fin L0 H0 rest (vs++[v])) L' H'
variable {Fin:MU} {L0:List World} {H0:ad}
theorem PW.mono:∀{r:List Nat} {vs:List Value} {L':List World} {H':ad},PW C l G E D n0 sp ch Fin L0 H0 r vs L' H'->∀W,St G L' H' W->St G L0 H0 W
 | [],_,_,_,h=>h.1
 |_::_,_,_,_,h=>h.1
theorem nao{k:Nat}(h:k<ch.length):ch.drop k=ch[k]::ch.drop (k+1):=List.drop_eq_getElem_cons h
theorem gw.of(hP:∀vs L' H',Pc vs L' H'->vs.length<ch.length->∀c o,ch[vs.length]? =some c->l[c]? =some o->Cn C l G E D n0 sp ch (sm vs) o (λv=>Pc (vs++[v])) L' H'):∀(m k:Nat),ch.length=k+m->gw C l G E D n0 sp ch (Aj 0 ch.length) (Bl ch.length Pc) k (ch.drop k)
 |0,k,h=>by rw[agq.2 aa];exact nn
 |m+1,k,h=>by
  have hk:k<ch.length:=by omega
  rw[nao hk];refine⟨λrq o h0 h1 cv L' H' hcv hr hp=>?_,gw.of hP m (k+1) aa⟩;have TY:∀(n j i:Nat),i<n->(Aj j n)[i]? =some (rq1 (j+i)):=by
   intro n;induction n with
   |zero=>intro j i h;omega
   |succ n ih=>
    intro j i h;cases i with
    |zero=>rfl
    |succ i=>simp only[Aj,Im];rw[ih (j+1) i aa];congr 2;omega
  rw[TY _ 0 k hk,lE]at h0;cases h0
  obtain⟨vs,hle,rfl,hP'⟩:=hp;simp only[Hm,Bm,oh,rZ,Option.isNone_iff_eq_none]at hr;obtain rfl:vs.length=k:=by
   exact zth
  intro F Q' hc;rw[nth]at hc ⊢;refine hP vs L' H' hP' hk _ o (kx hk) h1 F Q' λv qC qD al0=>hc v qC qD ⟨vs++[v],by simp;omega,?_,al0⟩;exact zPg
theorem nrn(hb:PB nA C l.toArray G E n0 sp ch L H (l.drop n0) (sp.drop n0))(hi:xj n0 l sp=true){Fin:MU}:tW C l.toArray G E n0 sp ch (Bl ch.length λvs=>PW C l G E D n0 sp ch Fin L H (ch.drop vs.length) vs) (l.drop n0) (sp.drop n0):=by
 refine nci _ _ λi o u h1 h2 cv L' H' hcv hd hP=>?_;obtain⟨vs,_,rfl,hP⟩:=hP;rw[nQn (cv':=[])]
 ·exact(hb.at i o u h1 h2).mono hP.mono
 simp only[xj,rZ,tA,Bool.or_eq_true]at hi;rw[QY]at h1 h2;have:=(hi (n0+i) (gX.1 h1).1).resolve_left zJ;rw[h1,h2]at this;exact this
theorem nJn{Fin:MU}:gw C l G E D n0 sp ch (Aj 0 ch.length) (Bl ch.length λvs=>PW C l G E D n0 sp ch Fin L H (ch.drop vs.length) vs) 0 ch:=by
 have:=gw.of (C:=C) (l:=l) (G:=G) (E:=E) (D:=D) (n0:=n0) (sp:=sp) (ch:=ch) (Pc:=λvs=>PW C l G E D n0 sp ch Fin L H (ch.drop vs.length) vs) (λvs L' H' hP hk c o hc ho=>by
  rw[nao hk]at hP;obtain⟨MQ,hc⟩:=gX.1 hc;rw[hc]at hP;have h2:=hP.2 o ho;intro F Q' h3;refine h2 F Q' λv qC qD h4=>h3 v qC qD ?_;simpa using h4) ch.length 0 aa
 simpa using this
abbrev ud (n0:Nat) (sp:Sp):Sp:=List.replicate n0 (some undef)++sp
theorem MV(n0:Nat)(sp:Sp):(ud n0 sp).drop n0=sp:=by simp[ud]
/-- a region that draws its order: a chain, and operations that do not ask for it -/
theorem eW{id:Nat}{ch:List Nat}{nA:Nat}(pb:PB nA C l.toArray G E 0 sp ch L H l sp)(k:PW C l G E D 0 sp ch (λvs L' H'=>OJ C l.toArray Q (l.drop nA) (cO l.toArray sp ch (sm vs) (List.range nA)++E) D G L' H') L H ch [] L H)(hi:xj 0 l sp=true)(iu:(C.P.follows .mixedOrders&&(Bk C.N l 0 nA ch sp (Aj 0 ch.length) E&&Ai l nA))=true):CJ C (.region id l.toArray true) Q E D G L H:=
 CJ.chn nA ch sp (λvs=>PW C l G E D 0 sp ch _ L H (ch.drop vs.length) vs) (nrn pb hi) nJn (λcv L' H' hl hP=>by rw[hl,List.drop_length]at hP;exact hP.2) k iu
theorem fW{ch:List Nat}{nA:Nat}(pb:PB nA C l.toArray G E n0 (ud n0 sp) ch L H (l.drop n0) sp)(k:PW C l G E D n0 (ud n0 sp) ch (λvs L' H'=>DJ C l.toArray Q nA (cO l.toArray (ud n0 sp) ch (sm vs) ((List.range nA).filter (Nat.ble n0))++E) D G L' H') L H ch [] L H)(hi:xj n0 l (ud n0 sp)=true)(iu:Bk C.N l n0 nA ch (ud n0 sp) (Aj 0 ch.length) E=true):DJ C l.toArray Q n0 E D G L H:=
 DJ.chn n0 nA ch (ud n0 sp) (λvs=>PW C l G E D n0 (ud n0 sp) ch _ L H (ch.drop vs.length) vs) (nrn (nA:=nA) (by rw[MV];exact pb) hi) nJn (λcv L' H' hl hP=>by rw[hl,List.drop_length]at hP;exact hP.2) k iu
variable {vs:List Value}
theorem wN(hm:∀W,St G L' H' W->St G L0 H0 W)(h:∀F Q',(∀v qC qD,PW C l G E D n0 sp ch Fin L0 H0 rest (vs++[v]) qC qD->PJ C Q' .normal (xi o v (cO l.toArray sp ch (sm vs) (oE n0 o)++(E++F))) D G qC qD)->OJ C l.toArray Q' [o] (cO l.toArray sp ch (sm vs) (oE n0 o)++(E++F)) D G L' H')(ho:l[c]? =some o:=by exact rfl):PW C l G E D n0 sp ch Fin L0 H0 (c::rest) vs L' H':=⟨hm,λo' xh=>by rw[ho]at xh;cases xh;exact h⟩
theorem wE(hm:∀W,St G L' H' W->St G L0 H0 W)(h:Fin vs L' H'):PW C l G E D n0 sp ch Fin L0 H0 [] vs L' H':=⟨hm,h⟩
inductive Dr:Nat->List Oper->List Oper->Prop
 |z {l:List Oper}:Dr 0 l l
 |s {n:Nat} {x:Oper} {l l':List Oper}:Dr n l l'->Dr (n+1) (x::l) l'
theorem Dr.eq{n:Nat}{l l':List Oper}(h:Dr n l l'):l.drop n=l':=by
 induction h with
 |z=>rfl
 |s _ ih=>exact ih
/-- the slots that the operations write are struck -/
def wrs (l:List Oper) (t:Nat):Bool:=l.any λo=>match o.dst with|some d=>Nat.beq d t|none=>false
inductive Kn (l:List Oper):Env->Env->Prop
 |nil:Kn l [] []
 |keep {t:Nat} {v:Value} {E E':Env}:wrs l t=false->Kn l E E'->Kn l ((t,v)::E) ((t,v)::E')
 |skip {t:Nat} {v:Value} {E E':Env}:wrs l t=true->Kn l E E'->Kn l ((t,v)::E) E'
theorem Kn.look{l:List Oper}{E E':Env}(h:Kn l E E'):∀{t v},Px.look E' t=some v->wrs l t=false/\Px.look E t=some v:=by
 induction h with
 |nil=>intro t v h;simp[Px.look]at h
 |keep h _ ih=>intro t v h2;simp only[Px.look]at h2 ⊢;split<;>simp_all
 |skip h _ ih=>intro t v h2;have h3:=ih h2;simp only[Px.look];split<;>simp_all
theorem Kn.fits{l:List Oper}{E E':Env}(h:Kn l E E')(hF:Fits E a):Fits E' a:=λt v hv=>hF t v (h.look hv).2
variable {E':Env} {l':List Oper}
theorem eA{id:Nat}(nA:Nat)(hk:Kn (l.take nA) E E':=by exact zKn)(pb:PB nA C l.toArray G E' 0 sp [] L H l sp:=by exact zT)(hl:Dr nA l l':=by exact zDr)(k:OJ C l.toArray Q l' (cO l.toArray sp [] [] (List.range nA)++E') D G L H)(hi:xj 0 l sp=true:=by kernel_rfl)(iu:(C.P.follows .mixedOrders&&(Bk C.N l 0 nA [] sp [] E'&&Ai l nA))=true:=by kernel_rfl):CJ C (.region id l.toArray true) Q E D G L H:=λa W hN hD hF hS=>eW pb (wE (λ_ h=>h) (by rw[hl.eq];exact k)) hi iu a W hN hD (hk.fits hF) hS
theorem fA(n0 nA:Nat)(hk:Kn ((l.take nA).drop n0) E E':=by exact zKn)(pb:PB nA C l.toArray G E' n0 (ud n0 sp) [] L H (l.drop n0) sp:=by exact zT)(k:DJ C l.toArray Q nA (cO l.toArray (ud n0 sp) [] [] ((List.range nA).filter (Nat.ble n0))++E') D G L H)(hi:xj n0 l (ud n0 sp)=true:=by kernel_rfl)(iu:Bk C.N l n0 nA [] (ud n0 sp) [] E'=true:=by kernel_rfl):DJ C l.toArray Q n0 E D G L H:=λa W h1 h2 h3 h4=>fW pb (wE (λ_ h=>h) k) hi iu a W h1 h2 (hk.fits h3) h4
theorem eS{id:Nat}(nA c:Nat)(rest:List Nat)(hk:Kn (l.take nA) E E':=by exact zKn)(pb:PB nA C l.toArray G E' 0 sp (c::rest) L H l sp:=by exact zT)(hl:Dr nA l l':=by exact zDr)(h:∀F Q',(∀v qC qD,PW C l G E' D 0 sp (c::rest) (λvs L' H'=>OJ C l.toArray Q l' (cO l.toArray sp (c::rest) (sm vs) (List.range nA)++E') D G L' H') L H rest [v] qC qD->PJ C Q' .normal (xi o v (cO l.toArray sp (c::rest) [] (oE 0 o)++(E'++F))) D G qC qD)->OJ C l.toArray Q' [o] (cO l.toArray sp (c::rest) [] (oE 0 o)++(E'++F)) D G L H)(ho:l[c]? =some o:=by exact rfl)(hi:xj 0 l sp=true:=by kernel_rfl)(iu:(C.P.follows .mixedOrders&&(Bk C.N l 0 nA (c::rest) sp (Aj 0 (rest.length+1)) E'&&Ai l nA))=true:=by kernel_rfl):CJ C (.region id l.toArray true) Q E D G L H:=
 λa W hN hD hF hS=>eW pb (wN (vs:=[]) (λ_ h=>h) (by rw[hl.eq];exact h) ho) hi iu a W hN hD (hk.fits hF) hS
theorem fS(n0 nA c:Nat)(rest:List Nat)(hk:Kn ((l.take nA).drop n0) E E':=by exact zKn)(pb:PB nA C l.toArray G E' n0 (ud n0 sp) (c::rest) L H (l.drop n0) sp:=by exact zT)(h:∀F Q',(∀v qC qD,PW C l G E' D n0 (ud n0 sp) (c::rest) (λvs L' H'=>DJ C l.toArray Q nA (cO l.toArray (ud n0 sp) (c::rest) (sm vs) ((List.range nA).filter (Nat.ble n0))++E') D G L' H') L H rest [v] qC qD->PJ C Q' .normal (xi o v (cO l.toArray (ud n0 sp) (c::rest) [] (oE n0 o)++(E'++F))) D G qC qD)->OJ C l.toArray Q' [o] (cO l.toArray (ud n0 sp) (c::rest) [] (oE n0 o)++(E'++F)) D G L H)(ho:l[c]? =some o:=by exact rfl)(hi:xj n0 l (ud n0 sp)=true:=by kernel_rfl)(iu:Bk C.N l n0 nA (c::rest) (ud n0 sp) (Aj 0 (rest.length+1)) E'=true:=by kernel_rfl):DJ C l.toArray Q n0 E D G L H:=
 λa W h1 h2 h3 h4=>fW pb (wN (vs:=[]) (λ_ h=>h) h ho) hi iu a W h1 h2 (hk.fits h3) h4
theorem St.un{w:World}(h:St G (w::L) H W):St G L H W:=h.lessL λ_ hw=>.tail _ hw
/-- as_ nCb; the number of the elements is said -/
def VJ (_nA:Nat) (C:Cx) (ops:Array Oper) (G:Gh) (E:Env) (n0:Nat) (sp:Sp) (ch:List Nat) (Ph:TW) (l:List Oper) (ss:Sp):Prop:=tW C ops G E n0 sp ch Ph l ss
theorem r7(h:∀cv L' H',cv.length=ch.length->Mg ch (oE n0 o) cv=true->Ph cv L' H'->X C ops G L' H' (cO ops sp ch cv (oE n0 o)++E) (λ_=>True) o (λv _=>v=u))(t:VJ nA C ops G E n0 sp ch Ph l tl):VJ nA C ops G E n0 sp ch Ph (o::l) (some u::tl):=qc h t
theorem qtk(_hc:ch.any (Nat.beq (ops.size-(l.length+1)))=true)(t:VJ nA C ops G E n0 sp ch Ph l tl):VJ nA C ops G E n0 sp ch Ph (o::l) (none::tl):=t
theorem qtn(_h:Nat.beq (ops.size-l.length) nA=true):VJ nA C ops G E n0 sp ch Ph l []:=pn
theorem dN{id:Nat}(nA:Nat)(ch:List Nat)(ka:List (List Nat))(Ph:TW)(h0:Ph (ch.map λ_=>none) L H)(pure:VJ nA C l.toArray G E 0 sp ch Ph l sp)(step:gw C l G E D 0 sp ch ka Ph 0 ch)(fin:∀cv L' H',cv.length=ch.length->cv.all (λx=>x.isSome)=true->Ph cv L' H'->OJ C l.toArray Q (l.drop nA) (cO l.toArray sp ch cv (List.range nA)++E) D G L' H')(iu:(C.P.follows .mixedOrders&&(Bk C.N l 0 nA ch sp ka E&&Ai l nA))=true:=by kernel_rfl):CJ C (.region id l.toArray true) Q E D G L H:=nSi nA ch sp ka Ph h0 pure step fin iu
end
end Px
namespace Px
/-! plain arithmetic: products and quotients of 128 bits -/
theorem HW(x y:Nat)(hx:x<2^64)(hy:y<2^64):(x/2^32)*(y/2^32)+((x/2^32)*(y%2^32)+(x%2^32)*(y%2^32)/2^32)/2^32+(((x/2^32)*(y%2^32)+(x%2^32)*(y%2^32)/2^32)%2^32+(x%2^32)*(y/2^32))/2^32=x*y/2^64:=by
 have h1:=Bq x (2^32);have h2:=Bq y (2^32);generalize x/2^32=x1 at *;generalize x%2^32=x0 at *;generalize y/2^32=y1 at *;generalize y%2^32=y0 at *;have e:x*y=2^64*(x1*y1)+2^32*(x1*y0)+2^32*(x0*y1)+x0*y0:=by
  rw[<-h1,<-h2];have:(2^64:Nat)=2^32*2^32:=by decide
  rw[this];simp only[pE,Nat.mul_add];have a1:2^32*x1*(2^32*y1)=2^32*2^32*(x1*y1):=by
   rw[Nat.mul_mul_mul_comm]
  have a2:2^32*x1*y0=2^32*(x1*y0):=Nat.mul_assoc _ _ _;have a3:x0*(2^32*y1)=2^32*(x0*y1):=Nat.mul_left_comm _ _ _;omega
 all_goals grind
theorem nip(u y1 y0 un q:Nat)(Bo:2^31<=y1)(Ie:y0<2^32)(I9:un<2^32)(hq:q=u/y1):(u*2^32+un)/(y1*2^32+y0)<=q:=by
 subst hq;apply Nat.le_of_lt_succ;rw[Nat.div_lt_iff_lt_mul aa];have h:=Nat.lt_succ_self (u/y1);have h2:=Bq u y1;have h3:=Nat.mod_lt u (show 0<y1 by omega);all_goals grind
theorem nkg(u y1 y0 un q r:Nat)(hr:u=q*y1+r):(r*2^32+un<q*y0)↔u*2^32+un<q*(y1*2^32+y0):=by grind
def cY (n:Nat):Nat:=if n=0 then 0 else Nat.log2 n+1
theorem nlo(n k:Nat)(h:2^k<=n):cY n=cY (n/2^k)+k:=by
 have hp:0<2^k:=Nat.two_pow_pos k;have hn:n≠0:=by omega
 have hq:n/2^k≠0:=by
  have:=Nat.div_pos h hp;omega
 unfold cY;rw[if_neg hn,if_neg hq];have:Nat.log2 n=Nat.log2 (n/2^k)+k:=by
  have h1:=Nat.log2_self_le hq;have h2:=Nat.lt_log2_self (n:=n/2^k);refine(Nat.log2_eq_iff hn).2 ⟨?_,?_⟩
  ·rw[Nat.pow_add];exact dG (wo _ h1) (Nat.div_mul_le_self n (2^k))
  rw[show Nat.log2 (n/2^k)+k+1=(Nat.log2 (n/2^k)+1)+k by omega,Nat.pow_add];exact(Nat.div_lt_iff_lt_mul hp).1 h2
 omega
theorem nsh(n k:Nat)(h:n<2^k):cY n<=k:=by
 unfold cY;split
 ·omega
 rename_i hn;have:=(Nat.log2_lt hn).2 h;omega
theorem n9h(n:Nat)(h:n≠0):2^(cY n-1)<=n/\n<2^cY n/\1<=cY n:=by
 unfold cY;rw[if_neg h];exact⟨by simpa using Nat.log2_self_le h,Nat.lt_log2_self,by omega⟩
/-! the quotient of 128 bits by 64 -/
theorem nuo(y:Nat)(hy:0<y)(Bo:y<2^64):cY y<=64/\2^63<=y*2^(64-cY y)/\y*2^(64-cY y)<2^64:=by
 have hb:=nsh y 64 Bo;obtain⟨h1,h2,h3⟩:=n9h y aa;refine⟨hb,?_,?_⟩
 ·have:2^(cY y-1)*2^(64-cY y)<=y*2^(64-cY y):=wo _ h1;rw[<-Nat.pow_add,show cY y-1+(64-cY y)=63 by omega]at this;exact this
 have:y*2^(64-cY y)<2^cY y*2^(64-cY y):=Nat.mul_lt_mul_of_pos_right h2 (Nat.two_pow_pos _);rw[<-Nat.pow_add,show cY y+(64-cY y)=64 by omega]at this;exact this
theorem nYm(lo s:Nat)(hs:s<=64):lo*2^s/2^64=lo/2^(64-s):=by
 have:(2:Nat)^64=2^(64-s)*2^s:=by
  have:=Nat.pow_add 2 (64-s) s;rwa[Nat.sub_add_cancel hs]at this
 rw[this,Nat.mul_div_mul_right _ _ (Nat.two_pow_pos s)]
theorem nIo(hi lo y s:Nat)(hs:s<=64)(h:hi<y)(Ic:lo<2^64):(hi*2^s+lo/2^(64-s))*2^64+lo*2^s%2^64=(hi*2^64+lo)*2^s/\hi*2^s+lo/2^(64-s)<y*2^s:=by
 have h1:=Bq (lo*2^s) (2^64);rw[nYm lo s hs]at h1;have e:(hi*2^s+lo/2^(64-s))*2^64+lo*2^s%2^64=(hi*2^64+lo)*2^s:=by
  have e1:(hi*2^64+lo)*2^s=hi*2^s*2^64+lo*2^s:=by
   rw[pE,Nat.mul_right_comm]
  rw[e1];generalize lo*2^s=z at *;generalize hi*2^s=z' at *;omega
 refine⟨e,?_⟩;have h2:(hi*2^64+lo)*2^s<(y*2^s)*2^64:=by
  have:hi*2^64+lo<y*2^64:=by
   have:(hi+1)*2^64<=y*2^64:=wo _ h;rw[pE]at this;omega
  rw[Nat.mul_right_comm];exact Nat.mul_lt_mul_of_pos_right this (Nat.two_pow_pos s)
 all_goals grind
theorem MW(u v Y r1 B:Nat)(hr:(u*B+v/B)%Y=r1):u*(B*B)+v=((u*B+v/B)/Y*B+(r1*B+v%B)/Y)*Y+(r1*B+v%B)%Y:=by
 have h1:=Bq (u*B+v/B) Y;have h2:=Bq (r1*B+v%B) Y;have h3:=Bq v B;all_goals grind
theorem n3b(u v Y r1:Nat)(hr:(u*2^32+v/2^32)%Y=r1):u*2^64+v=((u*2^32+v/2^32)/Y*2^32+(r1*2^32+v%2^32)/Y)*Y+(r1*2^32+v%2^32)%Y:=by
 have:=MW u v Y r1 (2^32) hr;rw[<-this]
theorem n2b(hi lo y s Qn R:Nat)(hR:R<y*2^s)(h:(hi*2^64+lo)*2^s=Qn*(y*2^s)+R):(hi*2^64+lo)/y=Qn/\(hi*2^64+lo)%y=R/2^s:=by
 have hp:0<2^s:=Nat.two_pow_pos s;generalize hi*2^64+lo=N at *;generalize 2^s=p at *;have hy:0<y:=by
  rcases Nat.eq_zero_or_pos y with rfl|h
  ·simp at hR
  exact h
 have e:R=(N-Qn*y)*p:=by
  rw[Nat.sub_mul,Nat.mul_assoc];omega
 have hle:Qn*y<=N:=by
  apply Nat.le_of_mul_le_mul_right (c:=p) _ hp;rw[Nat.mul_assoc];omega
 have hlt:N-Qn*y<y:=by
  rw[e]at hR;exact Nat.lt_of_mul_lt_mul_right hR
 have hd:R/p=N-Qn*y:=by rw[e,Nat.mul_div_cancel _ hp]
 have hN:N=y*Qn+(N-Qn*y):=by rw[Ig y Qn];omega
 rw[hd];constructor
 ·rw[hN,Nat.mul_add_div hy,Nat.div_eq_of_lt hlt];rfl
 have:(y*Qn+(N-Qn*y))%y=N-Qn*y:=by rw[Nat.mul_add_mod,Nat.mod_eq_of_lt hlt]
 rw[<-hN]at this;exact this
structure td (u y1 y0 un q r:Nat):Prop where
 eq:q*y1+r=u
 lt:r<2^32
 ge:(u*2^32+un)/(y1*2^32+y0)<=q
 le:q<=2^32+1
section
variable {u y1 y0 un q r:Nat}
theorem td.start(Bo:2^31<=y1)(aoJ:y1<2^32)(Ie:y0<2^32)(I9:un<2^32)(hu:u<y1*2^32+y0):td u y1 y0 un (u/y1) (u%y1):=by
 have h1:=Nat.mod_lt u (show 0<y1 by omega);refine⟨?_,by omega,nip u y1 y0 un _ Bo Ie I9 rfl,?_⟩
 ·rw[Ig];exact Bq u y1
 apply Nat.le_of_lt_succ;rw[Nat.div_lt_iff_lt_mul aa];rw[Nat.succ_eq_add_one];omega
theorem td.small(Bo:2^31<=y1)(hu:u<y1*2^32+y0)(I9:un<2^32):(u*2^32+un)/(y1*2^32+y0)<2^32:=by
 rw[Nat.div_lt_iff_lt_mul aa];omega
theorem td.stop(h:td u y1 y0 un q r)(Bo:2^31<=y1)(ht:q*y0<=r*2^32+un):(u*2^32+un)/(y1*2^32+y0)=q:=by
 have h1:=nkg u y1 y0 un q r h.eq.symm;have h2:q*(y1*2^32+y0)<=u*2^32+un:=Nat.le_of_not_lt λhl=>by have:=h1.2 hl;omega
 have h3:=(Nat.le_div_iff_mul_le (show 0<y1*2^32+y0 by omega)).2 h2;have:=h.ge;omega
theorem td.more(h:td u y1 y0 un q r)(Bo:2^31<=y1)(hu:u<y1*2^32+y0)(I9:un<2^32)(ht:2^32<=q\/r*2^32+un<q*y0):1<=q/\(q-1)*y1+(r+y1)=u/\(u*2^32+un)/(y1*2^32+y0)<=q-1:=by
 have hlt:(u*2^32+un)/(y1*2^32+y0)<q:=by
  rcases ht with ht|ht
  ·exact lZ (td.small Bo hu I9) ht
  have:=(nkg u y1 y0 un q r h.eq.symm).1 ht;rw[Nat.div_lt_iff_lt_mul aa];exact this
 have hq:1<=q:=Nat.succ_le_of_lt (Nat.lt_of_le_of_lt (cV _) hlt);refine⟨hq,?_,Nat.le_sub_one_of_lt hlt⟩;have:=h.eq;rw[Nat.sub_mul,Nat.one_mul];have:y1<=q*y1:=Nat.le_mul_of_pos_left _ hq;omega
theorem nub(hq:q<=2^32)(hr:2^32<=r)(he:q*y1+r=u)(jw:(u*2^32+un)/(y1*2^32+y0)<=q)(Bo:2^31<=y1)(Ie:y0<2^32):(u*2^32+un)/(y1*2^32+y0)=q:=by
 have h1:=nkg u y1 y0 un q r he.symm;have hb:q*y0<=2^32*(2^32-1):=Nat.mul_le_mul hq aa;have h2:q*(y1*2^32+y0)<=u*2^32+un:=Nat.le_of_not_lt λhl=>by have:=h1.2 hl;omega
 have h3:=(Nat.le_div_iff_mul_le (show 0<y1*2^32+y0 by omega)).2 h2;omega
end
theorem MX(a b i:Nat)(hb:b<2^i):a*2^i|||b=a*2^i+b:=by
 rw[Ig];exact(Nat.two_pow_add_eq_or_of_lt hb a).symm
end Px
namespace Px
open Go
theorem Na{a b A B:Int}(ha:0<=a)(fX:a<=A)(hb:0<=b)(hb1:b<=B):0<=a*b/\a*b<=A*B:=
 ⟨Int.mul_nonneg ha hb,Int.mul_le_mul fX hb1 hb (Int.le_trans ha fX)⟩
theorem ncp(x y:Int)(hx:0<=x)(hy:0<=y)(O9:x<18446744073709551616)(Bo:y<18446744073709551616):(x/4294967296)*(y/4294967296)+((x/4294967296)*(y%4294967296)+(x%4294967296)*(y%4294967296)/4294967296)/4294967296+(((x/4294967296)*(y%4294967296)+(x%4294967296)*(y%4294967296)/4294967296)%4294967296+(x%4294967296)*(y/4294967296))/4294967296=x*y/18446744073709551616:=by
 obtain⟨a,rfl⟩:=Nh hx;obtain⟨b,rfl⟩:=Nh hy;have:=HW a b aa aa;all_goals grind
def qE (x:Int):Int:=cY x.toNat
theorem nke(n k:Nat):((n:Int)/2^k)=((n/2^k:Nat):Int):=by
 rw[Int.natCast_ediv];simp
theorem ngn{x:Int}(k:Nat)(h:2^k<=x):qE x=qE (x/2^k)+k:=by
 have h0:0<=x:=Int.le_trans (Int.le_of_lt (Int.pow_pos zB)) h;obtain⟨n,rfl⟩:=Nh h0;unfold qE;have h':2^k<=n:=by
  have:((2^k:Nat):Int)<=n:=by simpa using h
  exact Int.ofNat_le.1 this
 rw[nke,yB,yB,nlo n k h'];simp
theorem nhm{x:Int}(k:Nat)(h0:0<=x)(h:x<2^k):0<=qE x/\qE x<=k:=by simp_all[nsh,qE]
theorem Db(m s:Nat)(hs:s<=64)(h:m*2^s<18446744073709551616):IntKind.u64.wrap ((m:Int)*2^(min (Int.toNat (s:Int)) IntKind.u64.bits))=((m*2^s:Nat):Int):=by
 rw[show min (Int.toNat (s:Int)) IntKind.u64.bits=s by simp[IntKind.bits]<;>omega];all_goals grind [OW]
theorem Jc(m s:Nat)(hs:s<=64):IntKind.u64.wrap ((m:Int)*2^(min (Int.toNat (s:Int)) IntKind.u64.bits))=((m*2^s%2^64:Nat):Int):=by
 rw[show min (Int.toNat (s:Int)) IntKind.u64.bits=s by simp[IntKind.bits]<;>omega];all_goals grind [nC]
theorem Pe(m s:Nat)(k:Int)(hk:k=((64-s:Nat):Int)):(m:Int).fdiv (2^(min (Int.toNat k) IntKind.u64.bits))=((m/2^(64-s):Nat):Int):=by
 subst hk;rw[show min (Int.toNat ((64-s:Nat):Int)) IntKind.u64.bits=64-s by simp[IntKind.bits]<;>omega,WV,nke]
theorem ntc(m s:Nat)(hs:s<=64):(m:Int).fdiv (2^(min (Int.toNat (s:Int)) IntKind.u64.bits))=((m/2^s:Nat):Int):=by
 rw[show min (Int.toNat (s:Int)) IntKind.u64.bits=s by simp[IntKind.bits]<;>omega,WV,nke]
theorem abK(k:Nat)(hk:k<18446744073709551616):(BitVec.ofInt IntKind.u64.bits (k:Int)).toNat=k:=by
 rw[BitVec.ofInt_natCast,BitVec.toNat_ofNat];exact Nat.mod_eq_of_lt hk
theorem Nc(a b i:Nat)(hb:b<2^i)(h:a*2^i+b<18446744073709551616):IntKind.u64.wrap ((BitVec.ofInt IntKind.u64.bits ((a*2^i:Nat):Int)|||BitVec.ofInt IntKind.u64.bits (b:Int)).toNat:Int)=((a*2^i+b:Nat):Int):=by
 rw[BitVec.toNat_or,abK _ aa,abK _ aa,MX a b i hb];exact OW aa aa
theorem Dc(lo s:Nat)(hs:s<=64)(h:lo<18446744073709551616):lo/2^(64-s)<2^s:=by
 rw[Nat.div_lt_iff_lt_mul (Nat.two_pow_pos _),<-Nat.pow_add,Nat.add_sub_cancel' hs];exact h
theorem noe(a b:Nat):((a:Int)/(b:Int))=((a/b:Nat):Int):=(Int.natCast_ediv a b).symm
theorem Nk(m i:Nat)(k:Int)(hk:k=(i:Int))(hi:i<=64):(m:Int).fdiv (2^(min (Int.toNat k) IntKind.u64.bits))=((m/2^i:Nat):Int):=by
 subst hk;exact ntc m i hi
end Px
namespace Px
open Go Go.RowKit
/-! #### own blocks that are forgotten -/
def Over (n:Nat):ad->Prop
 | []=>True
 |p::H=>n<=p.1/\Over n H
theorem Over.mem{n:Nat}{H:ad}(h:Over n H):∀p∈H,n<=p.1:=by
 exact z6g
section
variable {G:Gh} {L:List World} {H:ad} {W:World}
theorem St.base(h:St Gh.no L H W){w:World}(hw:w∈L)(ho:Over w.heap.size H):Below w.heap.size w W:=
 (h.links w hw).below λk hk hx=>by
  rcases hx with hx|hx
  ·exact hx
  obtain⟨p,hp,rfl⟩:=bY.1 hx;have:=ho.mem p hp;omega
def Fr (G:Gh) (L:List World) (b:Nat):Prop:=G.X b\/ae L b
variable {b:Nat} {o:Obj}
theorem St.dropF(h:St G L ((b,o)::H) W)(ha:Fr G L b):St G L H W where
 ghost:=h.ghost
 vlt:=h.vlt
 xlt:=h.xlt
 links:=λw hw=>(h.links w hw).mono λk hk hx=>by
  rcases hx with hx|hx
  ·exact .inl hx
  simp only[dt,bX]at hx;rcases hx with rfl|hx
  ·rcases ha with ha|ha
   ·exact .inl ha
   have:=ha.mem w hw;omega
  exact .inr hx
 own:=λp hp=>h.own p (List.mem_cons_of_mem _ hp)
 nodup:=λi j p q hi hj e=>by
  have:=h.nodup (i+1) (j+1) p q (by simpa using hi) (by simpa using hj) e;omega
 apart:=λp hp=>h.apart p (List.mem_cons_of_mem _ hp)
theorem St.drop(h:St G L ((b,o)::H) W)(ha:ae L b):St G L H W:=h.dropF (.inr ha)
theorem St.adopt(h:St G L H W)(hb:W.heap[b]? =some o)(ha:aY H b)(hV:¬G.V b):St G L ((b,o)::H) W where
 ghost:=h.ghost
 vlt:=h.vlt
 xlt:=h.xlt
 links:=λw hw=>(h.links w hw).mono λk _ hx=>hx.imp id λhx=>by simp[hx]
 own:=λp hp=>by
  simp only[bX]at hp;rcases hp with rfl|hp
  ·exact hb
  exact h.own p hp
 nodup:=λi j p q hi hj e=>by
  cases i with
  |zero=>
   cases j with
   |zero=>rfl
   |succ j=>
    simp only[Jt,vP,Im]at hi hj;subst hi;exact absurd (bY.2 ⟨q,cP hj,e.symm⟩) ha.mem
  |succ i=>
   cases j with
   |zero=>
    simp only[Jt,vP,Im]at hi hj;subst hj;exact absurd (bY.2 ⟨p,cP hi,e⟩) ha.mem
   |succ j=>
    simp only[Im]at hi hj;rw[h.nodup i j p q hi hj e]
 apart:=λp hp=>by
  simp only[bX]at hp;rcases hp with rfl|hp
  ·exact hV
  exact h.apart p hp
end
/-! #### results -/
section
variable {C:Cx} {fn:Func} {R:Ending->World->Prop} {E:Env} {G:Gh} {L:List World} {H:ad}
def RS (C:Cx) (G:Gh) (L:List World) (H:ad) (E:Env):List ResultVar->List Value->Prop
 | [],vs=>vs=[]
 |r::rs,vs=>∃v us,vs=v::us/\(match r with
  | .tmp t=>look E t=some v
  | .cell t T=>∀a W,Fits E a->St G L H W->(do loadVar T (<-asAddr (a.tmps.getD t undef)):Sem Value).run C.P W= .ok v W)/\RS C G L H E rs us
theorem RS.run:∀{rs:List ResultVar} {vs:List Value},RS C G L H E rs vs->∀(a:Act) (W:World),Fits E a->St G L H W->(rs.mapM λr=>(match r with| .tmp t=>pure (a.tmps.getD t undef)| .cell b t=>do loadVar t (<-asAddr (a.tmps.getD b undef)):Sem Value)).run C.P W= .ok vs W
 | [],vs,h,a,W,_,_=>by cases h;simp
 |r::rs,vs,h,a,W,hF,hS=>by
  obtain⟨v,us,rfl,hr,h⟩:=h;have ih:=RS.run h a W hF hS;cases r with
  |tmp t=>
   have:=hF t v hr;simp only[Act.eval]at this;simp[-Array.getD_eq_getD_getElem?,List.mapM_cons,ih,this]
  |cell b T=>
   have:=hr a W hF hS;rw[List.mapM_cons,Sem.run_bind];simp only[this];simp[-Array.getD_eq_getD_getElem?,ih]
variable {rs:List ResultVar} {vs:List Value}
theorem RS.t{t:Nat}{v:Value}(h:look E t=some v)(k:RS C G L H E rs vs):RS C G L H E (.tmp t::rs) (v::vs):=⟨v,vs,rfl,h,k⟩
variable {cs:Array Value} {b i:Nat} {fr:Nat×Nat}
theorem RS.w{t T off ct:Nat}{v:Value}(hi:H[i]? =some (b,.cells cs ct fr))(hA:ey C.P T false)(hx:look E t=some (ptr b off))(hv:cs[off]? =some v)(k:RS C G L H E rs vs):RS C G L H E (.cell t T::rs) (v::vs):=
 ⟨v,vs,rfl,λa W hF hS=>by
  have:=hF t _ hx;simp only[Act.eval]at this;simp[-Array.getD_eq_getD_getElem?,this,asAddr,nHe hA (hS.own _ (cP hi)) hv],k⟩
theorem RS.wA{t T off ct n:Nat}(hi:H[i]? =some (b,.cells cs ct fr))(hA:ey C.P T true)(hZ:nJ C.P T n)(hx:look E t=some (ptr b off))(hv:off+n<=cs.size)(k:RS C G L H E rs vs):RS C G L H E (.cell t T::rs) (.agg (cut cs off n)::vs):=
 ⟨_,vs,rfl,λa W hF hS=>by
  have:=hF t _ hx;simp only[Act.eval]at this;simp[-Array.getD_eq_getD_getElem?,this,asAddr,nSg hA hZ (hS.own _ (cP hi)) hv],k⟩
theorem RS.r{t T off ct:Nat}{v:Value}{w1:World}(hA:ey C.P T false)(hx:look E t=some (ptr b off))(hm:w1∈L)(hb:w1.heap[b]? =some (.cells cs ct fr))(hG:¬G.X b)(hO:aY H b)(hv:cs[off]? =some v)(k:RS C G L H E rs vs):RS C G L H E (.cell t T::rs) (v::vs):=
 ⟨_,vs,rfl,λa W hF hS=>by
  have:=hF t _ hx;simp only[Act.eval]at this;simp[-Array.getD_eq_getD_getElem?,this,asAddr,nHe hA (hS.old hm hb hG hO) hv],k⟩
theorem RS.n:RS C G L H E [] []:=rfl
def Mf:List Value->Value
 | [v]=>v
 |vs=>.tuple vs.toArray
variable {a:Act} {W:World}
theorem RS.res(h:RS C G L H E rs vs)(hr:fn.results=rs.toArray)(hF:Fits E a)(hS:St G L H W):(results fn a.tmps).run C.P W= .ok (Mf vs) W:=by
 have:=h.run a W hF hS;unfold results;rw[hr,Sem.run_bind,List.mapM_toArray];simp only[Sem.run_map];refine(congrArg (λr=>Result.andThen (Result.andThen r _) _) this).trans ?_
 match vs with
 | []=>rfl
 | [v]=>rfl
 |v::u::vs=>simp[Mf]
theorem bM{e:Exit}(he:e= .ret\/e= .normal)(hr:fn.results=rs.toArray)(h:RS C G L H E rs vs)(hR:∀W,St G L H W->R (.returned (Mf vs)) W):PJ C (bodyPost C.P fn R) e E [] G L H:=λa W _ hD hF hS=>by
 have:bodyPost C.P fn R .ret a W:=⟨hD,_,h.res hr hF hS,hR W hS⟩;rcases he with rfl|rfl<;>exact this
theorem cC{v:Value}{w:World}{e:Exit}(he:e= .ret\/e= .normal)(hr:fn.results=rs.toArray)(h:RS C Gh.no L H E rs vs)(hw:w∈L)(ho:Over w.heap.size H)(hv:Mf vs=v):PJ C (bodyPost C.P fn (aM w v)) e E [] Gh.no L H:=bM he hr h λ_ hS=>⟨by rw[hv],hS.base hw ho⟩
/-! #### a callee that writes a block -/
def Jl (w:World) (v:Value) (b:Nat) (o:Obj):Ending->World->Prop:=λe w'=>e= .returned v/\aH (· =b) w w'/\w'.heap[b]? =some o
variable {o:Obj}
theorem n5l{w:World}(h:w.heap[b]? =some o):St Gh.no [w] [(b,o)] w where
 ghost:=trivial
 vlt:=λ_ h=>h.elim
 xlt:=λ_ h=>h.elim
 links:=λw' hw=>by simp at hw;subst hw;exact aH.refl _ _
 own:=λp hp=>by simp at hp;subst hp;exact h
 nodup:=λi j p q hi hj _=>by
  have h1:=(gX.1 hi).1;have h2:=(gX.1 hj).1;simp at h1 h2;omega
 apart:=λ_ _ h=>h.elim
end
section
variable {C:Cx} {Q:aZ} {E:Env} {D:List Deferred} {G:Gh} {L:List World} {H:ad} {ops:Array Oper} {l:List Oper}
variable {d T ty f:Nat} {pos:String} {aC:Array Edge} {g:Option (Nat×Bool)} {x y:Operand} {xs:List Operand} {vs:List Value} {eo:Array Nat}
theorem Bu{v:Value}{cap:List Value}(hx:ev E x=some (.func (.func f) #[] cap.toArray))(az:eg C.P f)(hw:nl ops E g=some true)(hN:Nat.blt d C.N=true)(ha:iV E xs=some vs)(hc:∀W,St G L H W->Calls C.P f (vs++cap).toArray W (aM W v))(k:OJ C ops Q l ((d,v)::E) D G L H):OJ C ops Q (⟨some d,.call ⟨.value x,xs.toArray,eo⟩,ty,pos,aC,g⟩::l) E D G L H:=
 nI rfl hw hx ha zJ az λa W iW hD hF hS=>(hc W hS).mono (by
  rintro e W' ⟨rfl,hb⟩;exact k (a.put (some d) v) W' z7 z5 (hF.put _ z6) (hS.step hb))
variable {b i:Nat} {o:Obj}
theorem VW{v:Value}{first cap:List Value}{o':Obj}(hi:H[i]? =some (b,o))(hx:ev E x=some (.func (.func f) first.toArray cap.toArray))(az:eg C.P f)(hw:nl ops E g=some true)(hN:Nat.blt d C.N=true)(ha:iV E xs=some vs)(hc:∀W,St G L H W->W.heap[b]? =some o->Calls C.P f (first++vs++cap).toArray W (Jl W v b o'))(k:OJ C ops Q l ((d,v)::E) D G L (H.set i (b,o'))):OJ C ops Q (⟨some d,.call ⟨.value x,xs.toArray,eo⟩,ty,pos,aC,g⟩::l) E D G L H:=
 nI rfl hw hx ha zJ az λa W iW hD hF hS=>(hc W hS (hS.own _ (cP hi))).mono (by
  rintro e W' ⟨rfl,hk,hb⟩;exact k (a.put (some d) v) W' z7 z5 (hF.put _ z6) (hS.put hi hk hb))
variable {H':ad}
theorem OJ.reH(e:H=H')(k:OJ C ops Q l E D G L H'):OJ C ops Q l E D G L H:=by rw[e];exact k
theorem CJ.reH{c:Code}(e:H=H')(k:CJ C c Q E D G L H'):CJ C c Q E D G L H:=by rw[e];exact k
theorem PJ.reH{e':Exit}(e:H=H')(k:PJ C Q e' E D G L H'):PJ C Q e' E D G L H:=by rw[e];exact k
theorem PJ.drop{e':Exit}(ha:ae L b)(k:PJ C Q e' E D G L H):PJ C Q e' E D G L ((b,o)::H):=λa W hN hD hF hS=>k a W hN hD hF (hS.drop ha)
variable {e:Nat}
/-! #### values -/
theorem iQ{base:Option Addr}{n c:Nat}{t:Nat}(hU:C.P.underlying t=some (.slice e))(hx:ev E x=some (.slice base n c)):RV C G L H E (.call ⟨.builtin .len,#[x],#[t]⟩) (.int .i64 (n:Int)):=λd ty pos aC g a W hF _=>by
 simp[execOp,hF.ev hx,resolve,invoke,Deferred.ofValue,builtin,Builtin.len_,run_underlying hU,goInt]
end
section
variable {C:Cx} {Q:aZ} {E:Env} {D:List Deferred} {G:Gh} {L:List World} {H:ad} {ops:Array Oper} {l:List Oper}
variable {d T ty f:Nat} {pos:String} {aC:Array Edge} {g:Option (Nat×Bool)} {x y:Operand} {xs:List Operand} {vs:List Value} {eo:Array Nat}
def MY (E:Env):List (Nat×Operand)->Option (List (Nat×Value))
 | []=>some []
 |(i,x)::ps=>match ev E x,MY E ps with
  |some v,some vs=>some ((i,v)::vs)
  |_,_=>none
theorem TZ{a:Act}(h:Fits E a):∀(ps:List (Nat×Operand)) (vs:List (Nat×Value)),MY E ps=some vs->ps.map (λ(i,x)=>(i,a.eval x))=vs
 | [],vs,e=>by cases e;rfl
 |(i,x)::ps,vs,e=>by
  simp only[MY]at e;split at e
  ·rename_i v us hv hus;cases e
   simp[h.ev hv,TZ h ps us hus]
  cases e
theorem HX(xs:List Value):∀(cs:Array Value) (off k:Nat),(xs.zipIdx k).foldl (λcs (c,j)=>cs.setIfInBounds (off+j) c) cs=setCells cs (off+k) xs:=by
 induction xs with
 |nil=>intro cs off k;rfl
 |cons x xs ih=>intro cs off k;simp only[List.zipIdx_cons,List.foldl_cons,setCells];exact ih _ off (k+1)
theorem nCp(xs cs:Array Value)(off:Nat):xs.zipIdx.foldl (λcs (c,j)=>cs.setIfInBounds (off+j) c) cs=setCells cs off xs.toList:=by
 rw[<-Array.foldl_toList,Array.toList_zipIdx];exact HX xs.toList cs off 0
def jm:List Value->Nat->List Value->List Value
 | [],_,_=>[]
 |c::cs,0,[]=>c::cs
 |_::cs,0,x::xs=>x::jm cs 0 xs
 |c::cs,n+1,xs=>c::jm cs n xs
theorem n1h(cs:List Value)(n:Nat):jm cs n []=cs:=by
 induction cs generalizing n with
 |nil=>cases n<;>rfl
 |cons c cs ih=>cases n with
  |zero=>rfl
  |succ n=>simp[jm,ih]
theorem HY(cs:List Value)(x:Value)(xs:List Value):∀n,jm (cs.set n x) (n+1) xs=jm cs n (x::xs):=by
 induction cs with
 |nil=>intro n;cases n<;>rfl
 |cons c cs ih=>intro n;cases n with
  |zero=>rfl
  |succ n=>simp only[dB,jm];rw[ih]
theorem nU(xs:List Value):∀(cs:Array Value) (off:Nat),(setCells cs off xs).toList=jm cs.toList off xs:=by induction xs<;>grind [n1h,setCells,HY]
theorem HZ(cs xs:Array Value)(h:cs.size=xs.size):setCells cs 0 xs.toList=xs:=by
 apply Array.ext';rw[nU];have key:∀(l r:List Value),l.length=r.length->jm l 0 r=r:=by
  intro l;induction l with
  |nil=>intro r h;simp at h;have:=kX h.symm;subst this;rfl
  |cons c l ih=>intro r h;cases r with
   |nil=>simp at h
   |cons x r=>simp only[jm];rw[ih r Bp]
 exact key _ _ Bp
variable {cs:Array Value} {b i:Nat}
theorem gK{t n:Nat}{v:Value}(hi:H[i]? =some (b,.cells cs t (0,0)))(hZ:nJ C.P T n)(hw:nl ops E g=some true)(hx:ev E x=some (ptr b 0))(hy:ev E y=some v)(hv:v.cells.size=n)(hn:cs.size=n)(h1:aV v.cells.toList=true)(k:OJ C ops Q l E D G L (H.set i (b,.cells v.cells t (0,0)))):OJ C ops Q (⟨none,.store T x y,ty,pos,aC,g⟩::l) E D G L H:=
 jP hi hZ hw hx hy hv aa h1 (by rw[HZ cs v.cells aa];exact k)
def O0 (pl:Nat->Option (Nat×Nat)):List Value->List (Nat×Value)->Option (List Value)
 |cs,[]=>some cs
 |cs,(i,v)::ps=>match pl i with
  |none=>none
  |some (off,n)=>match Nat.beq v.cells.size n&&Nat.ble (off+n) cs.length with
   |true=>O0 pl (jm cs off v.cells.toList) ps
   |false=>none
theorem T0{pl:Nat->Option (Nat×Nat)}:∀{ps:List (Nat×Value)} {cs:Array Value} {ds:List Value},O0 pl cs.toList ps=some ds->Instr.fill pl cs ps=some ds.toArray
 | [],cs,ds,h=>by simp only[O0,vP]at h;subst h;rfl
 |(i,v)::ps,cs,ds,h=>by
  simp only[O0]at h;unfold Instr.fill;cases hp:pl i with
  |none=>rw[hp]at h;simp at h
  |some q=>
   obtain⟨off,n⟩:=q;rw[hp]at h;simp only at h ⊢;split at h
   ·rename_i hb;simp only[oh,Nat.beq_eq,Nat.ble_eq]at hb;have h1:v.cells.size=n:=hb.1;have h2:off+n<=cs.size:=by simpa using hb.2
    rw[if_neg oI,nCp];exact T0 (by rw[nU];exact h)
   simp at h
def Ak:Nat->List Value->List (Nat×Value)
 |_,[]=>[]
 |k,v::vs=>(k,v)::Ak (k+1) vs
def nY:List Value->List Value
 | []=>[]
 |v::vs=>v.cells.toList++nY vs
def T3 (m:Nat):List Value->Bool
 | []=>true
 |v::vs=>Nat.beq v.cells.size m&&T3 m vs
theorem nxd(a b c xs:List Value)(h:xs.length=b.length):jm (a++(b++c)) a.length xs=a++(xs++c):=by
 induction a with
 |nil=>
  simp only[ef,fb];induction b generalizing xs with
  |nil=>simp at h;subst h;simp[n1h]
  |cons y b ih=>
   cases xs with
   |nil=>simp at h
   |cons x xs=>simp only[gi,jm];rw[ih xs Bp]
 |cons y a ih=>simp only[gi,dC,jm];rw[ih]
theorem nMe(m:Nat):∀(vs:List Value) (k:Nat) (a c:List Value),T3 m vs=true->a.length=k*m->c.length=vs.length*m->O0 (λi=>some (i*m,m)) (a++c) (Ak k vs)=some (a++nY vs)
 | [],k,a,c,_,_,hc=>by
  have:c=[]:=kX (by simpa using hc);subst this;rfl
 |v::vs,k,a,c,hs,ha,hc=>by
  simp only[T3,oh,Nat.beq_eq]at hs;simp only[dC,pE,Nat.one_mul]at hc;simp only[Ak,O0];have hv:v.cells.toList.length=m:=by simpa using hs.1
  obtain⟨b,c',rfl,hb⟩:∃b c',c=b++c'/\b.length=m:=⟨c.take m,c.drop m,(AH m c).symm,by simp;omega⟩;have ht:(Nat.beq v.cells.size m&&Nat.ble (k*m+m) (a++(b++c')).length)=true:=by
   simp only[oh,Nat.beq_eq,Nat.ble_eq,ck]at *;omega
  rw[ht];simp only;rw[<-ha,nxd a b c' _ aa];simp only[ck]at hc;have:=nMe m vs (k+1) (a++v.cells.toList) c' hs.2 (by rw[ck,pE];omega) aa;rw[iP]at this;rw[this,nY,iP]
def sS (P:Program):List Field->List (Nat×Nat)->Prop
 | [],ps=>ps=[]
 |f::fs,ps=>∃n qs,ps=(f.offset,n)::qs/\nJ P f.type n/\sS P fs qs
theorem sS.n{P:Program}:sS P [] []:=rfl
theorem sS.c{P:Program}{fi:Field}{fs:List Field}{n:Nat}{qs:List (Nat×Nat)}(h:nJ P fi.type n)(k:sS P fs qs):sS P (fi::fs) ((fi.offset,n)::qs):=⟨n,qs,rfl,h,k⟩
theorem sS.run{P:Program}(W:World):∀{fs:List Field} {ps:List (Nat×Nat)},sS P fs ps->(fs.mapM λf=>Functor.map (Prod.mk f.offset) (sizeOf f.type):Sem _).run P W= .ok ps W
 | [],ps,h=>by cases h;simp
 |f::fs,ps,h=>by
  obtain⟨n,qs,rfl,hn,h⟩:=h;simp[List.mapM_cons,hn W,sS.run W h]
variable {ps:List (Nat×Operand)} {z:Value}
theorem zl{fs:List Field}{vs:List (Nat×Value)}{pl:List (Nat×Nat)}{cs:List Value}(hU:C.P.underlying T=some (.struct fs.toArray))(hz:Af C.P T z)(hp:sS C.P fs pl)(ha:MY E ps=some vs)(hf':O0 (pl[·]?) z.cells.toList vs=some cs):RV C G L H E (.build T ps.toArray) (.agg cs.toArray):=λd ty pos aC g a W hF _=>by
 have hf:=T0 hf';have h2:(ps.toArray).map (λ(i,x)=>(i,a.eval x))=vs.toArray:=by rw[C8,TZ hF ps vs ha]
 have h3:=hp.run W;simp[execOp,h2,Instr.build,hz W,run_underlying hU,List.mapM_toArray,h3,hf]
variable {e m:Nat}
theorem Hp{n:Nat}{vs:List (Nat×Value)}{cs:List Value}(hU:C.P.underlying T=some (.array n e))(hz:Af C.P T z)(hp:nJ C.P e m)(ha:MY E ps=some vs)(hf':O0 (λi=>some (i*m,m)) z.cells.toList vs=some cs):RV C G L H E (.build T ps.toArray) (.agg cs.toArray):=λd ty pos aC g a W hF _=>by
 have hf:=T0 hf';have h2:(ps.toArray).map (λ(i,x)=>(i,a.eval x))=vs.toArray:=by rw[C8,TZ hF ps vs ha]
 simp[execOp,h2,Instr.build,hz W,run_underlying hU,hp W,hf]
variable {a:Act} {W:World}
theorem nzd{P:Program}{n:Nat}{vs:List (Nat×Value)}(hU:P.underlying T=some (.slice e))(hp:nJ P e m)(hz:Af P e z)(ha:ps.map (λ(i,x)=>(i,a.eval x))=vs)(T4:Nat.ble (n*m) 16777216=true)(hf:Instr.fill (λi=>some (i*m,m)) ((Array.range (n*m)).map (λj=>((if n*m=0 then #[]else z.cells)[j%(if n*m=0 then #[]else z.cells).size]!))) vs=some cs):(execOp a.eval ⟨some d,.buildSlice T n ps.toArray,ty,pos,aC,g⟩).run P W= .ok (.value (.slice (some ⟨W.heap.size,0,none⟩) n n)) (W.alloc (.cells cs e (0,0))):=by
 have h2:(ps.toArray).map (λ(i,x)=>(i,a.eval x))=vs.toArray:=by rw[C8,ha]
 have abM:¬(n*m>2^24):=by have:=dO T4;omega
 by_cases h0:n*m=0
 ·rw[if_pos h0]at hf;simp[execOp,h2,Instr.buildSlice,run_underlying hU,hp W,newRow,newObj];rw[if_neg (by simpa using abM)];simp[h0]at hf ⊢;simp[hf,Sem.run]
 rw[if_neg h0]at hf;simp only[execOp,h2,Instr.buildSlice,Sem.run_bind,run_underlying hU,hp W,Result.andThen,if_neg abM,if_neg h0,hz W,Sem.run_pure,hf,newRow,newObj];simp[Sem.run]
theorem nZg{α:Type}(n:Nat)(f:Nat->α):((Array.range n).map f).toList.length=n:=by simp
theorem qN{n:Nat}{vs:List (Nat×Value)}(hU:C.P.underlying T=some (.slice e))(hp:nJ C.P e m)(hz:Af C.P e z)(hw:nl ops E g=some true)(hN:Nat.blt d C.N=true)(ha:MY E ps=some vs)(T4:Nat.ble (n*m) 16777216=true)(hs:vs=Ak 0 (vs.map (·.2)))(hl:vs.length=n)(hm:T3 m (vs.map (·.2))=true)(k:∀(b:Nat) (w1:World),w1.heap[b]? =some (.cells (nY (vs.map (·.2))).toArray e (0,0))->ae L b->aY H b->¬G.X b->w1.heap.size=b+1->OJ C ops Q l ((d,.slice (some ⟨b,0,none⟩) n n)::E) D G (w1::L) H):OJ C ops Q (⟨some d,.buildSlice T n ps.toArray,ty,pos,aC,g⟩::l) E D G L H:=
 qB zJ hw hN λa W hF hS=>⟨_,_,_,_,nzd hU hp hz (TZ hF ps vs ha) T4 (T0 (by
  have:=nMe m (vs.map (·.2)) 0 [] ((Array.range (n*m)).map (λj=>((if n*m=0 then #[]else z.cells)[j%(if n*m=0 then #[]else z.cells).size]!))).toList hm zJ (by rw[nZg,eG,hl]);rw[<-hs,ef,ef]at this;exact this)),(hS.step (Y5 W _)).snap,
  k W.heap.size _ (heap_alloc_new W _) hS.sizes hS.offNew hS.mNew zJ⟩
theorem ug{n:Nat}{K:IntKind}{i:Int}{v:Value}(hU:C.P.underlying T=some (.array n e))(hA:ey C.P e false)(hZ:nJ C.P e m)(hx:ev E x=some (.agg cs))(hy:ev E y=some (.int K i))(h0:0<=i)(h1:i<n)(hv:cs[i.toNat*m]? =some v):RV C G L H E (.index T x y) v:=λd ty pos aC g a W hF _=>by
 simp[execOp,hF.ev hx,hF.ev hy,Instr.index,asIntOf,run_underlying hU,h0,h1,hZ W,part,hA W,hv]
end
/-! #### numbers of 32 bits -/
abbrev u32 (x:BitVec 32):Value:=.int .u32 (x.toNat:Int)
theorem My(x:BitVec 32):IntKind.u32.wrap (x.toNat:Int)=(x.toNat:Int):=by
 rw[n2e];have:=x.isLt;omega
theorem Cp(x:BitVec 32):BitVec.ofInt IntKind.u32.bits (x.toNat:Int)=x:=by
 show BitVec.ofInt 32 (x.toNat:Int)=x;all_goals grind
section
variable {C:Cx} {E:Env} {G:Gh} {L:List World} {H:ad} {T U:Nat} {x y:Operand} {a b:BitVec 32}
theorem iN(hx:ev E x=some (u32 a))(hy:ev E y=some (u32 b)):RV C G L H E (.binOp .add T x y U) (u32 (a+b)):=
 RV.re (pw hx hy) (congrArg (Value.int .u32) (by rw[n2e,BitVec.toNat_add];omega))
theorem kr(hx:ev E x=some (u32 a))(hy:ev E y=some (u32 b)):RV C G L H E (.binOp .xor T x y U) (u32 (a^^^b)):=
 RV.re (yu hx hy) (congrArg (Value.int .u32) (by rw[Cp,Cp];exact My (a^^^b)))
theorem yo(hx:ev E x=some (u32 a))(hy:ev E y=some (u32 b)):RV C G L H E (.binOp .and T x y U) (u32 (a&&&b)):=
 RV.re (HL hx hy) (congrArg (Value.int .u32) (by rw[Cp,Cp];exact My (a&&&b)))
theorem Aq(hx:ev E x=some (u32 a))(hy:ev E y=some (u32 b)):RV C G L H E (.binOp .or T x y U) (u32 (a|||b)):=
 RV.re (An hx hy) (congrArg (Value.int .u32) (by rw[Cp,Cp];exact My (a|||b)))
theorem Dq{K':IntKind}(j:Nat)(hj:j<=32){n:Int}(hn:n=(j:Int))(hx:ev E x=some (u32 a))(hy:ev E y=some (.int K' n)):RV C G L H E (.binOp .shl T x y U) (u32 (a<<<j)):=by
 subst hn;refine RV.re (qF hx hy (Int.natCast_nonneg _)) (congrArg (Value.int .u32) ?_);have e:min (Int.toNat (j:Int)) IntKind.u32.bits=j:=by simp[IntKind.bits];omega
 rw[e,n2e,BitVec.toNat_shiftLeft,Nat.shiftLeft_eq];simp
theorem ym{K':IntKind}(j:Nat)(hj:j<=32){n:Int}(hn:n=(j:Int))(hx:ev E x=some (u32 a))(hy:ev E y=some (.int K' n)):RV C G L H E (.binOp .shr T x y U) (u32 (a>>>j)):=by
 subst hn;refine RV.re (lJ hx hy (Int.natCast_nonneg _)) (congrArg (Value.int .u32) ?_);have e:min (Int.toNat (j:Int)) IntKind.u32.bits=j:=by simp[IntKind.bits];omega
 rw[e,WV,BitVec.toNat_ushiftRight,Nat.shiftRight_eq_div_pow];simp
theorem Pp{S T':Nat}{ds:TypeDesc}{K:IntKind}{m:Int}(HO:C.P.underlying S=some ds)(hT:C.P.underlying T'=some (.int .u32))(hx:ev E x=some (.int K m)):RV C G L H E (.convert S T' x) (u32 (BitVec.ofInt 32 m)):=
 RV.re (kq HO hT hx) (congrArg (Value.int .u32) (by rw[n2e,BitVec.toNat_ofInt];omega))
end
def Ao (v:BitVec 32) (n:Nat):BitVec 32:=v>>>n|||v<<<(32-n)
/-! #### cells by a function -/
def cf (n:Nat) (f:Nat->Value):Array Value:=((List.range n).map f).toArray
theorem Nr(n:Nat)(f:Nat->Value)(i:Nat)(h:i<n):(cf n f)[i]? =some (f i):=by simp[cf,h]
theorem Dw(n:Nat)(f:Nat->Value):(cf n f).size=n:=by simp[cf]
def Jp {α:Type} (f:Nat->α) (i:Nat) (v:α):Nat->α:=λj=>if j=i then v else f j
theorem V6(n:Nat)(f:Nat->Value)(i:Nat)(v:Value):setCells (cf n f) i [v]=cf n (Jp f i v):=by
 apply Array.ext';rw[nU];simp only[cf];apply Cy;intro j;have key:∀(l:List Value) (k:Nat),jm l k [v]=l.set k v:=by
  intro l;induction l with
  |nil=>intro k;cases k<;>rfl
  |cons c l ih=>intro k;cases k with
   |zero=>simp[jm,n1h]
   |succ k=>simp[jm,ih]
 all_goals grind [Jp]
theorem Uk{n:Nat}{f g:Nat->Value}(h:∀i,i<n->f i=g i):cf n f=cf n g:=by grind [cf]
/-! #### SHA-256, as_ numbers -/
def al7:List (BitVec 32):=[1116352408,1899447441,3049323471,3921009573,961987163,1508970993,2453635748,2870763221,3624381080,310598401,607225278,1426881987,1925078388,2162078206,2614888103,3248222580,3835390401,4022224774,264347078,604807628,770255983,1249150122,1555081692,1996064986,2554220882,2821834349,2952996808,3210313671,3336571891,3584528711,113926993,338241895,666307205,773529912,1294757372,1396182291,1695183700,1986661051,2177026350,2456956037,2730485921,2820302411,3259730800,3345764771,3516065817,3600352804,4094571909,275423344,430227734,506948616,659060556,883997877,958139571,1322822218,1537002063,1747873779,1955562222,2024104815,2227730452,2361852424,2428436474,2756734187,3204031479,3329325298]
def kk (i:Nat):BitVec 32:=al7.getD i 0
def al8:List (BitVec 32):=[1779033703,3144134277,1013904242,2773480762,1359893119,2600822924,528734635,1541459225]
def hh (i:Nat):BitVec 32:=al8.getD i 0
def Ug (m:Nat->Int) (o:Nat):BitVec 32:=BitVec.ofInt 32 (m o)<<<24|||BitVec.ofInt 32 (m (o+1))<<<16|||BitVec.ofInt 32 (m (o+2))<<<8|||BitVec.ofInt 32 (m (o+3))
def s0 (x:BitVec 32):BitVec 32:=Ao x 7^^^Ao x 18^^^x>>>3
def s1 (x:BitVec 32):BitVec 32:=Ao x 17^^^Ao x 19^^^x>>>10
def fY (m:Nat->Int):Nat->Nat->BitVec 32
 |0=>λ_=>0
 |n+1=>Jp (fY m n) n (if n<16 then Ug m (4*n)else fY m n (n-16)+s0 (fY m n (n-15))+fY m n (n-7)+s1 (fY m n (n-2)))
structure S8 where
 a:BitVec 32
 b:BitVec 32
 c:BitVec 32
 d:BitVec 32
 e:BitVec 32
 f:BitVec 32
 g:BitVec 32
 h:BitVec 32
def chf (e f g:BitVec 32):BitVec 32:=(e&&&f)^^^((~~~ e)&&&g)
def maj (a b c:BitVec 32):BitVec 32:=(a&&&b)^^^(a&&&c)^^^(b&&&c)
theorem Jr(e f g:BitVec 32):g^^^(e&&&(f^^^g))=chf e f g:=by grind [chf]
theorem Js(a b c:BitVec 32):(a&&&b)|||(c&&&(a|||b))=maj a b c:=by grind [maj]
def S8.P (s:S8) (k w:BitVec 32):BitVec 32:=s.h+(Ao s.e 6^^^Ao s.e 11^^^Ao s.e 25)+chf s.e s.f s.g+k+w
def S8.Q (s:S8):BitVec 32:=(Ao s.a 2^^^Ao s.a 13^^^Ao s.a 22)+maj s.a s.b s.c
def S8.step (s:S8) (k w:BitVec 32):S8:=⟨s.P k w+s.Q,s.a,s.b,s.c,s.d+s.P k w,s.e,s.f,s.g⟩
def S8.run (w:Nat->BitVec 32) (s:S8):Nat->S8
 |0=>s
 |n+1=>(S8.run w s n).step (kk n) (w n)
def S8.add (s t:S8):S8:=⟨s.a+t.a,s.b+t.b,s.c+t.c,s.d+t.d,s.e+t.e,s.f+t.f,s.g+t.g,s.h+t.h⟩
def S8.comp (s:S8) (m:Nat->Int):S8:=s.add (s.run (fY m 64) 64)
def S8.at (s:S8):Nat->BitVec 32
 |0=>s.a|1=>s.b|2=>s.c|3=>s.d|4=>s.e|5=>s.f|6=>s.g|_=>s.h
def S8.cells (s:S8):Array Value:=#[u32 s.a,u32 s.b,u32 s.c,u32 s.d,u32 s.e,u32 s.f,u32 s.g,u32 s.h]
def S8.init:S8:=⟨1779033703,3144134277,1013904242,2773480762,1359893119,2600822924,528734635,1541459225⟩
def gJ (n:Nat):Nat:=(n+72)/64
def yq (n:Nat) (m:Nat->Int) (i:Nat):Int:=
 if i<n then m i else if i=n then 128 else if i<64*gJ n-8 then 0 else((8*n/2^(8*(64*gJ n-1-i)):Nat):Int)%256
def sw (n:Nat) (m:Nat->Int):Nat->S8
 |0=>S8.init
 |j+1=>(sw n m j).comp (λi=>yq n m (64*j+i))
def Dy (s:S8) (i:Nat):Int:=((s.at (i/4)).toNat/2^(24-8*(i%4))%256:Nat)
def vo (n:Nat) (m:Nat->Int):Nat->Int:=Dy (sw n m (gJ n))
theorem nln(n:Nat)(m:Nat->Int):∀i,0<=vo n m i/\vo n m i<256:=λi=>by unfold vo Dy;omega
theorem S8.cells_cf(s:S8):s.cells=cf 8 (λi=>u32 (s.at i)):=rfl
theorem S8.cells_at(s:S8)(i:Nat)(h:i<8):s.cells[i]? =some (u32 (s.at i)):=by rw[S8.cells_cf];exact Nr 8 _ i h
theorem OH{α:Type}:∀(H:List α) (i:Nat) (p:α),H[i]? =some p->H.Perm (p::H.eraseIdx i)
 | [],i,p,h=>by simp at h
 |q::H,0,p,h=>by simp at h;subst h;simp
 |q::H,i+1,p,h=>by
  simp only[Im]at h;simp only[yx];exact((OH H i p h).cons q).trans (List.Perm.swap _ _ _)
theorem ncg{α:Type}:∀(H:List α) (i:Nat) (q:α),i<H.length->(H.set i q).Perm (q::H.eraseIdx i)
 | [],i,q,h=>by simp at h
 |r::H,0,q,_=>by simp
 |r::H,i+1,q,h=>by
  simp only[dB,yx];exact((ncg H i q Bp).cons r).trans (List.Perm.swap _ _ _)
section
variable {G:Gh} {L:List World} {H:ad} {W:World}
variable {b i:Nat} {o:Obj}
theorem St.renew(h:St G L H W)(o':Obj)(hi:H[i]? =some (b,o))(ha:ae L b):St G L (H.set i (W.heap.size,o')) (W.alloc o'):=by
 have lk:=(gX.1 hi).1;have hp:H.Perm ((b,o)::H.eraseIdx i):=OH H i _ hi;have h1:=(h.perm hp).drop ha;exact(h1.alloc o').perm (ncg H i _ lk).symm
theorem St.dropAt(h:St G L H W)(hi:H[i]? =some (b,o))(ha:ae L b):St G L (H.eraseIdx i) W:=by
 have lk:=(gX.1 hi).1;have hp:H.Perm ((b,o)::H.eraseIdx i):=OH H i _ hi;exact(h.perm hp).drop ha
end
def Rd (C:Cx) (G:Gh) (L:List World) (H:ad) (size n:Nat) (v:Value) (news:List Value):Prop:=
 ∀W,St G L H W->(Builtin.firstCells size n v).run C.P W= .ok news.toArray W
section
variable {C:Cx} {Q:aZ} {E:Env} {D:List Deferred} {G:Gh} {L:List World} {H:ad} {ops:Array Oper} {l:List Oper}
variable {d T ty f:Nat} {pos:String} {aC:Array Edge} {g:Option (Nat×Bool)} {x y:Operand} {xs:List Operand} {vs:List Value} {eo:Array Nat}
variable {cs:Array Value} {b size:Nat} {fr:Nat×Nat} {W:World}
theorem nrh{P:Program}{off n k c t:Nat}(h:W.heap[b]? =some (.cells cs t fr))(hn:off+n*size<=cs.size):(Builtin.firstCells size n (.slice (some ⟨b,off,none⟩) k c)).run P W= .ok (cut cs off (n*size)) W:=by
 simp only[Builtin.firstCells];rw[nog h hn,ngf]
variable {news:List Value} {i:Nat}
theorem Rd.own{n off k c t:Nat}(hi:H[i]? =some (b,.cells cs t fr))(hn:off+n*size<=cs.size)(he:(cs.toList.drop off).take (n*size)=news):Rd C G L H size n (.slice (some ⟨b,off,none⟩) k c) news:=λW hS=>by rw[nrh (hS.own _ (cP hi)) hn];unfold cut;rw[he]
theorem Rd.old{n off k c t:Nat}{w1:World}(hm:w1∈L)(hb:w1.heap[b]? =some (.cells cs t fr))(hG:¬G.X b)(hO:aY H b)(hn:off+n*size<=cs.size)(he:(cs.toList.drop off).take (n*size)=news):Rd C G L H size n (.slice (some ⟨b,off,none⟩) k c) news:=λW hS=>by rw[nrh (hS.old hm hb hG hO) hn];unfold cut;rw[he]
theorem Rd.nil{c:Nat}:Rd C G L H size 0 (.slice none 0 c) []:=λW _=>by simp[Builtin.firstCells]
theorem Rd.str{s:ByteArray}:Rd C G L H 1 s.size (.string s) (byteCells s):=λW _=>firstCells_string s W
structure oM (C:Cx) (G:Gh) (L:List World) (H:ad) (size tx:Nat) (x:Value) (n:Nat) (news:List Value):Prop where
 kind:(∃e',C.P.underlying tx=some (.slice e'))\/C.P.underlying tx=some .string
 len:∀w':World,(Builtin.lenOf x).run C.P w'= .ok n w'
 rd:Rd C G L H size n x news
 newsLen:news.length=n*size
 one:∀u∈news,u.oneCell'=true
theorem oM.src{tx:Nat}{v:Value}{n:Nat}(h:oM C G L H size tx v n news)(hS:St G L H W):Src C.P size tx v n news W:=
 ⟨h.kind,h.len,h.rd W hS,h.rd W.drew (hS.step (D9 W _)),h.newsLen,h.one⟩
theorem oM.sl{tx e' n c:Nat}{a:Option Addr}(hU:C.P.underlying tx=some (.slice e'))(hr:Rd C G L H size n (.slice a n c) news)(hl:news.length=n*size)(h1:∀u∈news,u.oneCell'=true):oM C G L H size tx (.slice a n c) n news:=⟨.inl ⟨e',hU⟩,λ_=>rfl,hr,hl,h1⟩
theorem nZc(b:Nat):∀(news:List Value) (o:Nat) (W:World) (cs:Array Value) (t:Nat),W.heap[b]? =some (.cells cs t (0,0))->aH (· =b) W (W.setCells b o news)/\(W.setCells b o news).heap[b]? =some (.cells (setCells cs o news) t (0,0))
 | [],o,W,cs,t,h=>⟨aH.refl _ _,h⟩
 |v::vs,o,W,cs,t,h=>by
  obtain⟨h1,h2⟩:=nZc b vs (o+1) (W.setCell ⟨b,o,none⟩ v) _ t (n0g v h);exact⟨(nYg W b o v).trans h1,h2⟩
variable {e m:Nat} {z:Value}
theorem afo{n len cap t tx:Nat}{ti:TypeInfo}{sv:Value}{ys sp:List Value}(hi:H[i]? =some (b,.cells (ys++sp).toArray e (0,0)))(hU:C.P.underlying t=some (.slice e))(qm:C.P.info? e=some ti)(hz:ti.zero=some z)(hm:ti.size=m)(tB:z.cells.size=m)(hw:nl ops E g=some true)(hN:Nat.blt d C.N=true)(hx:ev E x=some (.slice (some ⟨b,0,none⟩) len cap))(hy:ev E y=some sv)(hs:oM C G L H m tx sv n news)(hlen:ys.length=len*m)(vG:sp.length=(cap-len)*m)(Ip:len<=cap)(ha:ae L b)(h63:len+n<=9223372036854775807)(lW:(len+n)*ti.bytes<=140737488355328)(k:∀(b' aR:Nat) (bU:List Value),ae L b'->len+n<=aR->bU.length=(aR-(len+n))*m->OJ C ops Q l ((d,.slice (some ⟨b',0,none⟩) (len+n) aR)::E) D G L (H.set i (b',.cells (ys++news++bU).toArray e (0,0)))):OJ C ops Q (⟨some d,.call ⟨.builtin .append,#[x,y],#[t,tx]⟩,ty,pos,aC,g⟩::l) E D G L H:=
 qB zJ hw hN λa W hF hS=>by
  subst hm;have qn:=hs.src hS;have hb:=hS.own _ (cP hi);have hex:∀{v W'},(Builtin.append_ #[t,tx] ty #[.slice (some ⟨b,0,none⟩) len cap,sv]).run C.P W= .ok v W'->(execOp a.eval ⟨some d,.call ⟨.builtin .append,#[x,y],#[t,tx]⟩,ty,pos,aC,g⟩).run C.P W= .ok (.value v) W':=by
   intro v W' hr;simp[execOp,hF.ev hx,hF.ev hy,resolve,invoke,Deferred.ofValue,builtin,hr]
  have wh:=hs.newsLen;by_cases ig:len+n<=cap
  ·have hle:(len+n)*ti.size<=cap*ti.size:=wo _ ig;have kP:(ys++sp).toArray.size=cap*ti.size:=by
    simp only[qq,ck,hlen,vG];rw[<-pE];congr 1;omega
   rw[pE]at hle;have hr:=run_append_room_src (P:=C.P) W t tx ty e ti hU qm b 0 len cap sv n news qn ig
    (λj hj=>by rw[KB hb];simp only[lE];rw[aJq aa];rfl)
    (λj hj=>by simp[World.frozen?,hb])
   obtain⟨h1,h2⟩:=nZc b news (0+len*ti.size) W _ _ hb;have jQ:(sp.drop (n*ti.size)).length=(cap-(len+n))*ti.size:=by
    rw[BN,vG,<-Nat.sub_mul];congr 1;omega
   have hc:setCells (ys++sp).toArray (0+len*ti.size) news=(ys++news++sp.drop (n*ti.size)).toArray:=by
    exact zxg
   rw[hc]at h2;exact⟨_,_,_,_,hex hr,hS.put hi h1 h2,k b cap _ ha ig jQ⟩
  have hold:(Builtin.firstCells ti.size len (.slice (some ⟨b,0,none⟩) len cap)).run C.P W.drew= .ok ys.toArray W.drew:=by
   exact zSg
  have hr:=run_append_grow_src (P:=C.P) W t tx ty e ti z hU qm hz (some ⟨b,0,none⟩) len cap ys hold sv n news qn aa aa (growslice_fits aa lW);have hg:=grownCap_ge W (len+n) cap e;have gF:=(hS.step (D9 W (W.drawn+1))).renew (.cells ((ys++news).toArray++Builtin.zeroCells z.cells (grownCap W (len+n) cap e-(len+n))) e (0,0)) hi ha;have BM:(Builtin.zeroCells z.cells (grownCap W (len+n) cap e-(len+n))).toList.length=(grownCap W (len+n) cap e-(len+n))*ti.size:=by
   simp[Builtin.zeroCells,tB]
  have hc:(ys++news).toArray++Builtin.zeroCells z.cells (grownCap W (len+n) cap e-(len+n))=(ys++news++(Builtin.zeroCells z.cells (grownCap W (len+n) cap e-(len+n))).toList).toArray:=by
   apply Array.ext';simp
  rw[hc]at gF hr;exact⟨_,_,_,_,hex hr,gF,k W.heap.size _ _ hS.sizes hg BM⟩
def BE (E:Env):Option Operand->Nat->Nat->Prop
 |none,d,l=>l=d
 |some o,_,l=>∃K i,ev E o=some (.int K i)/\i=(l:Int)
variable {a:Act}
theorem BE.val(hF:Fits E a):∀{lo:Option Operand} {d' l:Nat},BE E lo d' l->(lo.map a.eval=none/\l=d')\/∃K,lo.map a.eval=some (.int K (l:Int))
 |none,_,_,h=>.inl ⟨rfl,h⟩
 |some o,_,_,h=>by obtain⟨K,i,h,rfl⟩:=h;exact .inr ⟨K,by simp[hF.ev h]⟩
variable {hi:Option Operand}
theorem npm{P:Program}(hF:Fits E a)(s:Bool){n c l h:Nat}{lo:Option Operand}(hl:BE E lo 0 l)(hh:BE E hi n h)(h1:l<=h)(h2:h<=c):(Instr.sliceBounds s n c (lo.map a.eval) (hi.map a.eval) none).run P W= .ok (l,h,c) W:=by
 rcases hl.val hF with⟨e1,e2⟩|⟨K,e1⟩<;>rcases hh.val hF with⟨f1,f2⟩|⟨K',f1⟩<;>rw[e1,f1]
 ·subst e2;subst f2;simp[Instr.sliceBounds]
 ·subst e2;simp[Instr.sliceBounds,Instr.sliceBound,asIntOf,h2]
 ·subst f2;simp[Instr.sliceBounds,Instr.sliceBound,asIntOf,h1]
 simp[Instr.sliceBounds,Instr.sliceBound,asIntOf,h1,h2]
theorem fM{off n c l h off':Nat}{lo:Option Operand}(hU:C.P.underlying T=some (.slice e))(hZ:nJ C.P e m)(hx:ev E x=some (.slice (some ⟨b,off,none⟩) n c))(hl:BE E lo 0 l)(hh:BE E hi n h)(h1:l<=h)(h2:h<=c)(ho:off'=if c=l then off else off+l*m):RV C G L H E (.slice T x lo hi none) (.slice (some ⟨b,off',none⟩) (h-l) (c-l)):=λd ty pos aC g a W hF _=>by
 subst ho;have:=npm (P:=C.P) (W:=W) hF true hl hh h1 h2;simp[execOp,hF.ev hx,Instr.sliceAt,Instr.slice,run_underlying hU,this,hZ W,TP];split<;>rfl
theorem Du{off n l h off':Nat}{lo:Option Operand}(hU:C.P.underlying T=some (.array n e))(hZ:nJ C.P e m)(hx:ev E x=some (ptr b off))(hl:BE E lo 0 l)(hh:BE E hi n h)(h1:l<=h)(h2:h<=n)(ho:off'=if n=l then off else off+l*m):RV C G L H E (.slice T x lo hi none) (.slice (some ⟨b,off',none⟩) (h-l) (n-l)):=λd ty pos aC g a W hF _=>by
 subst ho;have:=npm (P:=C.P) (W:=W) hF false hl hh h1 h2;simp[execOp,hF.ev hx,Instr.sliceAt,run_underlying hU,Instr.sureAddr,this,hZ W,TP];split<;>rfl
theorem fk{off n c h:Nat}(hU:C.P.underlying T=some (.slice e))(hZ:nJ C.P e m)(hx:ev E x=some (.slice (some ⟨b,off,none⟩) n c))(hh:BE E hi n h)(h2:h<=c):RV C G L H E (.slice T x none hi none) (.slice (some ⟨b,off,none⟩) h c):=fM (l:=0) hU hZ hx rfl hh (cV _) h2 (by split<;>omega)
theorem fp{off n h:Nat}(hU:C.P.underlying T=some (.array n e))(hZ:nJ C.P e m)(hx:ev E x=some (ptr b off))(hh:BE E hi n h)(h2:h<=n):RV C G L H E (.slice T x none hi none) (.slice (some ⟨b,off,none⟩) h n):=Du (l:=0) hU hZ hx rfl hh (cV _) h2 (by split<;>omega)
theorem T5{fn:Fn}{fs xs:List Operand}{us:List Value}(hf:iV E fs=some us)(ha:iV E xs=some vs):RV C G L H E (.makeFunc fn fs.toArray xs.toArray) (.func fn us.toArray vs.toArray):=λd ty pos aC g a W hF _=>by
 have h1:(fs.toArray).map a.eval=us.toArray:=by rw[C8,MN hF fs us hf]
 have h2:(xs.toArray).map a.eval=vs.toArray:=by rw[C8,MN hF xs vs ha]
 simp[execOp,Instr.makeFunc,h1,h2]
theorem ph{a:Addr}(hx:ev E x=some (.pointer (some a))):RV C G L H E (.nilCheck x) (.pointer (some a)):=λd ty pos aC g a' W hF _=>by
 simp[execOp,hF.ev hx]
theorem yn{m:Int}(hx:ev E x=some (.int .i64 m))(h0: -9223372036854775807<=m)(h1:m<=9223372036854775807):RV C G L H E (.unOp .neg T x) (.int .i64 (-m)):=λd ty pos aC g a W hF _=>by
 simp[execOp,hF.ev hx,Op.unary,Op.intArith,TL (n:= -m) aa aa]
theorem T6{base:Option Addr}{n c t:Nat}(hU:C.P.underlying t=some (.slice e))(hx:ev E x=some (.slice base n c)):RV C G L H E (.call ⟨.builtin .cap,#[x],#[t]⟩) (.int .i64 (c:Int)):=λd ty pos aC g a W hF _=>by
 simp[execOp,hF.ev hx,resolve,invoke,Deferred.ofValue,builtin,Builtin.cap_,run_underlying hU,goInt]
theorem Ui{t off n k len cap tx t':Nat}{sv:Value}(hi:H[i]? =some (b,.cells cs t' (0,0)))(hU:C.P.underlying t=some (.slice e))(hZ:nJ C.P e m)(hw:nl ops E g=some true)(hN:Nat.blt d C.N=true)(hx:ev E x=some (.slice (some ⟨b,off,none⟩) len cap))(hy:ev E y=some sv)(hlen:∀w':World,(Builtin.lenOf sv).run C.P w'= .ok k w')(hn:n=min k len)(hs:Rd C G L H m n sv news)(hl:off+news.length<=cs.size)(h1:aV news=true)(kk:OJ C ops Q l ((d,.int .i64 (n:Int))::E) D G L (H.set i (b,.cells (setCells cs off news) t' (0,0)))):OJ C ops Q (⟨some d,.call ⟨.builtin .copy,#[x,y],#[t,tx]⟩,ty,pos,aC,g⟩::l) E D G L H:=
 qB zJ hw hN λa W hF hS=>by
  have hb:=hS.own _ (cP hi);obtain⟨W',hr,hk,ew⟩:=nJc (P:=C.P) (off:=off) news 0 cs W hb aa h1;refine⟨_,W',_,_,?_,hS.put hi hk ew,kk⟩;have hrd:=hs W hS;subst hn;simp[execOp,hF.ev hx,hF.ev hy,resolve,invoke,Deferred.ofValue,builtin,Builtin.copy_,run_underlying hU,hlen W,hZ W,Nat.min_def]at hrd ⊢;split<;>simp_all[goInt]
theorem Wh{t ln cp:Nat}{kl kc:IntKind}{ti:TypeInfo}(hU:C.P.underlying t=some (.slice e))(qm:C.P.info? e=some ti)(hz:ti.zero=some z)(h1:z.cells=#[z])(hm:ti.size=1)(hw:nl ops E g=some true)(hN:Nat.blt d C.N=true)(hx:ev E x=some (.int kl (ln:Int)))(hy:ev E y=some (.int kc (cp:Int)))(Ip:ln<=cp)(hb:ti.bytes*cp<=281474976710656)(h63:cp<=9223372036854775807)(k:∀(b:Nat),ae L b->aY H b->OJ C ops Q l ((d,.slice (some ⟨b,0,none⟩) ln cp)::E) D G L ((b,.cells (cf cp (λ_=>z)) e (0,0))::H)):OJ C ops Q (⟨some d,.makeSlice t x y,ty,pos,aC,g⟩::l) E D G L H:=
 qB zJ hw hN λa W hF hS=>by
  have hr:=run_make (P:=C.P) W t e ti z hU qm hz kl kc ln cp (Int.natCast_nonneg _) aa (by
   have:((ti.bytes*cp:Nat):Int)<=281474976710656:=by omega
   rwa[Int.natCast_mul]at this) aa
  simp only[yB,hm,xq]at hr;have hc:madeCells z.cells cp=cf cp (λ_=>z):=by
   apply Array.ext';rw[h1];simp[madeCells,cf,Nat.mod_one]
  rw[hc]at hr;exact⟨_,_,_,_,by simp[execOp,hF.ev hx,hF.ev hy,hr],hS.alloc _,k W.heap.size hS.sizes hS.offNew⟩
variable {ps:List (Nat×Operand)}
theorem iS{n:Nat}{vs:List (Nat×Value)}(hU:C.P.underlying T=some (.slice e))(hp:nJ C.P e m)(hz:Af C.P e z)(hw:nl ops E g=some true)(hN:Nat.blt d C.N=true)(ha:MY E ps=some vs)(T4:Nat.ble (n*m) 16777216=true)(hs:vs=Ak 0 (vs.map (·.2)))(hl:vs.length=n)(hm:T3 m (vs.map (·.2))=true)(k:∀(b:Nat),ae L b->aY H b->OJ C ops Q l ((d,.slice (some ⟨b,0,none⟩) n n)::E) D G L ((b,.cells (nY (vs.map λp:Nat×Value=>p.2)++[]).toArray e (0,0))::H)):OJ C ops Q (⟨some d,.buildSlice T n ps.toArray,ty,pos,aC,g⟩::l) E D G L H:=
 qB zJ hw hN λa W hF hS=>⟨_,_,_,_,nzd hU hp hz (TZ hF ps vs ha) T4 (T0 (by
  have:=nMe m (vs.map (·.2)) 0 [] ((Array.range (n*m)).map (λj=>((if n*m=0 then #[]else z.cells)[j%(if n*m=0 then #[]else z.cells).size]!))).toList hm zJ (by rw[nZg,eG,hl]);rw[<-hs,ef,ef]at this;exact this)),hS.alloc _,by have:=k W.heap.size hS.sizes hS.offNew;rw[dV]at this;exact this⟩
variable {o:Obj}
theorem OJ.dropAt(hi:H[i]? =some (b,o))(ha:ae L b)(k:OJ C ops Q l E D G L (H.eraseIdx i)):OJ C ops Q l E D G L H:=λa W hN hD hF hS=>k a W hN hD hF (hS.dropAt hi ha)
theorem CJ.dropAt{c:Code}(hi:H[i]? =some (b,o))(ha:ae L b)(k:CJ C c Q E D G L (H.eraseIdx i)):CJ C c Q E D G L H:=λa W hN hD hF hS=>k a W hN hD hF (hS.dropAt hi ha)
theorem PJ.dropAt{e':Exit}(hi:H[i]? =some (b,o))(ha:ae L b)(k:PJ C Q e' E D G L (H.eraseIdx i)):PJ C Q e' E D G L H:=λa W hN hD hF hS=>k a W hN hD hF (hS.dropAt hi ha)
end
theorem n2h{P:Program}(W:World)(t tx ty e:TypeId)(i:TypeInfo)(z:Value)(ht:P.underlying t=some (.slice e))(htx:P.underlying tx=some (.int .i64))(hi:P.info? e=some i)(hz:i.zero=some z)(AA:z.cells=#[z])(hs:i.size=1)(hb:i.bytes=1)(n:Nat)(h0:0<n)(h1:n<=1099511627776):(Builtin.append_ #[t,tx] ty #[.slice none 0 0,.int .i64 (n:Int)]).run P W= .ok (.slice (some ⟨W.heap.size,0,none⟩) n (grownCap W n 0 e)) (W.drew.alloc (.cells (cf (grownCap W n 0 e) (λ_=>z)) e (0,0))):=by
 have hw:IntKind.i64.wrap (n:Int)=(n:Int):=TL aa aa;have h48:¬(281474976710656<Builtin.nextslicecap n 0*i.bytes):=by
  have:=growslice_fits (need:=n) (old:=0) (bytes:=i.bytes) aa (by rw[hb];omega);omega
 have jw:=grownCap_ge W n 0 e;have amc:∀k,Builtin.zeroCells z.cells k=cf k (λ_=>z):=by
  intro k;apply Array.ext';rw[AA];simp[Builtin.zeroCells,cf,Nat.mod_one]
 have amd:cf n (λ_=>z)++cf (grownCap W n 0 e-n) (λ_=>z)=cf (grownCap W n 0 e) (λ_=>z):=by
  apply Array.ext';simp only[cf,Array.toList_append];rw[List.map_const',List.map_const',List.map_const'];simp only[List.length_range];rw[List.replicate_append_replicate];congr 1;omega
 rw[<-amd];simp[Builtin.append_,run_underlying ht,run_underlying htx,Go.sizeOf,typeInfo,zeroValue,hi,hz,asInt,asIntOf,hw,hs,hb,show ¬((n:Int)<0) by omega,show ¬(281474976710656<(n:Int)) by omega,Nat.not_le.2 h0,
  show ¬(9223372036854775807<(n:Int)) by omega,Question.forced,Builtin.firstCells,newRow,grownCap,amc,show n≠0 by omega]at h48 ⊢
 intro h;omega
structure tu where
 b:Nat
 off:Nat
 n:Nat
 c:Nat
 m:Nat->Int
def tu.val (s:tu):Value:=.slice (some ⟨s.b,s.off,none⟩) s.n s.c
def kW (n:Nat) (m:Nat->Int):List Value:=(List.range n).map λi=>.int .u8 (m i)
def tu.l (s:tu):List Value:=kW s.n s.m
def tu.At (s:tu) (w:World):Prop:=∃cs t fr,w.heap[s.b]? =some (.cells cs t fr)/\s.off+s.n<=cs.size/\∀i,i<s.n->cs[s.off+i]? =some (.int .u8 (s.m i))
theorem DA(n:Nat)(m:Nat->Int):(kW n m).length=n:=by simp[kW]
theorem DB(n:Nat)(m:Nat->Int):∀u∈kW n m,u.oneCell'=true:=by
 intro u hu;obtain⟨i,_,rfl⟩:=bY.1 hu;rfl
variable {cs:Array Value}
theorem n7j{off n:Nat}{m:Nat->Int}(h:off+n<=cs.size)(hm:∀i,i<n->cs[off+i]? =some (.int .u8 (m i))):(cs.toList.drop off).take (n*1)=kW n m:=by
 apply Cy;all_goals grind [kW,DA]
def nF:List tu->List Value
 | []=>[]
 |s::ss=>s.l++nF ss
theorem nWo(ss:List tu)(s:tu):nF (ss++[s])=nF ss++s.l:=by
 induction ss with
 |nil=>simp[nF]
 |cons x ss ih=>simp[nF,ih]
theorem n2f(ss:List tu)(j:Nat)(h:j<ss.length):nF (ss.take (j+1))=nF (ss.take j)++ss[j].l:=by
 rw[Ni h,nWo]
theorem npg(ss:List tu):∀j,(nF (ss.take j)).length<=(nF ss).length:=by
 induction ss with
 |nil=>intro j;simp[nF]
 |cons x ss ih=>intro j;cases j with
  |zero=>simp[nF]
  |succ j=>simp only[Yp,nF,ck];have:=ih j;omega
section
variable {C:Cx} {Q:aZ} {E:Env} {D:List Deferred} {G:Gh} {L:List World} {H:ad} {ops:Array Oper} {l:List Oper}
variable {d T ty f:Nat} {pos:String} {aC:Array Edge} {g:Option (Nat×Bool)} {x y:Operand}
variable {e:Nat} {z:Value}
theorem Wt{n t tx:Nat}{ti:TypeInfo}(hU:C.P.underlying t=some (.slice e))(hUx:C.P.underlying tx=some (.int .i64))(qm:C.P.info? e=some ti)(hz:ti.zero=some z)(AA:z.cells=#[z])(hs:ti.size=1)(hb:ti.bytes=1)(hw:nl ops E g=some true)(hN:Nat.blt d C.N=true)(hx:ev E x=some (.slice none 0 0))(hy:ev E y=some (.int .i64 (n:Int)))(h0:0<n)(h1:n<=1099511627776)(k:∀(b cap:Nat),ae L b->aY H b->n<=cap->OJ C ops Q l ((d,.slice (some ⟨b,0,none⟩) n cap)::E) D G L ((b,.cells (cf cap (λ_=>z)) e (0,0))::H)):OJ C ops Q (⟨some d,.call ⟨.builtin .append,#[x,y],#[t,tx]⟩,ty,pos,aC,g⟩::l) E D G L H:=
 qB zJ hw hN λa W hF hS=>by
  have hr:=n2h (P:=C.P) W t tx ty e ti z hU hUx qm hz AA hs hb n h0 h1;have gF:=(hS.step (D9 W (W.drawn+1))).alloc (.cells (cf (grownCap W n 0 e) (λ_=>z)) e (0,0));refine⟨_,_,_,_,?_,gF,k W.heap.size _ hS.sizes hS.offNew (grownCap_ge W n 0 e)⟩;simp[execOp,hF.ev hx,hF.ev hy,resolve,invoke,Deferred.ofValue,builtin,hr]
variable {vs:List Value}
theorem Pw{f:Nat}{xs:List Operand}{eo:Array Nat}{α:Type}{v:α->Value}{bo:α->Nat×Obj}{Φ:α->Prop}(az:eg C.P f)(hw:nl ops E g=some true)(hN:Nat.blt d C.N=true)(ha:iV E xs=some vs)(hc:∀W,St G L H W->Calls C.P f vs.toArray W (cN W v (λx w1=>W.heap.size<=(bo x).1/\Φ x/\w1.heap[(bo x).1]? =some (bo x).2)))(k:∀x,ae L (bo x).1->aY H (bo x).1->Φ x->OJ C ops Q l ((d,v x)::E) D G L (bo x::H)):OJ C ops Q (⟨some d,.call ⟨.value (.func f),xs.toArray,eo⟩,ty,pos,aC,g⟩::l) E D G L H:=
 nI rfl hw rfl ha zJ az λa W iW hD hF hS=>(hc W hS).mono (by
  rintro e W' ⟨x,rfl,hb,h1,h2,h3⟩;have mh:aY H (bo x).1:=aY.of_mem λhm=>by
   obtain⟨p,hp,e⟩:=bY.1 hm;have:=hS.lt p hp;omega
  have tI:ae L (bo x).1:=ae.of_mem λw hw=>dG (hS.links w hw).size h1;exact k x tI mh h2 (a.put (some d) (v x)) W' z7 z5 (hF.put _ z6)
   ((hS.step hb).adopt h3 mh (λhv=>by have:=hS.vlt _ hv;omega)))
def sB (s:ByteArray) (i:Nat):Int:=((s.data[i]?.getD 0).toNat:Int)
theorem n5m(s:ByteArray)(c i:Nat)(h:i<s.size):(bytesRow s c)[0+i]? =some (.int .u8 (sB s i)):=by
 have h':i<s.data.size:=h;rw[lE];unfold bytesRow sB;all_goals grind
theorem n8k(s:ByteArray)(c:Nat):s.size<=(bytesRow s c).size:=by
 unfold bytesRow;simp only[Array.size_append,Array.size_map];exact Nat.le_add_right _ _
theorem Ns{src dst:Nat}{s:ByteArray}(hs:C.P.underlying src=some .string)(hd:C.P.underlying dst=some (.slice e))(he:C.P.underlying e=some (.int .u8))(hw:nl ops E g=some true)(hN:Nat.blt d C.N=true)(hx:ev E x=some (.string s))(k:∀(b cap:Nat) (w1:World) (cs:Array Value) (fr:Nat×Nat),w1.heap[b]? =some (.cells cs e fr)->ae L b->aY H b->¬G.X b->w1.heap.size=b+1->s.size<=cap->0+s.size<=cs.size->(∀i,i<s.size->cs[0+i]? =some (.int .u8 (sB s i)))->OJ C ops Q l ((d,.slice (some ⟨b,0,none⟩) s.size cap)::E) D G (w1::L) H):OJ C ops Q (⟨some d,.convert src dst x,ty,pos,aC,g⟩::l) E D G L H:=
 qB zJ hw hN λa W hF hS=>by
  have hr:=run_bytes_of_string (P:=C.P) W src dst e s hs hd he;have gF:=((hS.step (D9 W (W.drawn+1))).step (Y5 _ (.cells (bytesRow s (grownCap W s.size 0 e)) e ((bytesRow s (grownCap W s.size 0 e)).size,(bytesRow s (grownCap W s.size 0 e)).size+1)))).snap;refine⟨_,_,_,_,?_,gF,k W.heap.size _ _ _ _ (heap_alloc_new W.drew _) hS.sizes hS.offNew hS.mNew zJ (grownCap_ge W s.size 0 e) (by rw[lE];exact n8k s _) (λi hi=>n5m s _ i hi)⟩;simp[execOp,hF.ev hx,hr]
variable {ps:List (Nat×Operand)} {m:Nat}
theorem yD{n:Nat}{vs:List (Nat×Value)}(hU:C.P.underlying T=some (.array n e))(hz:Af C.P T z)(hp:nJ C.P e m)(ha:MY E ps=some vs)(hs:vs=Ak 0 (vs.map (·.2)))(hl:z.cells.size=vs.length*m)(hm:T3 m (vs.map (·.2))=true):RV C G L H E (.build T ps.toArray) (.agg (nY (vs.map (·.2))).toArray):=λd ty pos aC g a W hF _=>by
 have hf:=T0 (pl:=λi=>some (i*m,m)) (ps:=vs) (cs:=z.cells) (ds:=nY (vs.map (·.2))) (by
  have:=nMe m (vs.map (·.2)) 0 [] z.cells.toList hm zJ NN;rw[<-hs,ef,ef]at this;exact this)
 have h2:(ps.toArray).map (λ(i,x)=>(i,a.eval x))=vs.toArray:=by rw[C8,TZ hF ps vs ha]
 simp[execOp,h2,Instr.build,hz W,run_underlying hU,hp W,hf]
variable {hi:Option Operand}
theorem Wo(hU:C.P.underlying T=some (.slice e))(hZ:nJ C.P e m)(hx:ev E x=some (.slice none 0 0))(hh:BE E hi 0 0):RV C G L H E (.slice T x none hi none) (.slice none 0 0):=λd ty pos aC g a W hF _=>by
 have:=npm (P:=C.P) (W:=W) hF true (lo:=none) (hi:=hi) (n:=0) (c:=0) (l:=0) (h:=0) rfl hh (ak _) (ak _);simp only[Option.map_none]at this;simp[execOp,hF.ev hx,Instr.sliceAt,Instr.slice,run_underlying hU,this,hZ W]
end
end Px
