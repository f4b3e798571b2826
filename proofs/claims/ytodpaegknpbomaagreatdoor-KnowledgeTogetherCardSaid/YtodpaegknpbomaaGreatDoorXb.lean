/- Memory, operations, iterators, slices, maps. No condition beyond those stated. -/
import Derived.Test.YtodpaegknpbomaaGreatDoorXa
import Derived.OrdersIn
import Derived.Deep.AppendSrc
import Derived.Laws.MakeOwn
import Derived.Laws.IdiomStrings
set_option linter.unusedSimpArgs false
set_option linter.unusedVariables false
set_option linter.unusedSectionVars false
set_option linter.unnecessarySimpa false
set_option maxRecDepth 20000
set_option maxHeartbeats 8000000
namespace Px
open Go Go.RowKit
def X (C:Cx) (ops:Array Oper) (G:Gh) (L:List World) (H:ad) (E:Env) (Pre:World->Prop) (o:Oper) (Φ:Value->World->Prop):Prop:=
 ∀(a:Act) (W:World) (K:Act->World->Prop) (Q:aY),a.tmps.size=C.N->Fits E a->St G L H W->Pre W->
  (∀v W',Below W.heap.size W W'->Φ v W'->K (a.put o.dst v) W')->
  if Region.wanted o (yielded ops a.tmps)then o.wpIn (FW C.r) 0 C.P a W K Q else K (a.put o.dst undef) W
section
variable {C:Cx} {G:Gh} {L:List World} {H:ad} {E:Env} {Pre:World->Prop} {ops:Array Oper} {Φ:Value->World->Prop}
variable {d ty:Nat} {op:Op} {pos:String} {aC:Array Edge} {g:Option (Nat×Bool)}
theorem X.val{v:Value}(hnd:ME op=true)(hw:nl ops E g=some true)(hr:RV C G L H E op v)(hΦ:∀W,Pre W->Φ v W):X C ops G L H E Pre ⟨some d,op,ty,pos,aC,g⟩ Φ:=by
 intro a W K Q _ hF hS hP hk;rw[if_pos (Ba hF hw)];refine⟨λ_ _=>trivial,?_⟩;rw[Oper.semAt_eq _ _ _ (HH hnd),hr d ty pos aC g a W hF hS,Oper.uponIn_value];exact hk v W (Below.refl _ _) (hΦ W hP)
theorem X.v{v:Value}(hr:RV C G L H E op v)(hnd:ME op=true:=by rfl)(hw:nl ops E g=some true:=by rfl):X C ops G L H E Pre ⟨some d,op,ty,pos,aC,g⟩ (λu _=>u=v):=X.val hnd hw hr λ_ _=>rfl
theorem X.off(hw:nl ops E g=some false)(hΦ:∀W,Pre W->Φ undef W):X C ops G L H E Pre ⟨some d,op,ty,pos,aC,g⟩ Φ:=by
 intro a W K Q _ hF hS hP hk;all_goals grind [Ba,Below.refl]
variable {f:Nat} {xs:List Operand} {vs:List Value} {eC:Array Nat}
variable {a:Act} {K:Act->World->Prop} {I:Array Bool->Act->World->Prop} {cs:Array Value} {H':ad} {ps:List (Nat×Operand)} {rs:List ResultVar} {news:List Value} {L':List World} {b e i m size:Nat} {fr:Nat×Nat} {o:Obj} {hi:Option Operand} {z:Value} {W:World} {R:World->Ending->World->Prop}
theorem X.call(az:ew C.P f)(hw:nl ops E g=some true)(ha:ja E xs=some vs)(hc:∀W,St G L H W->Pre W->Calls C.P f vs.toArray W (R W))(hR:∀W e W',R W e W'->Pre W->∃v,e= .returned v/\Below W.heap.size W W'/\Φ v W'):X C ops G L H E Pre ⟨some d,.call ⟨.value (.func f),xs.toArray,eC⟩,ty,pos,aC,g⟩ Φ:=by
 intro a W K Q _ hF hS hP hk;rw[if_pos (Ba hF hw)];refine⟨λ_ _=>trivial,?_⟩;have hr:(execOp a.eval ⟨some d,.call ⟨.value (.func f),xs.toArray,eC⟩,ty,pos,aC,g⟩).run C.P W= .ok (.enter f vs.toArray) W:=by
  have h2:(xs.toArray).map a.eval=vs.toArray:=by rw[CZ,MF hF xs vs ha]
  simp only[execOp,resolve,Act.eval,Deferred.ofValue,h2];simp[invoke,az _ W]
 rw[Oper.semAt_eq _ _ _ zI,hr,Oper.uponIn_enter];refine⟨by simp,I5.2 ((hc W hS hP).mono ?_)⟩;intro e W' h;obtain⟨v,rfl,hb,hv⟩:=hR W e W' h hP;exact hk v W' hb hv
theorem nf{v:Value}(az:ew C.P f)(hw:nl ops E g=some true)(ha:ja E xs=some vs)(hc:∀W,St G L H W->Pre W->Calls C.P f vs.toArray W (aL W v))(hΦ:∀W,Φ v W):X C ops G L H E Pre ⟨some d,.call ⟨.value (.func f),xs.toArray,eC⟩,ty,pos,aC,g⟩ Φ:=
 X.call az hw ha hc λ_ _ W' h _=>⟨v,h.1,h.2,hΦ W'⟩
end
theorem nkl{p q:Nat->Bool}:∀(l:List Nat),(∀k∈l,q k=true->p k=true)->l.countP q<=l.countP p:=
 by intro x;induction x<;>(intros;grind)
theorem nkg{p q:Nat->Bool}:∀(l:List Nat),(∀k∈l,q k=true->p k=true)->(∃k∈l,p k=true/\q k=false)->l.countP q<l.countP p
 | [],_,h=>by obtain⟨k,hk,_⟩:=h;cases hk
 |k::l,h,hx=>by
  have amJ:=nkl (p:=p) (q:=q) l λj hj=>h j (by simp[hj]);simp only[List.countP_cons];obtain⟨j,hj,hp,hq⟩:=hx;rcases bX.1 hj with rfl|hj
  ·simp[hp,hq];omega
  have ih:=nkg l (λj hj=>h j (by simp[hj])) ⟨j,hj,hp,hq⟩;cases hqk:q k with
  |false=>simp;omega
  |true=>simp[h k zI hqk];omega
def Bc (N:Nat):List Oper->Bool
 | []=>true
 |o::l=>(match o.dst with|some d=>Nat.blt d N|none=>true)&&Bc N l
theorem nip{N:Nat}:∀{l:List Oper},Bc N l=true->∀o∈l,∀d,o.dst=some d->d<N:=
 by intro x;induction x<;>(intros;grind [Bc,nT])
def Td:List Nat->Nat->Nat
 | [],_=>0
 |c::ch,j=>match Nat.beq c j with|true=>0|false=>Td ch j+1
theorem nze:∀(ch:List Nat) (k c:Nat),ch[k]? =some c->ch.Nodup->Td ch c=k:=
 by intro x;induction x<;>(intros;grind [Td,MC,TI])
def n4i:List Nat->Bool
 | []=>true
 |c::ch=>ch.all (λj=> !Nat.beq c j)&&n4i ch
theorem HN:∀{ch:List Nat},n4i ch=true->ch.Nodup:=
 by intro x;induction x<;>(intros;grind [n4i,MC])
variable {a:Act} {K:Act->World->Prop}
theorem n2i{F:Fence}{n:Nat}{P:Program}{Q Q':aY}{o:Oper}{w:World}{K':Act->World->Prop}(h:∀a w,K a w->K' a w)(hq:∀c a w,Q (.panic c) a w->Q' (.panic c) a w)(hl:LetsOut Q->LetsOut Q')(hh:o.wpIn F n P a w K Q):o.wpIn F n P a w K' Q':=by
 unfold Oper.wpIn at *;refine⟨hh.1,?_⟩;have hh:=hh.2;generalize (o.semAt F.round a.eval).run P w=r at *;cases r with
 |ok x w'=>
  cases x<;>simp only[Oper.uponIn]at hh ⊢ <;>
   first
    |exact h _ _ hh
    |exact⟨hh.1,CallsIn.mono hh.2 (λe w'' he=>by cases e<;>first|exact h _ _ he|exact hq _ _ _ he|exact hl he)⟩
    |exact⟨hh.1,RowsIn.mono hh.2 (λ_ _ he=>h _ _ he)⟩
    |exact⟨hh.1,RoundIn.mono hh.2 (λe w'' he=>by cases e<;>first|exact h _ _ he|exact hq _ _ _ he|exact hl he)⟩
 |halt x w'=>cases x<;>simp only[Oper.uponIn]at hh ⊢ <;>first|exact hh|exact hq _ _ _ hh
def Qn (Q:aY) (K:Act->World->Prop):aY:=λe a w=>match e with| .normal=>K a w|e=>Q e a w
/-! ### regions that draw their order -/
/-- what an operation stands behind -/
def vG (o:Oper):List Nat:=(o.after.toList.filter (λe=>Region.binds .any e)).map (·.on)
def oI (n0:Nat) (o:Oper):List Nat:=(vG o).filter (Nat.ble n0)
def VM (acc:List Nat):List Nat->Nat
 | []=>0
 |j::js=>(1<<<j)|||acc.getD j 0|||VM acc js
def MK:List Oper->List Nat->List Nat
 | [],acc=>acc
 |o::l,acc=>MK l (acc++[VM acc (vG o)])
theorem nJi(acc:List Nat)(b:Nat):∀js,(VM acc js).testBit b=true->∃d∈js,d=b\/(acc.getD d 0).testBit b=true
 | [],h=>by simp[VM]at h
 |j::js,h=>by
  simp only[VM,Nat.testBit_or,Bool.or_eq_true]at h;rcases h with(h|h)|h
  ·refine⟨j,by simp,.inl ?_⟩;rw[Nat.testBit_shiftLeft]at h;simp only[oS,decide_eq_true_eq]at h;obtain⟨h1,h2⟩:=h;have:b-j=0:=by
    rcases Nat.eq_zero_or_pos (b-j)with h0|h0
    ·exact h0
    rw[Nat.testBit_one_eq_true_iff_self_eq_zero]at h2;omega
   omega
  ·exact⟨j,by simp,.inr h⟩
  obtain⟨d,hd,h⟩:=nJi acc b js h;exact⟨d,by simp[hd],h⟩
theorem nTf(ops:List Oper)(D:Nat->Prop)(hD:∀(k:Nat) (o:Oper),ops[k]? =some o->D k->∀j∈vG o,D j)(hlt:∀(i:Nat) (o:Oper),ops[i]? =some o->∀j∈vG o,j<i):∀(l:List Oper) (acc:List Nat),ops.drop acc.length=l->(∀(k:Nat) (o:Oper),ops[k]? =some o->k<acc.length->(∀j∈vG o,D j)->∀j,(acc.getD k 0).testBit j=true->D j)->∀(k:Nat) (o:Oper),ops[k]? =some o->(∀j∈vG o,D j)->∀j,((MK l acc).getD k 0).testBit j=true->D j
 | [],acc,hl,hP=>by
  intro k o ho hr j hj;have:=acq.1 hl;exact hP k o ho (by have:=(iv.1 ho).1;omega) hr j hj
 |o::l,acc,hl,hP=>by
  have ho0:ops[acc.length]? =some o:=by
   have:(ops.drop acc.length)[0]? =some o:=by rw[hl];rfl
   simpa using this
  refine nTf ops D hD hlt l (acc++[VM acc (vG o)]) (by rw[cy,<-List.drop_drop,hl];rfl) ?_;intro k o' w6 hk hr j hj;simp only[cy,List.length_singleton]at hk;by_cases e:k=acc.length
  ·subst e;rw[ho0]at w6;cases w6;obtain⟨d,hd,h⟩:=nJi acc j _ (by simpa using hj);have alu:=hlt _ _ ho0 d hd;rcases h with rfl|h
   ·exact hr _ hd
   have dx:ops[d]? =some (ops[d]'(by have:=(iv.1 ho0).1;omega)):=kK _;exact hP d _ dx alu (hD d _ dx (hr _ hd)) j h
  exact hP k o' w6 aa hr j (by rwa[List.getD_eq_getElem?_getD,SE aa,<-List.getD_eq_getElem?_getD]at hj)
abbrev Sp:=List (Option Value)
abbrev TW:=List (Option Value)->List World->ad->Prop
def ml (sp:Sp) (ch:List Nat) (cv:List (Option Value)) (j:Nat):Value:=
 match sp[j]? with
 |some (some u)=>u
 |_=>((cv[Td ch j]?).join).getD undef
def cP (ops:Array Oper) (sp:Sp) (ch:List Nat) (cv:List (Option Value)):List Nat->Env
 | []=>[]
 |j::js=>match(ops[j]?).bind (·.dst)with
  |some d=>(d,ml sp ch cv j)::cP ops sp ch cv js
  |none=>cP ops sp ch cv js
section
variable {C:Cx} {Q:aY} {E:Env} {D:List Deferred} {G:Gh} {L:List World} {H:ad} {l:List Oper} {ops:Array Oper} {sp:Sp} {ch:List Nat} {cv:List (Option Value)} {Ph:TW} {n0:Nat}
theorem nVe(d:Nat):∀js:List Nat,(look (cP ops sp ch cv js) d=none/\∀j∈js,(ops[j]?).bind (·.dst)≠some d)\/∃j∈js,(ops[j]?).bind (·.dst)=some d/\look (cP ops sp ch cv js) d=some (ml sp ch cv j)
 | []=>.inl ⟨rfl,by simp⟩
 |j::js=>by
  have ih:=nVe d js;unfold cP;cases e:(ops[j]?).bind (·.dst)with
  |none=>grind
  |some t=>
   by_cases ht:t=d
   ·subst ht;exact .inr ⟨j,by simp,e,by simp[look,MC]⟩
   simp only[look,TI ht];grind
theorem nLg(js:List Nat)(h:∀j∈js,∀d,(ops[j]?).bind (·.dst)=some d->a.eval (.tmp d)=ml sp ch cv j):Fits (cP ops sp ch cv js) a:=λt v ht=>by
 rcases nVe (ops:=ops) (sp:=sp) (ch:=ch) (cv:=cv) t js with h1|⟨j,hj,hd,h1⟩
 ·rw[h1.1]at ht;cases ht
 rw[h1]at ht;cases ht;exact h j hj t hd
def Hg (rq:List Nat) (k:Nat) (cv:List (Option Value)):Bool:=((cv[k]?).join).isNone&&rq.all λj=>((cv[j]?).join).isSome
def ML (ops:List Oper) (ch:List Nat):Nat->List (List Nat)->Bool
 |_,[]=>true
 |k,rq::ky=>(match ch[k]? with|some c=>rq.all (λj=>match ch[j]? with|some c'=>((MK ops []).getD c 0).testBit c'|none=>false)|none=>false)&&ML ops ch (k+1) ky
theorem HO(ops:List Oper)(ch:List Nat):∀(ky:List (List Nat)) (n:Nat),ML ops ch n ky=true->∀(k c:Nat) (rq:List Nat),ky[k]? =some rq->ch[n+k]? =some c->∀j∈rq,∃c',ch[j]? =some c'/\((MK ops []).getD c 0).testBit c'=true
 | [],_,_,k,c,rq,h,_=>by simp at h
 |r::ky,n,h,k,c,rq,hk,hc=>by
  simp only[ML,oS]at h;cases k with
  |zero=>
   simp at hk;subst hk;rw[Nat.add_zero]at hc;rw[hc]at h;intro j hj;have h1:=h.1;simp only[sP]at h1;have:=h1 j hj;split at this
   ·rename_i c' Ad;exact⟨c',Ad,this⟩
   cases this
  |succ k=>exact HO ops ch ky (n+1) h.2 k c rq (by simpa using hk) (by rw[show n+1+k=n+(k+1) by omega];exact hc)
def Mc (ch ds:List Nat) (cv:List (Option Value)):Bool:=ds.all λj=> !(ch.any λc=>Nat.beq c j)||((cv[Td ch j]?).join).isSome
def Bd (ch:List Nat):Nat->Sp->Bool
 |_,[]=>true
 |i,u::sp=>(match u with|none=>ch.any (λc=>Nat.beq c i)|some _=>ch.all (λc=> !Nat.beq c i))&&Bd ch (i+1) sp
theorem nIj(ch:List Nat):∀(sp:Sp) (i:Nat),Bd ch i sp=true->∀j u,sp[j]? =some u->(i+j∈ch↔u=none)
 | [],_,_,j,u,h=>by simp at h
 |u'::sp,i,h,j,u,hj=>by
  simp only[Bd,oS]at h;cases j with
  |zero=>
   cases u'<;>simp at hj<;>subst hj<;>simp at h ⊢
   ·exact h.1
   exact λhm=>by have:=h.1 _ hm;simp at this
  |succ j=>rw[show i+(j+1)=i+1+j by omega];exact nIj ch sp (i+1) h.2 j u (by simpa using hj)
def Be (N:Nat) (l:List Oper) (n0 nA:Nat) (ch:List Nat) (sp:Sp) (ky:List (List Nat)) (E:Env):Bool:=
 Nat.beq sp.length nA&&(Nat.ble n0 nA&&(Nat.ble nA l.length&&(Nat.beq ky.length ch.length&&(n4i ch&&(Bd ch 0 sp&&(ML l ch 0 ky&&(Bc N l&&(ch.all (λc=>Nat.ble n0 c&&Nat.blt c nA)&&
 ((List.range l.length).all (λi=>match l[i]? with|none=>true|some o=>(vG o).all λj=>Nat.blt j i)&&
 ((List.range l.length).all (λi=>Nat.blt i nA||(List.range nA).all λj=>((MK l []).getD i 0).testBit j)&&
 (List.range nA).all λi=>Nat.blt i n0||match(l.toArray[i]?).bind (·.dst)with
  |none=>true
  |some d=>(look E d).isNone&&(List.range nA).all λj=>Nat.beq i j||(Nat.blt j n0||match(l.toArray[j]?).bind (·.dst)with|none=>true|some d'=> !Nat.beq d d')))))))))))
def MM (C:Cx) (ops:Array Oper) (Q:aY) (n:Nat) (a:Act) (W:World):Prop:=∀cX:Array Bool,cX.size=ops.size->(∀i,i<ops.size->(cX.getD i false=true↔i<n))->∀fuel:Nat,(List.range ops.size).countP (λi=> !cX.getD i false)<=fuel->wpAnyIn (FW C.r) 0 C.P .any ops Q fuel cX a W
def DJ (C:Cx) (ops:Array Oper) (Q:aY) (n:Nat) (E:Env) (D:List Deferred) (G:Gh) (L:List World) (H:ad):Prop:=∀a W,a.tmps.size=C.N->a.defers=D->Fits E a->St G L H W->MM C ops Q n a W
theorem CJ.dj{id:Nat}(hm:C.P.follows .mixedOrders=true)(h:DJ C l.toArray Q 0 E D G L H):CJ C (.region id l.toArray true) Q E D G L H:=by
 intro a W abw hD hF hS;refine wpIn_region_draw λt=>?_;simp only[Region.schedule,hm,Bool.true_or,if_true];refine wpAnyIn_sound l.toArray.size t _ a _ (h a _ abw hD hF (hS.step (D2 W _)) (Array.replicate l.toArray.size false) zI (λi hi=>?_) _ (dR List.countP_le_length zI));simp only[Array.getD_eq_getD_getElem?,Array.getElem?_replicate];split<;>simp
theorem nZh(cX:Array Bool)(i:Nat)(mh:cX.size=l.length):i∈Region.ready .any l.toArray cX↔∃o,l[i]? =some o/\cX.getD i false=false/\∀j∈vG o,cX.getD j false=true:=by
 simp only[Region.ready,uU,tE,oS,Bool.not_eq_true',vG,bW];constructor
 ·rintro⟨hi,hf,hr⟩;have U5:i<l.length:=by simpa using hi
  refine⟨l[i],kK U5,by simp[show i<cX.size by omega]at hf ⊢;exact hf,?_⟩;rintro _ ⟨e,he,rfl⟩;rw[DI,kK U5]at hr;simp only[JP,Option.getD_some,Array.all_eq_true_iff_forall_mem,Bool.or_eq_true,Bool.not_eq_true']at hr;simp only[Array.mem_toList_iff]at he;rcases hr e he.1 with h|h
  ·rw[he.2]at h;cases h
  exact h
 rintro⟨o,ho,hf,hr⟩;have U5:=(iv.1 ho).1;refine⟨by simpa using U5,by simp[show i<cX.size by omega]at hf ⊢;exact hf,?_⟩;rw[DI,ho];simp only[JP,Option.getD_some,Array.all_eq_true_iff_forall_mem,Bool.or_eq_true,Bool.not_eq_true'];intro e he;by_cases hb:Region.binds .any e=true
 ·exact .inr (hr _ ⟨e,by simpa[hb]using he,rfl⟩)
 exact .inl (by simpa using hb)
variable {I:Array Bool->Act->World->Prop}
theorem npl{Dn:Array Bool->Prop}(hb:∀(i:Nat) (o:Oper),l[i]? =some o->∀j∈vG o,j<i)(hs:∀cX a W,I cX a W->cX.size=l.length)(hd:∀cX a W,I cX a W->Dn cX->∀fuel,(List.range l.length).countP (λi=> !cX.getD i false)<=fuel->wpAnyIn (FW C.r) 0 C.P .any l.toArray Q fuel cX a W)(hn:∀cX a W,I cX a W->¬Dn cX->(∃k,k<l.length/\cX.getD k false=false)/\∀(i:Nat) (o:Oper),l[i]? =some o->cX.getD i false=false->(∀j∈vG o,cX.getD j false=true)->wpOpIn (FW C.r) 0 C.P l.toArray Q i (λa' W'=>I (cX.setIfInBounds i true) a' W') a W):∀(fuel:Nat) (cX:Array Bool) a W,I cX a W->(List.range l.length).countP (λi=> !cX.getD i false)<=fuel->wpAnyIn (FW C.r) 0 C.P .any l.toArray Q fuel cX a W:=by
 intro fuel;induction fuel with
 |zero=>
  intro cX a W hI hc;refine hd _ _ _ hI (Classical.byContradiction λh=>?_) _ hc;obtain⟨⟨k,hk,hf⟩,-⟩:=hn _ _ _ hI h;simpa[hf]using List.countP_eq_zero.1 (Nat.le_zero.1 hc) k (tE.2 hk)
 |succ fuel ih=>
  intro cX a W hI hc;by_cases ck:Dn cX
  ·exact hd _ _ _ hI ck _ hc
  obtain⟨⟨k,hk,SH⟩,hn⟩:=hn _ _ _ hI ck;have mh:=hs _ _ _ hI;refine⟨λhr=>?_,λi hi=>?_⟩
  ·have all:∀i,i<l.length->cX.getD i false=true:=by
    intro i;induction i using Nat.strongRecOn with
    |_ i ih2=>
     intro hi;refine Classical.byContradiction λhf=>?_;have:=(nZh cX i mh).2 ⟨_,kK hi,by simpa using hf,λj hj=>by
      have:=hb i _ (kK hi) j hj;exact ih2 j this aa⟩
     rw[hr]at this;cases this
   rw[all k hk]at SH;cases SH
  obtain⟨o,ho,hf,hr⟩:=(nZh cX i mh).1 hi;have lB:=(iv.1 ho).1;refine wpOpIn_mono (λa' W' hI'=>ih _ a' W' hI' (Nat.le_of_lt_succ (mx (nkg _ (λk _ hk=>?_) ⟨i,tE.2 lB,by simp[hf],?_⟩) hc))) (hn i o ho hf hr)
  ·simp only[Array.getD_eq_getD_getElem?,akq]at hk ⊢;grind
  simp only[Array.getD_eq_getD_getElem?,akq];grind
variable {i:Nat}
theorem nGl(cX:Array Bool)(hi:i<cX.size)(k:Nat):(cX.setIfInBounds i true).getD k false=if k=i then true else cX.getD k false:=by
 simp only[Array.getD_eq_getD_getElem?,akq];grind
variable {W:World}
theorem HP{o:Oper}(ho:l[i]? =some o)(h:wpListIn (FW C.r) 0 C.P l.toArray (Qn Q K) [o] a W):wpOpIn (FW C.r) 0 C.P l.toArray Q i K a W:=by
 unfold wpListIn at h;unfold wpOpIn;simp only[DI,ho];split
 ·rename_i hw;rw[if_pos hw]at h;exact n2i (λa' W' h=>h) (λ_ _ _ h=>h) zJ h
 rename_i hw;rw[if_neg hw]at h;exact h
theorem nAk{n:Nat}{o:Oper}(ho:l[n]? =some o)(hb:∀(i:Nat) (o:Oper),l[i]? =some o->∀j∈vG o,j<i)(hk:∀i,n<i->i<l.length->((MK l []).getD i 0).testBit n=true)(h:wpOpIn (FW C.r) 0 C.P l.toArray Q n (MM C l.toArray Q (n+1)) a W):MM C l.toArray Q n a W:=by
 intro cX mh rW fuel hc;have vZ:=(iv.1 ho).1;simp only[qx]at mh rW hc;have h0:cX.getD n false=false:=Bool.eq_false_iff.2 λe=>by have:=(rW n vZ).1 e;omega
 refine npl (I:=λcX a W=>cX.size=l.length/\((cX.getD n false=false/\(∀i,i<l.length->(cX.getD i false=true↔i<n))/\wpOpIn (FW C.r) 0 C.P l.toArray Q n (MM C l.toArray Q (n+1)) a W)\/(∀i,i<l.length->(cX.getD i false=true↔i<n+1))/\MM C l.toArray Q (n+1) a W))
  (Dn:=λcX=>cX.getD n false=true) hb (λ_ _ _ h=>h.1) (λcX a W hI hd=>?_) (λcX a W hI hd=>?_) fuel cX a W ⟨mh,.inl ⟨h0,rW,h⟩⟩ hc
 ·rcases hI.2 with h1|h1
  ·rw[h1.1]at hd;cases hd
  exact λfuel hc=>h1.2 cX (by simpa using hI.1) (by simpa using h1.1) fuel (by simpa using hc)
 rcases hI.2 with h1|h1
 ·refine⟨⟨n,vZ,h1.1⟩,λi o' w6 hf hr=>?_⟩;have lB:=(iv.1 w6).1;obtain rfl:i=n:=by
   rcases Nat.lt_trichotomy i n with h9|h9|h9
   ·rw[(h1.2.1 i lB).2 h9]at hf;cases hf
   ·exact h9
   have:=nTf l (λj=>cX.getD j false=true) (λk o2 hk2 hd2 j hj=>?_) hb l [] rfl (λ_ _ _ hk=>by simp at hk) i o' w6 hr n (hk i h9 lB)
   ·rw[h1.1]at this;cases this
   have vo:=(iv.1 hk2).1;have:=hb k o2 hk2 j hj;exact(h1.2.1 j aa).2 (by have:=(h1.2.1 k vo).1 hd2;omega)
  refine wpOpIn_mono (λa' W' h2=>⟨by simp[hI.1],.inr ⟨λk vo=>?_,h2⟩⟩) h1.2.2;rw[nGl cX (by rw[hI.1];exact lB)];by_cases e:k=i
  ·subst e;simp
  rw[if_neg e,h1.2.1 k vo];omega
 exact absurd ((h1.1 n vZ).2 aa) hd
theorem nGg{n:Nat}(hn:l.length<=n)(h:Q .normal a W):MM C l.toArray Q n a W:=by
 intro cX mh rW fuel hc;have hz:Region.ready .any l.toArray cX=[]:=List.eq_nil_iff_forall_not_mem.2 λi hi=>by
  obtain⟨o,ho,hf,_⟩:=(nZh cX i (by simpa using mh)).1 hi;have lB:=(iv.1 ho).1;rw[(rW i (by simpa using lB)).2 aa]at hf;cases hf
 cases fuel with
 |zero=>exact⟨hz,h⟩
 |succ fuel=>exact⟨λ_=>h,λi hi=>absurd hi (by rw[hz];simp)⟩
theorem nwk(hb:∀(i:Nat) (o:Oper),l[i]? =some o->∀j∈vG o,j<i):∀(m n:Nat),l.length<=n+m->(∀i,n<=i->i<l.length->∀j,j<i->((MK l []).getD i 0).testBit j=true)->∀a W,wpListIn (FW C.r) 0 C.P l.toArray Q (l.drop n) a W->MM C l.toArray Q n a W
 |0,n,hm,_,a,W,h=>nGg aa (by rwa[acq.2 aa]at h)
 |m+1,n,hm,hk,a,W,h=>by
  by_cases hn:l.length<=n
  ·exact nGg hn (by rwa[acq.2 hn]at h)
  have ho:l[n]? =some (l[n]'aa):=kK _;rw[List.drop_eq_getElem_cons aa]at h;refine nAk ho hb (λi h1 h2=>hk i aa h2 n h1) (wpOpIn_mono (λa' W' h2=>nwk hb m (n+1) aa (λi h1=>hk i aa) a' W' h2) ?_);unfold wpListIn at h;unfold wpOpIn;simp only[DI,ho];exact h
abbrev xa (o:Oper) (v:Value) (E:Env):Env:=match o.dst with|some d=>(d,v)::E|none=>E
def tX (C:Cx) (ops:Array Oper) (G:Gh) (E:Env) (n0:Nat) (sp:Sp) (ch:List Nat) (Ph:TW):List Oper->Sp->Prop
 |o::l,some u::ss=>(∀cv L' H',cv.length=ch.length->Mc ch (oI n0 o) cv=true->Ph cv L' H'->X C ops G L' H' (cP ops sp ch cv (oI n0 o)++E) (λ_=>True) o (λv _=>v=u))/\tX C ops G E n0 sp ch Ph l ss
 |_::l,none::ss=>tX C ops G E n0 sp ch Ph l ss
 |_,_=>True
theorem ntn:∀(l:List Oper) (ss:Sp),tX C ops G E n0 sp ch Ph l ss->∀(i:Nat) (o:Oper) (u:Value),l[i]? =some o->ss[i]? =some (some u)->∀cv L' H',cv.length=ch.length->Mc ch (oI n0 o) cv=true->Ph cv L' H'->X C ops G L' H' (cP ops sp ch cv (oI n0 o)++E) (λ_=>True) o (λv _=>v=u)
 | [],_,_,i,o,u,hl,_=>by simp at hl
 |_::_,[],_,i,o,u,_,hs=>by simp at hs
 |o'::l,u'::ss,h,i,o,u,hl,hs=>by
  cases i with
  |zero=>simp at hl hs;subst hs;subst hl;exact h.1
  |succ i=>exact ntn l ss (by cases u'<;>first|exact h.2|exact h) i o u NH (by simpa using hs)
abbrev Cb (C:Cx) (l:List Oper) (G:Gh) (E:Env) (D:List Deferred) (n0:Nat) (sp:Sp) (ch:List Nat) (cv:List (Option Value)) (o:Oper) (K:Value->List World->ad->Prop) (L':List World) (H':ad):Prop:=
 ∀(F:Env) (Q':aY),(∀v qI qJ,K v qI qJ->PJ C Q' .normal (xa o v (cP l.toArray sp ch cv (oI n0 o)++(E++F))) D G qI qJ)->OJ C l.toArray Q' [o] (cP l.toArray sp ch cv (oI n0 o)++(E++F)) D G L' H'
def gH (C:Cx) (l:List Oper) (G:Gh) (E:Env) (D:List Deferred) (n0:Nat) (sp:Sp) (ch:List Nat) (ky:List (List Nat)) (Ph:TW):Nat->List Nat->Prop
 |_,[]=>True
 |k,c::rest=>(∀(rq:List Nat) (o:Oper),ky[k]? =some rq->l[c]? =some o->∀cv L' H',cv.length=ch.length->Hg rq k cv=true->Ph cv L' H'->Cb C l G E D n0 sp ch cv o (λv=>Ph (cv.set k (some v))) L' H')/\gH C l G E D n0 sp ch ky Ph (k+1) rest
theorem n3n{ky:List (List Nat)}:∀(rest:List Nat) (n:Nat),gH C l G E D n0 sp ch ky Ph n rest->∀(k c:Nat) (rq:List Nat) (o:Oper),rest[k]? =some c->ky[n+k]? =some rq->l[c]? =some o->∀cv L' H',cv.length=ch.length->Hg rq (n+k) cv=true->Ph cv L' H'->Cb C l G E D n0 sp ch cv o (λv=>Ph (cv.set (n+k) (some v))) L' H'
 | [],_,_,k,c,_,_,h,_,_=>by simp at h
 |c'::rest,n,h,k,c,rq,o,hk,hr,hl=>by
  cases k with
  |zero=>simp at hk;subst hk;exact h.1 rq o hr hl
  |succ k=>
   rw[show n+(k+1)=n+1+k by omega]at hr ⊢;exact n3n rest (n+1) h.2 k c rq o (by simpa using hk) hr hl
theorem DJ.net(nA:Nat)(ky:List (List Nat))(h0:Ph (ch.map λ_=>none) L H)(pure:tX C l.toArray G E n0 sp ch Ph (l.drop n0) (sp.drop n0))(step:gH C l G E D n0 sp ch ky Ph 0 ch)(fin:∀cv L' H',cv.length=ch.length->cv.all (λx=>x.isSome)=true->Ph cv L' H'->DJ C l.toArray Q nA (cP l.toArray sp ch cv ((List.range nA).filter (Nat.ble n0))++E) D G L' H')(iF:Be C.N l n0 nA ch sp ky E=true):DJ C l.toArray Q n0 E D G L H:=by
 simp only[Be,oS,sP,tE,Nat.beq_eq,Nat.ble_eq,Nat.blt_eq,Bool.or_eq_true]at iF;obtain⟨vC,hn0,hnA,hrq,hnd,hpt,alA,hN,rB,hb,abx,aby⟩:=iF;have hnd:=HN hnd;have back:∀(i:Nat) (o:Oper),l[i]? =some o->∀j∈vG o,j<i:=λi o ho j hj=>by
  have:=hb i (iv.1 ho).1;simp only[ho,sP,Nat.blt_eq]at this;exact this j hj
 have apart:∀i d,n0<=i->i<nA->(l.toArray[i]?).bind (·.dst)=some d->look E d=none/\∀j,n0<=j->j<nA->(l.toArray[j]?).bind (·.dst)=some d->i=j:=by
  intro i d h1 h2 h3;have h4:=(aby i h2).resolve_left aa;simp only[h3,oS,sP,tE,Nat.beq_eq,Nat.blt_eq,Bool.or_eq_true]at h4;refine⟨by simpa using h4.1,λj h5 h6 h7=>?_⟩;have:=h4.2 j h6;simp only[h7,Nat.beq_refl]at this
  grind
 let done:=λ(cX:Array Bool)=>(List.range nA).filter λj=>Nat.ble n0 j&&cX.getD j false
 let I:Array Bool->Act->World->Prop:=λcX a W=>cX.size=l.length/\(∀(k:Nat) (o:Oper),l[k]? =some o->cX.getD k false=true->∀j∈vG o,cX.getD j false=true)/\(∀i,i<n0->cX.getD i false=true)/\(∀i,nA<=i->cX.getD i false=false)/\
  ∃cv L' H',a.tmps.size=C.N/\a.defers=D/\Fits E a/\Ph cv L' H'/\St G L' H' W/\cv.length=ch.length/\(∀(k c:Nat),ch[k]? =some c->(cX.getD c false=true↔∃v,cv[k]? =some (some v)))/\∀j∈done cX,∀d,(l.toArray[j]?).bind (·.dst)=some d->a.eval (.tmp d)=ml sp ch cv j
 have ef:∀cX a W,I cX a W->¬(∀k,k<nA->cX.getD k false=true)->(∃k,k<l.length/\cX.getD k false=false)/\∀(i:Nat) (o:Oper),l[i]? =some o->cX.getD i false=false->(∀j∈vG o,cX.getD j false=true)->
  wpOpIn (FW C.r) 0 C.P l.toArray Q i (λa' W'=>I (cX.setIfInBounds i true) a' W') a W:=by
  rintro cX a W ⟨mh,lP,H7,VV,cv,L',H',h1,h2,h3,h4,h5,h6,h7,h8⟩ ck;obtain⟨k0,Ze,Jd⟩:∃k,k<nA/\cX.getD k false=false:=by simpa using ck
  refine⟨⟨k0,by omega,Jd⟩,λi o ho I7 hrd=>?_⟩;have lB:=(iv.1 ho).1;have hi0:n0<=i:=Nat.le_of_not_lt λh=>by rw[H7 i h]at I7;cases I7
  have mask:=nTf l (λj=>cX.getD j false=true) lP back l [] rfl (λ_ _ _ hk=>by simp at hk) i o ho hrd;have wM:i<nA:=(abx i lB).resolve_right λh=>by
   have:=mask k0 (h k0 Ze);rw[Jd]at this;cases this
  have gs:=nGl cX (i:=i) aa;have TX:∀j∈done cX,n0<=j/\j<nA/\cX.getD j false=true:=λj hj=>by simp only[done,uU,tE,oS,Nat.ble_eq]at hj;exact⟨hj.2.1,hj.1,hj.2.2⟩
  have iE:∀j∈oI n0 o,j∈done cX:=λj hj=>by
   obtain⟨h9,h10⟩:=uU.1 hj;have:=back i o ho j h9;exact uU.2 ⟨tE.2 aa,by rw[h10,hrd j h9];rfl⟩
  have bM:Fits (cP l.toArray sp ch cv (oI n0 o)) a:=nLg _ λj hj=>h8 j (iE j hj);have hF:Fits (cP l.toArray sp ch cv (done cX)) a:=nLg _ h8
  -- after it
  have next:∀js v cv' qI qJ a' W',(∀j∈js,j∈done cX)->a'.tmps.size=C.N->a'.defers=D->Fits (xa o v (cP l.toArray sp ch cv js++(E++cP l.toArray sp ch cv (done cX)))) a'->Ph cv' qI qJ->St G qI qJ W'->cv'.length=ch.length->
   (∀(k c:Nat),ch[k]? =some c->((c=i\/cX.getD c false=true)↔∃v,cv'[k]? =some (some v)))->ml sp ch cv' i=v->(∀j∈done cX,ml sp ch cv' j=ml sp ch cv j)->I (cX.setIfInBounds i true) a' W':=by
   intro js v cv' qI qJ a' W' kj k1 k2 k3 k4 k5 k6 k7 k8 k9;have hne:∀j d,n0<=j->j<nA->(l.toArray[j]?).bind (·.dst)=some d->j≠i->o.dst≠some d:=λj d e1 e2 e3 e4 e5=>e4 ((apart j d e1 e2 e3).2 i hi0 wM (by simp[ho,e5]));have Cc:∀t u,o.dst≠some t->look (cP l.toArray sp ch cv js++(E++cP l.toArray sp ch cv (done cX))) t=some u->a'.eval (.tmp t)=u:=λt u e1 e2=>k3 t u (by
    unfold xa;split
    ·rename_i d hd;simp only[look,TI (show ¬d=t from λe=>e1 (e▸hd))];exact e2
    exact e2)
   refine⟨by simp[mh],λk o' w6 hk j hj=>?_,λj hj=>by rw[gs,H7 j hj];simp,λj hj=>by rw[gs,if_neg aa];exact VV j hj,cv',qI,qJ,k1,k2,λt u hu=>?_,k4,k5,k6,λk c hc=>?_,λj hj d hd=>?_⟩
   ·rw[gs]at hk ⊢;by_cases e:k=i
    ·subst e;rw[ho]at w6;cases w6;rw[hrd j hj];simp
    rw[if_neg e]at hk;rw[lP k o' w6 hk j hj];simp
   ·refine Cc t u (λe=>?_) ?_
    ·rw[(apart i t hi0 wM (by simp[ho,e])).1]at hu;cases hu
    rcases nVe (ops:=l.toArray) (sp:=sp) (ch:=ch) (cv:=cv) t js with h9|⟨q,hq,hqd,h9⟩
    ·rw[nWc,nWc,h9.1,hu];rfl
    rw[(apart q t (TX q (kj q hq)).1 (TX q (kj q hq)).2.1 hqd).1]at hu;cases hu
   ·rw[gs,<-k7 k c hc];split<;>simp[*]
   have xR:n0<=j/\j<nA/\(j=i\/cX.getD j false=true):=by
    simp only[done,uU,tE,gs,oS,Nat.ble_eq]at hj;exact⟨hj.2.1,hj.1,by have:=hj.2.2;split at this<;>simp[*]⟩
   by_cases e:j=i
   ·subst e;have hd:o.dst=some d:=by simpa[ho]using hd
    rw[k8];exact k3 d v (by simp[xa,hd,look,MC])
   have hjd:j∈done cX:=uU.2 ⟨tE.2 xR.2.1,by rw[xR.2.2.resolve_left e,Nat.ble_eq_true_of_le xR.1];rfl⟩;rw[k9 j hjd];refine Cc d _ (hne j d xR.1 xR.2.1 hd e) ?_;have at_:∀js,(∀j∈js,j∈done cX)->(look (cP l.toArray sp ch cv js) d=none/\j∉js)\/look (cP l.toArray sp ch cv js) d=some (ml sp ch cv j):=λjs kj=>by
    rcases nVe (ops:=l.toArray) (sp:=sp) (ch:=ch) (cv:=cv) d js with h9|⟨q,hq,hqd,h9⟩
    ·exact .inl ⟨h9.1,λh=>h9.2 j h hd⟩
    exact .inr (by rw[h9,(apart j d xR.1 xR.2.1 hd).2 q (TX q (kj q hq)).1 (TX q (kj q hq)).2.1 hqd])
   rw[nWc,nWc,(apart j d xR.1 xR.2.1 hd).1];rcases at_ js kj with h9|h9
   ·rw[h9.1,(at_ (done cX) λ_ h=>h).resolve_left λh=>h.2 hjd];rfl
   rw[h9];rfl
  obtain⟨u,hu⟩:∃u,sp[i]? =some u:=⟨sp[i]'aa,kK _⟩;have ko:=nIj ch sp 0 hpt i u hu;rw[lL]at ko;cases u with
  |some u=>
   have alD:i∉ch:=λh=>by cases ko.1 h
   have hx:=ntn _ _ pure (i-n0) o u (by rw[QT,show n0+(i-n0)=i by omega];exact ho) (by rw[QT,show n0+(i-n0)=i by omega];exact hu) cv L' H' h6 (by
    simp only[Mc,sP,Bool.or_eq_true,Bool.not_eq_true'];intro j hj;by_cases hc:j∈ch
    ·obtain⟨q,hq⟩:=kA.1 hc;obtain⟨v,hv⟩:=(h7 q j hq).1 (TX j (iE j hj)).2.2;rw[nze ch q j hq hnd,hv];exact .inr rfl
    ·exact .inl (Bool.eq_false_iff.2 λh=>hc (by obtain⟨c,hc,e⟩:=List.any_eq_true.1 h;rw[Nat.beq_eq]at e;exact e▸hc))) h4 a W (λa' W'=>I (cX.setIfInBounds i true) a' W') Q h1 (TO bM h3) h5 trivial (by
    rintro v W' hb rfl;refine next [] v cv L' H' _ W' zI (by cases hd:o.dst<;>simp[Act.put,hd,h1]) (by cases hd:o.dst<;>simp[Act.put,hd,h2]) ?_ h4 (h5.step hb) h6 (λk c hc=>by rw[<-h7 k c hc];exact⟨λh=>h.resolve_left λe=>alD (e▸cO hc),.inr⟩) (by simp[ml,hu]) λ_ _=>rfl;unfold xa;split
    ·rename_i d hd;rw[hd];exact(TO h3 hF).put v (by rw[h1];exact nip hN o (cO ho) d hd)
    rename_i hd;rw[hd];exact(TO h3 hF:Fits (E++cP l.toArray sp ch cv (done cX)) a))
   unfold wpOpIn;simp only[DI,ho];split
   ·rename_i hw;rw[if_pos hw]at hx;exact hx
   rename_i hw;rw[if_neg hw]at hx;exact⟨λ_ _=>trivial,hx⟩
  |none=>
   obtain⟨k,hk⟩:=kA.1 (ko.2 rfl);have vo:=(iv.1 hk).1;obtain⟨rq,Vf⟩:∃rq,ky[k]? =some rq:=⟨ky[k]'aa,kK _⟩;have Vo:((cv[k]?).join).isNone=true:=by
    have:=h7 k i hk;rw[I7]at this;cases e:cv[k]? with
    |none=>rfl
    |some x=>cases x with
     |none=>rfl
     |some v=>exact absurd (this.2 ⟨v,e⟩) zI
   have hr:Hg rq k cv=true:=by
    simp only[Hg,Vo,Bool.true_and,sP];intro j hj;obtain⟨c',Ad,alE⟩:=HO l ch ky 0 alA k i rq Vf (by rw[lL];exact hk) j hj;obtain⟨v,hv⟩:=(h7 j c' Ad).1 (mask c' alE);rw[hv];rfl
   have alG:∀j∈done cX,j∈ch->Td ch j≠k:=λj hj hc e=>by
    obtain⟨q,hq⟩:=kA.1 hc;rw[nze ch q j hq hnd]at e;subst e;rw[hk]at hq;cases hq;have:=(TX _ hj).2.2;rw[I7]at this;cases this
   refine HP ho (n3n ch 0 step k i rq o hk (by rw[lL];exact Vf) ho cv L' H' h6 (by rw[lL];exact hr) h4 (cP l.toArray sp ch cv (done cX)) _ (λv qI qJ hP a' W' k1 k2 k3 k4=>?_) a W h1 h2 (TO bM (TO h3 hF)) h5);rw[lL]at hP;refine next (oI n0 o) v _ qI qJ a' W' iE k1 k2 k3 hP k4 (by rw[List.length_set];exact h6) (λk' c hc=>?_) (by simp[ml,hu,nze ch k i hk hnd,h6,vo]) λj hj=>?_
   ·by_cases e:k'=k
    ·subst e;rw[hk]at hc;cases hc;simp[h6,vo]
    rw[TJ (λh=>e h.symm),<-h7 k' c hc];exact⟨λh=>h.resolve_left λe2=>e (by rw[<-nze ch k' c hc hnd,<-nze ch k i hk hnd,e2]),.inr⟩
   obtain⟨u',hu'⟩:∃u,sp[j]? =some u:=⟨sp[j]'(by have:=(TX j hj).2.1;omega),kK _⟩;have hm:=nIj ch sp 0 hpt j u' hu';rw[lL]at hm;unfold ml;rw[hu'];cases u' with
   |some u'=>rfl
   |none=>simp only;rw[TJ (λh=>alG j hj (hm.2 rfl) h.symm)]
 intro a W h1 h2 h3 h4 cX mh rW fuel hc;simp only[qx]at mh rW hc;have gn:∀i,n0<=i->cX.getD i false=false:=λi hi=>Bool.eq_false_iff.2 λh=>by
  by_cases lB:i<l.length
  ·have:=(rW i lB).1 h;omega
  simp[Array.getElem?_eq_none (show cX.size<=i by omega)]at h
 refine npl (I:=I) back (λ_ _ _ h=>h.1) ?_ ef fuel cX a W ⟨mh,λk o ho hk j hj=>?_,λi hi=>(rW i aa).2 hi,λi hi=>gn i aa,_,L,H,h1,h2,h3,h0,h4,eQ _,λk c hc=>?_,λj hj=>?_⟩ hc
 ·rintro cX a W ⟨mh,lP,H7,VV,cv,L',H',h1,h2,h3,h4,h5,h6,h7,h8⟩ ck fuel hc;refine fin cv L' H' h6 (sP.2 λx hx=>?_) h4 a W h1 h2 (TO (nLg _ λj hj=>h8 j ?_) h3) h5 cX (by simpa using mh) (λi hi=>⟨λh=>?_,λh=>ck i h⟩) fuel (by simpa using hc)
  ·obtain⟨k,hk⟩:=kA.1 hx;have vo:k<ch.length:=by rw[<-h6];exact(iv.1 hk).1
   obtain⟨v,hv⟩:=(h7 k _ (kK vo)).1 (ck _ (rB _ (WB vo)).2);rw[hk]at hv;cases hv;rfl
  ·obtain⟨h9,h10⟩:=uU.1 hj;exact uU.2 ⟨h9,by rw[h10,ck j (tE.1 h9)];rfl⟩
  exact Nat.lt_of_not_le λhle=>by rw[VV i hle]at h;cases h
 ·have h9:=back k o ho j hj;have vo:=(iv.1 ho).1;have:=(rW k vo).1 hk;exact(rW j aa).2 aa
 ·rw[gn c (rB c (cO hc)).1,sC,hc];simp
 simp only[done,uU,oS,Nat.ble_eq]at hj;rw[gn j hj.2.1]at hj;cases hj.2.2
theorem DJ.one{n:Nat}{o:Oper}(ho:l[n]? =some o)(hk:((List.range l.length).all λi=>match l[i]? with|none=>true|some o'=>((vG o').all λj=>Nat.blt j i)&&(Nat.ble i n||((MK l []).getD i 0).testBit n))=true)(h:OJ C l.toArray (Qn Q (MM C l.toArray Q (n+1))) [o] E D G L H):DJ C l.toArray Q n E D G L H:=by
 simp only[sP,tE]at hk;have at_:=λi (hi:i<l.length)=>by simpa[kK hi]using hk i hi
 exact λa W h1 h2 h3 h4=>nAk ho (λi o' w6 j hj=>by obtain⟨hi,rfl⟩:=iv.1 w6;exact(at_ i hi).1 j hj) (λi h5 h6=>by simpa using(at_ i h6).2.resolve_left aa) (HP ho (h a W h1 h2 h3 h4))
theorem DJ.done{n:Nat}(k:PJ C Q .normal E D G L H)(hn:Nat.ble l.length n=true:=by kernel_rfl):DJ C l.toArray Q n E D G L H:=λa W h1 h2 h3 h4=>nGg (ea hn) (k a W h1 h2 h3 h4)
theorem PJ.dj{n:Nat}(k:DJ C l.toArray Q n E D G L H):PJ C (Qn Q (MM C l.toArray Q n)) .normal E D G L H:=k
theorem DJ.less{n:Nat}{E':Env}(h:Sub E' E)(k:DJ C ops Q n E' D G L H):DJ C ops Q n E D G L H:=λa W h1 h2 h3 h4=>k a W h1 h2 (h.fits h3) h4
def Ae (l:List Oper) (nA:Nat):Bool:=(List.range l.length).all λi=>Nat.blt i nA||(List.range i).all λj=>((MK l []).getD i 0).testBit j
theorem nMi{id:Nat}(nA:Nat)(ch:List Nat)(sp:Sp)(ky:List (List Nat))(Ph:TW)(h0:Ph (ch.map λ_=>none) L H)(pure:tX C l.toArray G E 0 sp ch Ph l sp)(step:gH C l G E D 0 sp ch ky Ph 0 ch)(fin:∀cv L' H',cv.length=ch.length->cv.all (λx=>x.isSome)=true->Ph cv L' H'->OJ C l.toArray Q (l.drop nA) (cP l.toArray sp ch cv (List.range nA)++E) D G L' H')(iF:(C.P.follows .mixedOrders&&(Be C.N l 0 nA ch sp ky E&&Ae l nA))=true:=by kernel_rfl):CJ C (.region id l.toArray true) Q E D G L H:=by
 simp only[oS]at iF;refine CJ.dj iF.1 (DJ.net nA ky h0 pure step (λcv L' H' h1 h2 h3 a W k1 k2 k3 k4=>nwk ?_ l.length nA aa (λi h5 h6 j h7=>?_) a W (fin cv L' H' h1 h2 h3 a W k1 k2 ?_ k4)) iF.2.1)
 ·intro i o ho j hj;have:=iF.2.1;simp only[Be,oS,sP,tE]at this;have:=this.2.2.2.2.2.2.2.2.2.1 i (iv.1 ho).1;rw[ho]at this;simpa using sP.1 this j hj
 ·have:=sP.1 iF.2.2 i (tE.2 h6);simp only[Bool.or_eq_true,Nat.blt_eq,sP,tE]at this;exact this.resolve_left aa j h7
 rwa[List.filter_eq_self.2 (λ_ _=>Nat.ble_eq_true_of_le (cR _))]at k3
/-! #### a chain: the operations whose values are not known stand behind each other -/
def rq1:Nat->List Nat
 |0=>[]
 |n+1=>[n]
def Af:Nat->Nat->List (List Nat)
 |_,0=>[]
 |k,n+1=>rq1 k::Af (k+1) n
abbrev MN:=List Value->List World->ad->Prop
abbrev sm (vs:List Value):List (Option Value):=vs.map some
def Bf (n:Nat) (Ph:MN):TW:=λcv L' H'=>∃vs:List Value,vs.length<=n/\cv=sm vs++List.replicate (n-vs.length) none/\Ph vs L' H'
theorem Bg(vs:List Value)(n k:Nat):((sm vs++List.replicate n none)[k]?).join=((sm vs)[k]?).join:=by grind
theorem nmh(vs:List Value)(n:Nat):∀js,cP ops sp ch (sm vs++List.replicate n none) js=cP ops sp ch (sm vs) js
 | []=>rfl
 |j::js=>by unfold cP;rw[nmh vs n js];simp only[ml,Bg]
variable {Pc:MN} {k c:Nat} {o:Oper} {rest:List Nat} {ky:List (List Nat)} {tl:Sp} {u:Value}
theorem pc(h:∀cv L' H',Mc ch (oI n0 o) (sm cv)=true->Pc cv L' H'->X C ops G L' H' (cP ops sp ch (sm cv) (oI n0 o)++E) (λ_=>True) o (λv _=>v=u))(t:tX C ops G E n0 sp ch (Bf ch.length Pc) l tl):tX C ops G E n0 sp ch (Bf ch.length Pc) (o::l) (some u::tl):=
 ⟨by rintro _ L' H' _ hd ⟨vs,hle,rfl,hP⟩;simp only[Mc,Bg]at hd;rw[nmh];exact h vs L' H' hd hP,t⟩
theorem qc(h:∀cv L' H',cv.length=ch.length->Mc ch (oI n0 o) cv=true->Ph cv L' H'->X C ops G L' H' (cP ops sp ch cv (oI n0 o)++E) (λ_=>True) o (λv _=>v=u))(t:tX C ops G E n0 sp ch Ph l tl):tX C ops G E n0 sp ch Ph (o::l) (some u::tl):=⟨h,t⟩
theorem pk(t:tX C ops G E n0 sp ch Ph l tl):tX C ops G E n0 sp ch Ph (o::l) (none::tl):=t
theorem pn:tX C ops G E n0 sp ch Ph l []:=by cases l<;>trivial
theorem nc{rq:List Nat}(h0:ky[k]? =some rq)(h1:l[c]? =some o)(h:∀cv L' H',cv.length=ch.length->Hg rq k cv=true->Ph cv L' H'->Cb C l G E D n0 sp ch cv o (λv=>Ph (cv.set k (some v))) L' H')(t:gH C l G E D n0 sp ch ky Ph (k+1) rest):gH C l G E D n0 sp ch ky Ph k (c::rest):=
 ⟨λrq' o' e0 e1=>by rw[h0]at e0;cases e0;rw[h1]at e1;cases e1;exact h,t⟩
theorem nn:gH C l G E D n0 sp ch ky Ph k []:=trivial
theorem ss(h1:l[c]? =some o)(h:∀cv L' H',cv.length=k->Pc cv L' H'->Cb C l G E D n0 sp ch (sm cv) o (λv=>Pc (cv++[v])) L' H')(t:gH C l G E D n0 sp ch ky (Bf ch.length Pc) (k+1) rest)(h0:ky[k]? =some (rq1 k):=by rfl)(h2:Nat.blt k ch.length=true:=by rfl):gH C l G E D n0 sp ch ky (Bf ch.length Pc) k (c::rest):=by
 refine nc h0 h1 ?_ t;rintro _ L' H' _ hr ⟨vs,hle,rfl,hP⟩ F Q' hc;rw[Nat.blt_eq]at h2;simp only[Hg,Bg,oS,sP,Option.isNone_iff_eq_none]at hr;obtain rfl:vs.length=k:=by
  exact zth
 rw[nmh]at hc ⊢;refine h vs L' H' rfl hP F Q' λv qI qJ hP'=>hc v qI qJ ⟨vs++[v],by simp;omega,?_,hP'⟩;exact zPg
variable {H':ad} {L':List World}
theorem nXn(h:cv.all (λx=>x.isSome)=true):Bf ch.length Pc cv L' H'->∃vs:List Value,vs.length=ch.length/\cv=sm vs/\Pc vs L' H':=by
 rintro⟨vs,hle,rfl,hP⟩;have:ch.length-vs.length=0:=by
  simp only[List.all_append,List.all_replicate,oS]at h;have:=h.2;split at this<;>simp_all
 exact⟨vs,by omega,by rw[this];simp,hP⟩
theorem HQ(h0:Pc [] L' H'):Bf ch.length Pc (ch.map λ_=>none) L' H':=⟨[],cR _,by simp[List.map_const'],h0⟩
theorem CJ.chn{id:Nat}(nA:Nat)(ch:List Nat)(sp:Sp)(Ph:MN)(pure:tX C l.toArray G E 0 sp ch (Bf ch.length Ph) l sp)(step:gH C l G E D 0 sp ch (Af 0 ch.length) (Bf ch.length Ph) 0 ch)(fin:∀cv L' H',cv.length=ch.length->Ph cv L' H'->OJ C l.toArray Q (l.drop nA) (cP l.toArray sp ch (sm cv) (List.range nA)++E) D G L' H')(h0:Ph [] L H:=by exact⟨rfl,rfl⟩)(iF:(C.P.follows .mixedOrders&&(Be C.N l 0 nA ch sp (Af 0 ch.length) E&&Ae l nA))=true:=by kernel_rfl):CJ C (.region id l.toArray true) Q E D G L H:=
 nMi nA ch sp (Af 0 ch.length) (Bf ch.length Ph) (HQ h0) pure step (λcv L' H' h1 h2 h3=>by obtain⟨vs,hl,rfl,hP⟩:=nXn h2 h3;exact fin vs L' H' hl hP) iF
theorem DJ.chn(n0 nA:Nat)(ch:List Nat)(sp:Sp)(Ph:MN)(pure:tX C l.toArray G E n0 sp ch (Bf ch.length Ph) (l.drop n0) (sp.drop n0))(step:gH C l G E D n0 sp ch (Af 0 ch.length) (Bf ch.length Ph) 0 ch)(fin:∀cv L' H',cv.length=ch.length->Ph cv L' H'->DJ C l.toArray Q nA (cP l.toArray sp ch (sm cv) ((List.range nA).filter (Nat.ble n0))++E) D G L' H')(h0:Ph [] L H:=by exact⟨rfl,rfl⟩)(iF:Be C.N l n0 nA ch sp (Af 0 ch.length) E=true:=by kernel_rfl):DJ C l.toArray Q n0 E D G L H:=
 DJ.net nA (Af 0 ch.length) (HQ h0) pure step (λcv L' H' h1 h2 h3=>by obtain⟨vs,hl,rfl,hP⟩:=nXn h2 h3;exact fin vs L' H' hl hP) iF
theorem xc{L0:List World}{H0:ad}(h:Nat->X C ops G L0 H0 (cP ops sp [] [] (oI n0 o)++E) (λ_=>True) o (λv _=>v=u))(t:tX C ops G E n0 sp [] (λ_ L' H'=>L'=L0/\H'=H0) l tl):tX C ops G E n0 sp [] (λ_ L' H'=>L'=L0/\H'=H0) (o::l) (some u::tl):=
 ⟨by rintro cv _ _ hl _ ⟨rfl,rfl⟩;cases lN hl;exact h 0,t⟩
theorem CJ.drwD{id:Nat}(nA:Nat)(sp:Sp)(exec:tX C l.toArray G E 0 sp [] (λ_ L' H'=>L'=L/\H'=H) l sp)(fin:Nat->OJ C l.toArray Q (l.drop nA) (cP l.toArray sp [] [] (List.range nA)++E) D G L H)(iF:(C.P.follows .mixedOrders&&(Be C.N l 0 nA [] sp [] E&&Ae l nA))=true:=by kernel_rfl):CJ C (.region id l.toArray true) Q E D G L H:=
 nMi nA [] sp [] _ ⟨rfl,rfl⟩ exec trivial (by rintro cv _ _ hl _ ⟨rfl,rfl⟩;cases lN hl;exact fin 0) iF
variable {nA:Nat}
/-- the pure operations, at a state; the number of the elements is said -/
def PB (nA:Nat) (C:Cx) (ops:Array Oper) (G:Gh) (E:Env) (n0:Nat) (sp:Sp) (ch:List Nat) (L:List World) (H:ad):List Oper->Sp->Prop
 |o::l,some u::ss=>X C ops G L H (cP ops sp ch [] (oI n0 o)++E) (λ_=>True) o (λv _=>v=u)/\PB nA C ops G E n0 sp ch L H l ss
 |_::l,none::ss=>PB nA C ops G E n0 sp ch L H l ss
 |_,_=>True
theorem aU(h:X C ops G L H (cP ops sp ch [] (oI n0 o)++E) (λ_=>True) o (λv _=>v=u))(t:PB nA C ops G E n0 sp ch L H l tl):PB nA C ops G E n0 sp ch L H (o::l) (some u::tl):=⟨h,t⟩
theorem qbk(_hc:ch.any (Nat.beq (ops.size-(l.length+1)))=true)(t:PB nA C ops G E n0 sp ch L H l tl):PB nA C ops G E n0 sp ch L H (o::l) (none::tl):=t
theorem vK(_h:Nat.beq (ops.size-l.length) nA=true):PB nA C ops G E n0 sp ch L H l []:=by cases l<;>trivial
theorem PB.at:∀{l:List Oper} {ss:Sp},PB nA C ops G E n0 sp ch L H l ss->∀(i:Nat) (o:Oper) (u:Value),l[i]? =some o->ss[i]? =some (some u)->X C ops G L H (cP ops sp ch [] (oI n0 o)++E) (λ_=>True) o (λv _=>v=u)
 | [],_,_,i,o,u,hl,_=>by simp at hl
 |_::_,[],_,i,o,u,_,hs=>by simp at hs
 |o'::l,u'::ss,h,i,o,u,hl,hs=>by
  cases i with
  |zero=>simp at hl hs;subst hs;subst hl;exact h.1
  |succ i=>exact PB.at (l:=l) (ss:=ss) (by cases u'<;>first|exact h.2|exact h) i o u NH (by simpa using hs)
theorem n5h:∀(m:List Oper) (ss:Sp),(∀(i:Nat) (o:Oper) (u:Value),m[i]? =some o->ss[i]? =some (some u)->∀cv L' H',cv.length=ch.length->Mc ch (oI n0 o) cv=true->Ph cv L' H'->X C ops G L' H' (cP ops sp ch cv (oI n0 o)++E) (λ_=>True) o (λv _=>v=u))->tX C ops G E n0 sp ch Ph m ss
 | [],ss,_=>by cases ss<;>trivial
 |_::_,[],_=>trivial
 |o::m,none::ss,h=>n5h m ss λi o u h1 h2=>h (i+1) o u CD Kq
 |o::m,some u::ss,h=>⟨h 0 o u rfl rfl,n5h m ss λi o u h1 h2=>h (i+1) o u CD Kq⟩
/-- the values of these operations are known -/
def knB (sp:Sp) (js:List Nat):Bool:=js.all λj=>match sp[j]? with|some (some _)=>true|_=>false
theorem nNn{cv cv':List (Option Value)}:∀{js:List Nat},knB sp js=true->cP ops sp ch cv js=cP ops sp ch cv' js
 | [],_=>rfl
 |j::js,h=>by
  simp only[knB,List.all_cons,oS]at h;unfold cP;rw[nNn (js:=js) h.2];have h1:=h.1;have:ml sp ch cv j=ml sp ch cv' j:=by unfold ml;split at h1<;>simp_all
  rw[this]
def xd (n0:Nat) (l:List Oper) (sp:Sp):Bool:=(List.range l.length).all λi=>Nat.blt i n0||match l[i]?,sp[i]? with|some o,some (some _)=>knB sp (oI n0 o)|_,_=>true
theorem X.mono{Pre:World->Prop}{Φ:Value->World->Prop}(hm:∀W,St G L' H' W->St G L H W)(h:X C ops G L H E Pre o Φ):X C ops G L' H' E Pre o Φ:=
 λa W K Q h1 h2 h3 h4 h5=>h a W K Q h1 h2 (hm W h3) h4 h5
/-- the operations of a chain, one behind the other -/
def PW (C:Cx) (l:List Oper) (G:Gh) (E:Env) (D:List Deferred) (n0:Nat) (sp:Sp) (ch:List Nat) (Fin:MN) (L0:List World) (H0:ad):List Nat->MN
 | [],vs,L',H'=>(∀W,St G L' H' W->St G L0 H0 W)/\Fin vs L' H'
 |c::rest,vs,L',H'=>(∀W,St G L' H' W->St G L0 H0 W)/\∀o,l[c]? =some o->Cb C l G E D n0 sp ch (sm vs) o (λv=>PW C l G E D n0 sp ch Fin L0 H0 rest (vs++[v])) L' H'
variable {Fin:MN} {L0:List World} {H0:ad}
theorem PW.mono:∀{r:List Nat} {vs:List Value} {L':List World} {H':ad},PW C l G E D n0 sp ch Fin L0 H0 r vs L' H'->∀W,St G L' H' W->St G L0 H0 W
 | [],_,_,_,h=>h.1
 |_::_,_,_,_,h=>h.1
theorem n8n{k:Nat}(h:k<ch.length):ch.drop k=ch[k]::ch.drop (k+1):=List.drop_eq_getElem_cons h
theorem gH.of(hP:∀vs L' H',Pc vs L' H'->vs.length<ch.length->∀c o,ch[vs.length]? =some c->l[c]? =some o->Cb C l G E D n0 sp ch (sm vs) o (λv=>Pc (vs++[v])) L' H'):∀(m k:Nat),ch.length=k+m->gH C l G E D n0 sp ch (Af 0 ch.length) (Bf ch.length Pc) k (ch.drop k)
 |0,k,h=>by rw[acq.2 aa];exact nn
 |m+1,k,h=>by
  have hk:k<ch.length:=by omega
  rw[n8n hk];refine⟨λrq o h0 h1 cv L' H' hcv hr hp=>?_,gH.of hP m (k+1) aa⟩;have TY:∀(n j i:Nat),i<n->(Af j n)[i]? =some (rq1 (j+i)):=by
   intro n;induction n with
   |zero=>intro j i h;omega
   |succ n ih=>
    intro j i h;cases i with
    |zero=>rfl
    |succ i=>simp only[Af,Ij];rw[ih (j+1) i aa];congr 2;omega
  rw[TY _ 0 k hk,lL]at h0;cases h0
  obtain⟨vs,hle,rfl,hP'⟩:=hp;simp only[Hg,Bg,oS,sP,Option.isNone_iff_eq_none]at hr;obtain rfl:vs.length=k:=by
   exact zth
  intro F Q' hc;rw[nmh]at hc ⊢;refine hP vs L' H' hP' hk _ o (kK hk) h1 F Q' λv qI qJ alL=>hc v qI qJ ⟨vs++[v],by simp;omega,?_,alL⟩;exact zPg
theorem non(hb:PB nA C l.toArray G E n0 sp ch L H (l.drop n0) (sp.drop n0))(hi:xd n0 l sp=true){Fin:MN}:tX C l.toArray G E n0 sp ch (Bf ch.length λvs=>PW C l G E D n0 sp ch Fin L H (ch.drop vs.length) vs) (l.drop n0) (sp.drop n0):=by
 refine n5h _ _ λi o u h1 h2 cv L' H' hcv hd hP=>?_;obtain⟨vs,_,rfl,hP⟩:=hP;rw[nNn (cv':=[])]
 ·exact(hb.at i o u h1 h2).mono hP.mono
 simp only[xd,sP,tE,Bool.or_eq_true]at hi;rw[QT]at h1 h2;have:=(hi (n0+i) (iv.1 h1).1).resolve_left zI;rw[h1,h2]at this;exact this
theorem nHn{Fin:MN}:gH C l G E D n0 sp ch (Af 0 ch.length) (Bf ch.length λvs=>PW C l G E D n0 sp ch Fin L H (ch.drop vs.length) vs) 0 ch:=by
 have:=gH.of (C:=C) (l:=l) (G:=G) (E:=E) (D:=D) (n0:=n0) (sp:=sp) (ch:=ch) (Pc:=λvs=>PW C l G E D n0 sp ch Fin L H (ch.drop vs.length) vs) (λvs L' H' hP hk c o hc ho=>by
  rw[n8n hk]at hP;obtain⟨MJ,hc⟩:=iv.1 hc;rw[hc]at hP;have h2:=hP.2 o ho;intro F Q' h3;refine h2 F Q' λv qI qJ h4=>h3 v qI qJ ?_;simpa using h4) ch.length 0 aa
 simpa using this
abbrev ud (n0:Nat) (sp:Sp):Sp:=List.replicate n0 (some undef)++sp
theorem MO(n0:Nat)(sp:Sp):(ud n0 sp).drop n0=sp:=by simp[ud]
/-- a region that draws its order: a chain, and operations that do not ask for it -/
theorem eW{id:Nat}{ch:List Nat}{nA:Nat}(pb:PB nA C l.toArray G E 0 sp ch L H l sp)(k:PW C l G E D 0 sp ch (λvs L' H'=>OJ C l.toArray Q (l.drop nA) (cP l.toArray sp ch (sm vs) (List.range nA)++E) D G L' H') L H ch [] L H)(hi:xd 0 l sp=true)(iF:(C.P.follows .mixedOrders&&(Be C.N l 0 nA ch sp (Af 0 ch.length) E&&Ae l nA))=true):CJ C (.region id l.toArray true) Q E D G L H:=
 CJ.chn nA ch sp (λvs=>PW C l G E D 0 sp ch _ L H (ch.drop vs.length) vs) (non pb hi) nHn (λcv L' H' hl hP=>by rw[hl,List.drop_length]at hP;exact hP.2) k iF
theorem fW{ch:List Nat}{nA:Nat}(pb:PB nA C l.toArray G E n0 (ud n0 sp) ch L H (l.drop n0) sp)(k:PW C l G E D n0 (ud n0 sp) ch (λvs L' H'=>DJ C l.toArray Q nA (cP l.toArray (ud n0 sp) ch (sm vs) ((List.range nA).filter (Nat.ble n0))++E) D G L' H') L H ch [] L H)(hi:xd n0 l (ud n0 sp)=true)(iF:Be C.N l n0 nA ch (ud n0 sp) (Af 0 ch.length) E=true):DJ C l.toArray Q n0 E D G L H:=
 DJ.chn n0 nA ch (ud n0 sp) (λvs=>PW C l G E D n0 (ud n0 sp) ch _ L H (ch.drop vs.length) vs) (non (nA:=nA) (by rw[MO];exact pb) hi) nHn (λcv L' H' hl hP=>by rw[hl,List.drop_length]at hP;exact hP.2) k iF
variable {vs:List Value}
theorem wN(hm:∀W,St G L' H' W->St G L0 H0 W)(h:∀F Q',(∀v qI qJ,PW C l G E D n0 sp ch Fin L0 H0 rest (vs++[v]) qI qJ->PJ C Q' .normal (xa o v (cP l.toArray sp ch (sm vs) (oI n0 o)++(E++F))) D G qI qJ)->OJ C l.toArray Q' [o] (cP l.toArray sp ch (sm vs) (oI n0 o)++(E++F)) D G L' H')(ho:l[c]? =some o:=by exact rfl):PW C l G E D n0 sp ch Fin L0 H0 (c::rest) vs L' H':=⟨hm,λo' w6=>by rw[ho]at w6;cases w6;exact h⟩
theorem wE(hm:∀W,St G L' H' W->St G L0 H0 W)(h:Fin vs L' H'):PW C l G E D n0 sp ch Fin L0 H0 [] vs L' H':=⟨hm,h⟩
inductive Dr:Nat->List Oper->List Oper->Prop
 |z {l:List Oper}:Dr 0 l l
 |s {n:Nat} {x:Oper} {l l':List Oper}:Dr n l l'->Dr (n+1) (x::l) l'
theorem Dr.eq{n:Nat}{l l':List Oper}(h:Dr n l l'):l.drop n=l':=by
 induction h with
 |z=>rfl
 |s _ ih=>exact ih
/-- the slots that the operations write are struck -/
def wrs (l:List Oper) (t:Nat):Bool:=l.any λo=>match o.dst with|some d=>Nat.beq d t|none=>false
inductive Kn (l:List Oper):Env->Env->Prop
 |nil:Kn l [] []
 |keep {t:Nat} {v:Value} {E E':Env}:wrs l t=false->Kn l E E'->Kn l ((t,v)::E) ((t,v)::E')
 |skip {t:Nat} {v:Value} {E E':Env}:wrs l t=true->Kn l E E'->Kn l ((t,v)::E) E'
theorem Kn.look{l:List Oper}{E E':Env}(h:Kn l E E'):∀{t v},Px.look E' t=some v->wrs l t=false/\Px.look E t=some v:=by
 induction h with
 |nil=>intro t v h;simp[Px.look]at h
 |keep h _ ih=>intro t v h2;simp only[Px.look]at h2 ⊢;split<;>simp_all
 |skip h _ ih=>intro t v h2;have h3:=ih h2;simp only[Px.look];split<;>simp_all
theorem Kn.fits{l:List Oper}{E E':Env}(h:Kn l E E')(hF:Fits E a):Fits E' a:=λt v hv=>hF t v (h.look hv).2
variable {E':Env} {l':List Oper}
theorem eA{id:Nat}(nA:Nat)(hk:Kn (l.take nA) E E':=by exact zKn)(pb:PB nA C l.toArray G E' 0 sp [] L H l sp:=by exact zT)(hl:Dr nA l l':=by exact zDr)(k:OJ C l.toArray Q l' (cP l.toArray sp [] [] (List.range nA)++E') D G L H)(hi:xd 0 l sp=true:=by kernel_rfl)(iF:(C.P.follows .mixedOrders&&(Be C.N l 0 nA [] sp [] E'&&Ae l nA))=true:=by kernel_rfl):CJ C (.region id l.toArray true) Q E D G L H:=λa W hN hD hF hS=>eW pb (wE (λ_ h=>h) (by rw[hl.eq];exact k)) hi iF a W hN hD (hk.fits hF) hS
theorem fA(n0 nA:Nat)(hk:Kn ((l.take nA).drop n0) E E':=by exact zKn)(pb:PB nA C l.toArray G E' n0 (ud n0 sp) [] L H (l.drop n0) sp:=by exact zT)(k:DJ C l.toArray Q nA (cP l.toArray (ud n0 sp) [] [] ((List.range nA).filter (Nat.ble n0))++E') D G L H)(hi:xd n0 l (ud n0 sp)=true:=by kernel_rfl)(iF:Be C.N l n0 nA [] (ud n0 sp) [] E'=true:=by kernel_rfl):DJ C l.toArray Q n0 E D G L H:=λa W h1 h2 h3 h4=>fW pb (wE (λ_ h=>h) k) hi iF a W h1 h2 (hk.fits h3) h4
theorem eS{id:Nat}(nA c:Nat)(rest:List Nat)(hk:Kn (l.take nA) E E':=by exact zKn)(pb:PB nA C l.toArray G E' 0 sp (c::rest) L H l sp:=by exact zT)(hl:Dr nA l l':=by exact zDr)(h:∀F Q',(∀v qI qJ,PW C l G E' D 0 sp (c::rest) (λvs L' H'=>OJ C l.toArray Q l' (cP l.toArray sp (c::rest) (sm vs) (List.range nA)++E') D G L' H') L H rest [v] qI qJ->PJ C Q' .normal (xa o v (cP l.toArray sp (c::rest) [] (oI 0 o)++(E'++F))) D G qI qJ)->OJ C l.toArray Q' [o] (cP l.toArray sp (c::rest) [] (oI 0 o)++(E'++F)) D G L H)(ho:l[c]? =some o:=by exact rfl)(hi:xd 0 l sp=true:=by kernel_rfl)(iF:(C.P.follows .mixedOrders&&(Be C.N l 0 nA (c::rest) sp (Af 0 (rest.length+1)) E'&&Ae l nA))=true:=by kernel_rfl):CJ C (.region id l.toArray true) Q E D G L H:=
 λa W hN hD hF hS=>eW pb (wN (vs:=[]) (λ_ h=>h) (by rw[hl.eq];exact h) ho) hi iF a W hN hD (hk.fits hF) hS
theorem fS(n0 nA c:Nat)(rest:List Nat)(hk:Kn ((l.take nA).drop n0) E E':=by exact zKn)(pb:PB nA C l.toArray G E' n0 (ud n0 sp) (c::rest) L H (l.drop n0) sp:=by exact zT)(h:∀F Q',(∀v qI qJ,PW C l G E' D n0 (ud n0 sp) (c::rest) (λvs L' H'=>DJ C l.toArray Q nA (cP l.toArray (ud n0 sp) (c::rest) (sm vs) ((List.range nA).filter (Nat.ble n0))++E') D G L' H') L H rest [v] qI qJ->PJ C Q' .normal (xa o v (cP l.toArray (ud n0 sp) (c::rest) [] (oI n0 o)++(E'++F))) D G qI qJ)->OJ C l.toArray Q' [o] (cP l.toArray (ud n0 sp) (c::rest) [] (oI n0 o)++(E'++F)) D G L H)(ho:l[c]? =some o:=by exact rfl)(hi:xd n0 l (ud n0 sp)=true:=by kernel_rfl)(iF:Be C.N l n0 nA (c::rest) (ud n0 sp) (Af 0 (rest.length+1)) E'=true:=by kernel_rfl):DJ C l.toArray Q n0 E D G L H:=
 λa W h1 h2 h3 h4=>fW pb (wN (vs:=[]) (λ_ h=>h) h ho) hi iF a W h1 h2 (hk.fits h3) h4
theorem St.un{w:World}(h:St G (w::L) H W):St G L H W:=h.lessL λ_ hw=>.tail _ hw
/-- as_ nDb; the number of the elements is said -/
def VN (_nA:Nat) (C:Cx) (ops:Array Oper) (G:Gh) (E:Env) (n0:Nat) (sp:Sp) (ch:List Nat) (Ph:TW) (l:List Oper) (ss:Sp):Prop:=tX C ops G E n0 sp ch Ph l ss
theorem sf(h:∀cv L' H',cv.length=ch.length->Mc ch (oI n0 o) cv=true->Ph cv L' H'->X C ops G L' H' (cP ops sp ch cv (oI n0 o)++E) (λ_=>True) o (λv _=>v=u))(t:VN nA C ops G E n0 sp ch Ph l tl):VN nA C ops G E n0 sp ch Ph (o::l) (some u::tl):=qc h t
theorem qtk(_hc:ch.any (Nat.beq (ops.size-(l.length+1)))=true)(t:VN nA C ops G E n0 sp ch Ph l tl):VN nA C ops G E n0 sp ch Ph (o::l) (none::tl):=t
theorem qtn(_h:Nat.beq (ops.size-l.length) nA=true):VN nA C ops G E n0 sp ch Ph l []:=pn
theorem dN{id:Nat}(nA:Nat)(ch:List Nat)(ky:List (List Nat))(Ph:TW)(h0:Ph (ch.map λ_=>none) L H)(pure:VN nA C l.toArray G E 0 sp ch Ph l sp)(step:gH C l G E D 0 sp ch ky Ph 0 ch)(fin:∀cv L' H',cv.length=ch.length->cv.all (λx=>x.isSome)=true->Ph cv L' H'->OJ C l.toArray Q (l.drop nA) (cP l.toArray sp ch cv (List.range nA)++E) D G L' H')(iF:(C.P.follows .mixedOrders&&(Be C.N l 0 nA ch sp ky E&&Ae l nA))=true:=by kernel_rfl):CJ C (.region id l.toArray true) Q E D G L H:=nMi nA ch sp ky Ph h0 pure step fin iF
end
end Px
namespace Px
/-! plain arithmetic: products and quotients of 128 bits -/
theorem HR(x y:Nat)(hx:x<2^64)(hy:y<2^64):(x/2^32)*(y/2^32)+((x/2^32)*(y%2^32)+(x%2^32)*(y%2^32)/2^32)/2^32+(((x/2^32)*(y%2^32)+(x%2^32)*(y%2^32)/2^32)%2^32+(x%2^32)*(y/2^32))/2^32=x*y/2^64:=by
 have h1:=Bk x (2^32);have h2:=Bk y (2^32);generalize x/2^32=x1 at *;generalize x%2^32=x0 at *;generalize y/2^32=y1 at *;generalize y%2^32=y0 at *;have e:x*y=2^64*(x1*y1)+2^32*(x1*y0)+2^32*(x0*y1)+x0*y0:=by
  rw[<-h1,<-h2];have:(2^64:Nat)=2^32*2^32:=by decide
  rw[this];simp only[pK,Nat.mul_add];have a1:2^32*x1*(2^32*y1)=2^32*2^32*(x1*y1):=by
   rw[Nat.mul_mul_mul_comm]
  have a2:2^32*x1*y0=2^32*(x1*y0):=Nat.mul_assoc _ _ _;have a3:x0*(2^32*y1)=2^32*(x0*y1):=Nat.mul_left_comm _ _ _;omega
 all_goals grind
theorem nfp(u y1 y0 un q:Nat)(Bi:2^31<=y1)(H8:y0<2^32)(I7:un<2^32)(hq:q=u/y1):(u*2^32+un)/(y1*2^32+y0)<=q:=by
 subst hq;apply Nat.le_of_lt_succ;rw[Nat.div_lt_iff_lt_mul aa];have h:=Nat.lt_succ_self (u/y1);have h2:=Bk u y1;have h3:=Nat.mod_lt u (show 0<y1 by omega);all_goals grind
theorem ndg(u y1 y0 un q r:Nat)(hr:u=q*y1+r):(r*2^32+un<q*y0)↔u*2^32+un<q*(y1*2^32+y0):=by grind
def dd (n:Nat):Nat:=if n=0 then 0 else Nat.log2 n+1
theorem nio(n k:Nat)(h:2^k<=n):dd n=dd (n/2^k)+k:=by
 have hp:0<2^k:=Nat.two_pow_pos k;have hn:n≠0:=by omega
 have hq:n/2^k≠0:=by
  have:=Nat.div_pos h hp;omega
 unfold dd;rw[if_neg hn,if_neg hq];have:Nat.log2 n=Nat.log2 (n/2^k)+k:=by
  have h1:=Nat.log2_self_le hq;have h2:=Nat.lt_log2_self (n:=n/2^k);refine(Nat.log2_eq_iff hn).2 ⟨?_,?_⟩
  ·rw[Nat.pow_add];exact dR (wg _ h1) (Nat.div_mul_le_self n (2^k))
  rw[show Nat.log2 (n/2^k)+k+1=(Nat.log2 (n/2^k)+1)+k by omega,Nat.pow_add];exact(Nat.div_lt_iff_lt_mul hp).1 h2
 omega
theorem nlh(n k:Nat)(h:n<2^k):dd n<=k:=by
 unfold dd;split
 ·omega
 rename_i hn;have:=(Nat.log2_lt hn).2 h;omega
theorem n2h(n:Nat)(h:n≠0):2^(dd n-1)<=n/\n<2^dd n/\1<=dd n:=by
 unfold dd;rw[if_neg h];exact⟨by simpa using Nat.log2_self_le h,Nat.lt_log2_self,by omega⟩
/-! the quotient of 128 bits by 64 -/
theorem nro(y:Nat)(hy:0<y)(Bi:y<2^64):dd y<=64/\2^63<=y*2^(64-dd y)/\y*2^(64-dd y)<2^64:=by
 have hb:=nlh y 64 Bi;obtain⟨h1,h2,h3⟩:=n2h y aa;refine⟨hb,?_,?_⟩
 ·have:2^(dd y-1)*2^(64-dd y)<=y*2^(64-dd y):=wg _ h1;rw[<-Nat.pow_add,show dd y-1+(64-dd y)=63 by omega]at this;exact this
 have:y*2^(64-dd y)<2^dd y*2^(64-dd y):=Nat.mul_lt_mul_of_pos_right h2 (Nat.two_pow_pos _);rw[<-Nat.pow_add,show dd y+(64-dd y)=64 by omega]at this;exact this
theorem nVm(lo s:Nat)(hs:s<=64):lo*2^s/2^64=lo/2^(64-s):=by
 have:(2:Nat)^64=2^(64-s)*2^s:=by
  have:=Nat.pow_add 2 (64-s) s;rwa[Nat.sub_add_cancel hs]at this
 rw[this,Nat.mul_div_mul_right _ _ (Nat.two_pow_pos s)]
theorem nFo(hi lo y s:Nat)(hs:s<=64)(h:hi<y)(H7:lo<2^64):(hi*2^s+lo/2^(64-s))*2^64+lo*2^s%2^64=(hi*2^64+lo)*2^s/\hi*2^s+lo/2^(64-s)<y*2^s:=by
 have h1:=Bk (lo*2^s) (2^64);rw[nVm lo s hs]at h1;have e:(hi*2^s+lo/2^(64-s))*2^64+lo*2^s%2^64=(hi*2^64+lo)*2^s:=by
  have e1:(hi*2^64+lo)*2^s=hi*2^s*2^64+lo*2^s:=by
   rw[pK,Nat.mul_right_comm]
  rw[e1];generalize lo*2^s=z at *;generalize hi*2^s=z' at *;omega
 refine⟨e,?_⟩;have h2:(hi*2^64+lo)*2^s<(y*2^s)*2^64:=by
  have:hi*2^64+lo<y*2^64:=by
   have:(hi+1)*2^64<=y*2^64:=wg _ h;rw[pK]at this;omega
  rw[Nat.mul_right_comm];exact Nat.mul_lt_mul_of_pos_right this (Nat.two_pow_pos s)
 all_goals grind
theorem MP(u v Y r1 B:Nat)(hr:(u*B+v/B)%Y=r1):u*(B*B)+v=((u*B+v/B)/Y*B+(r1*B+v%B)/Y)*Y+(r1*B+v%B)%Y:=by
 have h1:=Bk (u*B+v/B) Y;have h2:=Bk (r1*B+v%B) Y;have h3:=Bk v B;all_goals grind
theorem n3b(u v Y r1:Nat)(hr:(u*2^32+v/2^32)%Y=r1):u*2^64+v=((u*2^32+v/2^32)/Y*2^32+(r1*2^32+v%2^32)/Y)*Y+(r1*2^32+v%2^32)%Y:=by
 have:=MP u v Y r1 (2^32) hr;rw[<-this]
theorem n2b(hi lo y s Qn R:Nat)(hR:R<y*2^s)(h:(hi*2^64+lo)*2^s=Qn*(y*2^s)+R):(hi*2^64+lo)/y=Qn/\(hi*2^64+lo)%y=R/2^s:=by
 have hp:0<2^s:=Nat.two_pow_pos s;generalize hi*2^64+lo=N at *;generalize 2^s=p at *;have hy:0<y:=by
  rcases Nat.eq_zero_or_pos y with rfl|h
  ·simp at hR
  exact h
 have e:R=(N-Qn*y)*p:=by
  rw[Nat.sub_mul,Nat.mul_assoc];omega
 have hle:Qn*y<=N:=by
  apply Nat.le_of_mul_le_mul_right (c:=p) _ hp;rw[Nat.mul_assoc];omega
 have hlt:N-Qn*y<y:=by
  rw[e]at hR;exact Nat.lt_of_mul_lt_mul_right hR
 have hd:R/p=N-Qn*y:=by rw[e,Nat.mul_div_cancel _ hp]
 have hN:N=y*Qn+(N-Qn*y):=by rw[H9 y Qn];omega
 rw[hd];constructor
 ·rw[hN,Nat.mul_add_div hy,Nat.div_eq_of_lt hlt];rfl
 have:(y*Qn+(N-Qn*y))%y=N-Qn*y:=by rw[Nat.mul_add_mod,Nat.mod_eq_of_lt hlt]
 rw[<-hN]at this;exact this
structure tu (u y1 y0 un q r:Nat):Prop where
 eq:q*y1+r=u
 lt:r<2^32
 ge:(u*2^32+un)/(y1*2^32+y0)<=q
 le:q<=2^32+1
section
variable {u y1 y0 un q r:Nat}
theorem tu.start(Bi:2^31<=y1)(aov:y1<2^32)(H8:y0<2^32)(I7:un<2^32)(hu:u<y1*2^32+y0):tu u y1 y0 un (u/y1) (u%y1):=by
 have h1:=Nat.mod_lt u (show 0<y1 by omega);refine⟨?_,by omega,nfp u y1 y0 un _ Bi H8 I7 rfl,?_⟩
 ·rw[H9];exact Bk u y1
 apply Nat.le_of_lt_succ;rw[Nat.div_lt_iff_lt_mul aa];rw[Nat.succ_eq_add_one];omega
theorem tu.small(Bi:2^31<=y1)(hu:u<y1*2^32+y0)(I7:un<2^32):(u*2^32+un)/(y1*2^32+y0)<2^32:=by
 rw[Nat.div_lt_iff_lt_mul aa];omega
theorem tu.stop(h:tu u y1 y0 un q r)(Bi:2^31<=y1)(ht:q*y0<=r*2^32+un):(u*2^32+un)/(y1*2^32+y0)=q:=by
 have h1:=ndg u y1 y0 un q r h.eq.symm;have h2:q*(y1*2^32+y0)<=u*2^32+un:=Nat.le_of_not_lt λhl=>by have:=h1.2 hl;omega
 have h3:=(Nat.le_div_iff_mul_le (show 0<y1*2^32+y0 by omega)).2 h2;have:=h.ge;omega
theorem tu.more(h:tu u y1 y0 un q r)(Bi:2^31<=y1)(hu:u<y1*2^32+y0)(I7:un<2^32)(ht:2^32<=q\/r*2^32+un<q*y0):1<=q/\(q-1)*y1+(r+y1)=u/\(u*2^32+un)/(y1*2^32+y0)<=q-1:=by
 have hlt:(u*2^32+un)/(y1*2^32+y0)<q:=by
  rcases ht with ht|ht
  ·exact mx (tu.small Bi hu I7) ht
  have:=(ndg u y1 y0 un q r h.eq.symm).1 ht;rw[Nat.div_lt_iff_lt_mul aa];exact this
 have hq:1<=q:=Nat.succ_le_of_lt (Nat.lt_of_le_of_lt (cR _) hlt);refine⟨hq,?_,Nat.le_sub_one_of_lt hlt⟩;have:=h.eq;rw[Nat.sub_mul,Nat.one_mul];have:y1<=q*y1:=Nat.le_mul_of_pos_left _ hq;omega
theorem nub(hq:q<=2^32)(hr:2^32<=r)(he:q*y1+r=u)(jE:(u*2^32+un)/(y1*2^32+y0)<=q)(Bi:2^31<=y1)(H8:y0<2^32):(u*2^32+un)/(y1*2^32+y0)=q:=by
 have h1:=ndg u y1 y0 un q r he.symm;have hb:q*y0<=2^32*(2^32-1):=Nat.mul_le_mul hq aa;have h2:q*(y1*2^32+y0)<=u*2^32+un:=Nat.le_of_not_lt λhl=>by have:=h1.2 hl;omega
 have h3:=(Nat.le_div_iff_mul_le (show 0<y1*2^32+y0 by omega)).2 h2;omega
end
theorem MQ(a b i:Nat)(hb:b<2^i):a*2^i|||b=a*2^i+b:=by
 rw[H9];exact(Nat.two_pow_add_eq_or_of_lt hb a).symm
end Px
namespace Px
open Go
theorem M3{a b A B:Int}(ha:0<=a)(gj:a<=A)(hb:0<=b)(hb1:b<=B):0<=a*b/\a*b<=A*B:=
 ⟨Int.mul_nonneg ha hb,Int.mul_le_mul gj hb1 hb (Int.le_trans ha gj)⟩
theorem n9o(x y:Int)(hx:0<=x)(hy:0<=y)(O5:x<18446744073709551616)(Bi:y<18446744073709551616):(x/4294967296)*(y/4294967296)+((x/4294967296)*(y%4294967296)+(x%4294967296)*(y%4294967296)/4294967296)/4294967296+(((x/4294967296)*(y%4294967296)+(x%4294967296)*(y%4294967296)/4294967296)%4294967296+(x%4294967296)*(y/4294967296))/4294967296=x*y/18446744073709551616:=by
 obtain⟨a,rfl⟩:=M8 hx;obtain⟨b,rfl⟩:=M8 hy;have:=HR a b aa aa;all_goals grind
def qK (x:Int):Int:=dd x.toNat
theorem nje(n k:Nat):((n:Int)/2^k)=((n/2^k:Nat):Int):=by
 rw[Int.natCast_ediv];simp
theorem ndn{x:Int}(k:Nat)(h:2^k<=x):qK x=qK (x/2^k)+k:=by
 have h0:0<=x:=Int.le_trans (Int.le_of_lt (Int.pow_pos zA)) h;obtain⟨n,rfl⟩:=M8 h0;unfold qK;have h':2^k<=n:=by
  have:((2^k:Nat):Int)<=n:=by simpa using h
  exact Int.ofNat_le.1 this
 rw[nje,yz,yz,nio n k h'];simp
theorem nem{x:Int}(k:Nat)(h0:0<=x)(h:x<2^k):0<=qK x/\qK x<=k:=by simp_all[nlh,qK]
theorem C2(m s:Nat)(hs:s<=64)(h:m*2^s<18446744073709551616):IntKind.u64.wrap ((m:Int)*2^(min (Int.toNat (s:Int)) IntKind.u64.bits))=((m*2^s:Nat):Int):=by
 rw[show min (Int.toNat (s:Int)) IntKind.u64.bits=s by simp[IntKind.bits]<;>omega];all_goals grind [OS]
theorem Ja(m s:Nat)(hs:s<=64):IntKind.u64.wrap ((m:Int)*2^(min (Int.toNat (s:Int)) IntKind.u64.bits))=((m*2^s%2^64:Nat):Int):=by
 rw[show min (Int.toNat (s:Int)) IntKind.u64.bits=s by simp[IntKind.bits]<;>omega];all_goals grind [nC]
theorem Pa(m s:Nat)(k:Int)(hk:k=((64-s:Nat):Int)):(m:Int).fdiv (2^(min (Int.toNat k) IntKind.u64.bits))=((m/2^(64-s):Nat):Int):=by
 subst hk;rw[show min (Int.toNat ((64-s:Nat):Int)) IntKind.u64.bits=64-s by simp[IntKind.bits]<;>omega,WZ,nje]
theorem nsc(m s:Nat)(hs:s<=64):(m:Int).fdiv (2^(min (Int.toNat (s:Int)) IntKind.u64.bits))=((m/2^s:Nat):Int):=by
 rw[show min (Int.toNat (s:Int)) IntKind.u64.bits=s by simp[IntKind.bits]<;>omega,WZ,nje]
theorem abA(k:Nat)(hk:k<18446744073709551616):(BitVec.ofInt IntKind.u64.bits (k:Int)).toNat=k:=by
 rw[BitVec.ofInt_natCast,BitVec.toNat_ofNat];exact Nat.mod_eq_of_lt hk
theorem M5(a b i:Nat)(hb:b<2^i)(h:a*2^i+b<18446744073709551616):IntKind.u64.wrap ((BitVec.ofInt IntKind.u64.bits ((a*2^i:Nat):Int)|||BitVec.ofInt IntKind.u64.bits (b:Int)).toNat:Int)=((a*2^i+b:Nat):Int):=by
 rw[BitVec.toNat_or,abA _ aa,abA _ aa,MQ a b i hb];exact OS aa aa
theorem C3(lo s:Nat)(hs:s<=64)(h:lo<18446744073709551616):lo/2^(64-s)<2^s:=by
 rw[Nat.div_lt_iff_lt_mul (Nat.two_pow_pos _),<-Nat.pow_add,Nat.add_sub_cancel' hs];exact h
theorem nne(a b:Nat):((a:Int)/(b:Int))=((a/b:Nat):Int):=(Int.natCast_ediv a b).symm
theorem Nb(m i:Nat)(k:Int)(hk:k=(i:Int))(hi:i<=64):(m:Int).fdiv (2^(min (Int.toNat k) IntKind.u64.bits))=((m/2^i:Nat):Int):=by
 subst hk;exact nsc m i hi
end Px
namespace Px
open Go Go.RowKit
/-! #### own blocks that are forgotten -/
def Over (n:Nat):ad->Prop
 | []=>True
 |p::H=>n<=p.1/\Over n H
theorem Over.mem{n:Nat}{H:ad}(h:Over n H):∀p∈H,n<=p.1:=by
 exact z6g
section
variable {G:Gh} {L:List World} {H:ad} {W:World}
theorem St.base(h:St Gh.no L H W){w:World}(hw:w∈L)(ho:Over w.heap.size H):Below w.heap.size w W:=
 (h.links w hw).below λk hk hx=>by
  rcases hx with hx|hx
  ·exact hx
  obtain⟨p,hp,rfl⟩:=bW.1 hx;have:=ho.mem p hp;omega
def Fr (G:Gh) (L:List World) (b:Nat):Prop:=G.X b\/ae L b
variable {b:Nat} {o:Obj}
theorem St.dropF(h:St G L ((b,o)::H) W)(ha:Fr G L b):St G L H W where
 ghost:=h.ghost
 vlt:=h.vlt
 xlt:=h.xlt
 links:=λw hw=>(h.links w hw).mono λk hk hx=>by
  rcases hx with hx|hx
  ·exact .inl hx
  simp only[dy,bX]at hx;rcases hx with rfl|hx
  ·rcases ha with ha|ha
   ·exact .inl ha
   have:=ha.mem w hw;omega
  exact .inr hx
 own:=λp hp=>h.own p (List.mem_cons_of_mem _ hp)
 nodup:=λi j p q hi hj e=>by
  have:=h.nodup (i+1) (j+1) p q (by simpa using hi) (by simpa using hj) e;omega
 apart:=λp hp=>h.apart p (List.mem_cons_of_mem _ hp)
theorem St.drop(h:St G L ((b,o)::H) W)(ha:ae L b):St G L H W:=h.dropF (.inr ha)
theorem St.adopt(h:St G L H W)(hb:W.heap[b]? =some o)(ha:bA H b)(hV:¬G.V b):St G L ((b,o)::H) W where
 ghost:=h.ghost
 vlt:=h.vlt
 xlt:=h.xlt
 links:=λw hw=>(h.links w hw).mono λk _ hx=>hx.imp id λhx=>by simp[hx]
 own:=λp hp=>by
  simp only[bX]at hp;rcases hp with rfl|hp
  ·exact hb
  exact h.own p hp
 nodup:=λi j p q hi hj e=>by
  cases i with
  |zero=>
   cases j with
   |zero=>rfl
   |succ j=>
    simp only[Js,vM,Ij]at hi hj;subst hi;exact absurd (bW.2 ⟨q,cO hj,e.symm⟩) ha.mem
  |succ i=>
   cases j with
   |zero=>
    simp only[Js,vM,Ij]at hi hj;subst hj;exact absurd (bW.2 ⟨p,cO hi,e⟩) ha.mem
   |succ j=>
    simp only[Ij]at hi hj;rw[h.nodup i j p q hi hj e]
 apart:=λp hp=>by
  simp only[bX]at hp;rcases hp with rfl|hp
  ·exact hV
  exact h.apart p hp
end
/-! #### results -/
section
variable {C:Cx} {fn:Func} {R:Ending->World->Prop} {E:Env} {G:Gh} {L:List World} {H:ad}
def RS (C:Cx) (G:Gh) (L:List World) (H:ad) (E:Env):List ResultVar->List Value->Prop
 | [],vs=>vs=[]
 |r::rs,vs=>∃v us,vs=v::us/\(match r with
  | .tmp t=>look E t=some v
  | .cell t T=>∀a W,Fits E a->St G L H W->(do loadVar T (<-asAddr (a.tmps.getD t undef)):Sem Value).run C.P W= .ok v W)/\RS C G L H E rs us
theorem RS.run:∀{rs:List ResultVar} {vs:List Value},RS C G L H E rs vs->∀(a:Act) (W:World),Fits E a->St G L H W->(rs.mapM λr=>(match r with| .tmp t=>pure (a.tmps.getD t undef)| .cell b t=>do loadVar t (<-asAddr (a.tmps.getD b undef)):Sem Value)).run C.P W= .ok vs W
 | [],vs,h,a,W,_,_=>by cases h;simp
 |r::rs,vs,h,a,W,hF,hS=>by
  obtain⟨v,us,rfl,hr,h⟩:=h;have ih:=RS.run h a W hF hS;cases r with
  |tmp t=>
   have:=hF t v hr;simp only[Act.eval]at this;simp[-Array.getD_eq_getD_getElem?,List.mapM_cons,ih,this]
  |cell b T=>
   have:=hr a W hF hS;rw[List.mapM_cons,Sem.run_bind];simp only[this];simp[-Array.getD_eq_getD_getElem?,ih]
variable {rs:List ResultVar} {vs:List Value}
theorem RS.t{t:Nat}{v:Value}(h:look E t=some v)(k:RS C G L H E rs vs):RS C G L H E (.tmp t::rs) (v::vs):=⟨v,vs,rfl,h,k⟩
variable {cs:Array Value} {b i:Nat} {fr:Nat×Nat}
theorem RS.w{t T off ct:Nat}{v:Value}(hi:H[i]? =some (b,.cells cs ct fr))(hA:eI C.P T false)(hx:look E t=some (ptr b off))(hv:cs[off]? =some v)(k:RS C G L H E rs vs):RS C G L H E (.cell t T::rs) (v::vs):=
 ⟨v,vs,rfl,λa W hF hS=>by
  have:=hF t _ hx;simp only[Act.eval]at this;simp[-Array.getD_eq_getD_getElem?,this,asAddr,nEe hA (hS.own _ (cO hi)) hv],k⟩
theorem RS.wA{t T off ct n:Nat}(hi:H[i]? =some (b,.cells cs ct fr))(hA:eI C.P T true)(hZ:nJ C.P T n)(hx:look E t=some (ptr b off))(hv:off+n<=cs.size)(k:RS C G L H E rs vs):RS C G L H E (.cell t T::rs) (.agg (cut cs off n)::vs):=
 ⟨_,vs,rfl,λa W hF hS=>by
  have:=hF t _ hx;simp only[Act.eval]at this;simp[-Array.getD_eq_getD_getElem?,this,asAddr,nMg hA hZ (hS.own _ (cO hi)) hv],k⟩
theorem RS.r{t T off ct:Nat}{v:Value}{w1:World}(hA:eI C.P T false)(hx:look E t=some (ptr b off))(hm:w1∈L)(hb:w1.heap[b]? =some (.cells cs ct fr))(hG:¬G.X b)(hO:bA H b)(hv:cs[off]? =some v)(k:RS C G L H E rs vs):RS C G L H E (.cell t T::rs) (v::vs):=
 ⟨_,vs,rfl,λa W hF hS=>by
  have:=hF t _ hx;simp only[Act.eval]at this;simp[-Array.getD_eq_getD_getElem?,this,asAddr,nEe hA (hS.old hm hb hG hO) hv],k⟩
theorem RS.n:RS C G L H E [] []:=rfl
def Ma:List Value->Value
 | [v]=>v
 |vs=>.tuple vs.toArray
variable {a:Act} {W:World}
theorem RS.res(h:RS C G L H E rs vs)(hr:fn.results=rs.toArray)(hF:Fits E a)(hS:St G L H W):(results fn a.tmps).run C.P W= .ok (Ma vs) W:=by
 have:=h.run a W hF hS;unfold results;rw[hr,Sem.run_bind,List.mapM_toArray];simp only[Sem.run_map];refine(congrArg (λr=>Result.andThen (Result.andThen r _) _) this).trans ?_
 match vs with
 | []=>rfl
 | [v]=>rfl
 |v::u::vs=>simp[Ma]
theorem bK{e:Exit}(he:e= .ret\/e= .normal)(hr:fn.results=rs.toArray)(h:RS C G L H E rs vs)(hR:∀W,St G L H W->R (.returned (Ma vs)) W):PJ C (bodyPost C.P fn R) e E [] G L H:=λa W _ hD hF hS=>by
 have:bodyPost C.P fn R .ret a W:=⟨hD,_,h.res hr hF hS,hR W hS⟩;rcases he with rfl|rfl<;>exact this
theorem cC{v:Value}{w:World}{e:Exit}(he:e= .ret\/e= .normal)(hr:fn.results=rs.toArray)(h:RS C Gh.no L H E rs vs)(hw:w∈L)(ho:Over w.heap.size H)(hv:Ma vs=v):PJ C (bodyPost C.P fn (aL w v)) e E [] Gh.no L H:=bK he hr h λ_ hS=>⟨by rw[hv],hS.base hw ho⟩
/-! #### a callee that writes a block -/
def Jk (w:World) (v:Value) (b:Nat) (o:Obj):Ending->World->Prop:=λe w'=>e= .returned v/\aH (· =b) w w'/\w'.heap[b]? =some o
variable {o:Obj}
theorem n1l{w:World}(h:w.heap[b]? =some o):St Gh.no [w] [(b,o)] w where
 ghost:=trivial
 vlt:=λ_ h=>h.elim
 xlt:=λ_ h=>h.elim
 links:=λw' hw=>by simp at hw;subst hw;exact aH.refl _ _
 own:=λp hp=>by simp at hp;subst hp;exact h
 nodup:=λi j p q hi hj _=>by
  have h1:=(iv.1 hi).1;have h2:=(iv.1 hj).1;simp at h1 h2;omega
 apart:=λ_ _ h=>h.elim
end
section
variable {C:Cx} {Q:aY} {E:Env} {D:List Deferred} {G:Gh} {L:List World} {H:ad} {ops:Array Oper} {l:List Oper}
variable {d T ty f:Nat} {pos:String} {aC:Array Edge} {g:Option (Nat×Bool)} {x y:Operand} {xs:List Operand} {vs:List Value} {eC:Array Nat}
theorem Bo{v:Value}{cap:List Value}(hx:ev E x=some (.func (.func f) #[] cap.toArray))(az:ew C.P f)(hw:nl ops E g=some true)(hN:Nat.blt d C.N=true)(ha:ja E xs=some vs)(hc:∀W,St G L H W->Calls C.P f (vs++cap).toArray W (aL W v))(k:OJ C ops Q l ((d,v)::E) D G L H):OJ C ops Q (⟨some d,.call ⟨.value x,xs.toArray,eC⟩,ty,pos,aC,g⟩::l) E D G L H:=
 nI rfl hw hx ha zI az λa W jb hD hF hS=>(hc W hS).mono (by
  rintro e W' ⟨rfl,hb⟩;exact k (a.put (some d) v) W' z6 z4 (hF.put _ z5) (hS.step hb))
variable {b i:Nat} {o:Obj}
theorem V4{v:Value}{first cap:List Value}{o':Obj}(hi:H[i]? =some (b,o))(hx:ev E x=some (.func (.func f) first.toArray cap.toArray))(az:ew C.P f)(hw:nl ops E g=some true)(hN:Nat.blt d C.N=true)(ha:ja E xs=some vs)(hc:∀W,St G L H W->W.heap[b]? =some o->Calls C.P f (first++vs++cap).toArray W (Jk W v b o'))(k:OJ C ops Q l ((d,v)::E) D G L (H.set i (b,o'))):OJ C ops Q (⟨some d,.call ⟨.value x,xs.toArray,eC⟩,ty,pos,aC,g⟩::l) E D G L H:=
 nI rfl hw hx ha zI az λa W jb hD hF hS=>(hc W hS (hS.own _ (cO hi))).mono (by
  rintro e W' ⟨rfl,hk,hb⟩;exact k (a.put (some d) v) W' z6 z4 (hF.put _ z5) (hS.put hi hk hb))
variable {H':ad}
theorem OJ.reH(e:H=H')(k:OJ C ops Q l E D G L H'):OJ C ops Q l E D G L H:=by rw[e];exact k
theorem CJ.reH{c:Code}(e:H=H')(k:CJ C c Q E D G L H'):CJ C c Q E D G L H:=by rw[e];exact k
theorem PJ.reH{e':Exit}(e:H=H')(k:PJ C Q e' E D G L H'):PJ C Q e' E D G L H:=by rw[e];exact k
theorem PJ.drop{e':Exit}(ha:ae L b)(k:PJ C Q e' E D G L H):PJ C Q e' E D G L ((b,o)::H):=λa W hN hD hF hS=>k a W hN hD hF (hS.drop ha)
variable {e:Nat}
/-! #### values -/
theorem i6{base:Option Addr}{n c:Nat}{t:Nat}(hU:C.P.underlying t=some (.slice e))(hx:ev E x=some (.slice base n c)):RV C G L H E (.call ⟨.builtin .len,#[x],#[t]⟩) (.int .i64 (n:Int)):=λd ty pos aC g a W hF _=>by
 simp[execOp,hF.ev hx,resolve,invoke,Deferred.ofValue,builtin,Builtin.len_,run_underlying hU,goInt]
end
section
variable {C:Cx} {Q:aY} {E:Env} {D:List Deferred} {G:Gh} {L:List World} {H:ad} {ops:Array Oper} {l:List Oper}
variable {d T ty f:Nat} {pos:String} {aC:Array Edge} {g:Option (Nat×Bool)} {x y:Operand} {xs:List Operand} {vs:List Value} {eC:Array Nat}
def MR (E:Env):List (Nat×Operand)->Option (List (Nat×Value))
 | []=>some []
 |(i,x)::ps=>match ev E x,MR E ps with
  |some v,some vs=>some ((i,v)::vs)
  |_,_=>none
theorem TZ{a:Act}(h:Fits E a):∀(ps:List (Nat×Operand)) (vs:List (Nat×Value)),MR E ps=some vs->ps.map (λ(i,x)=>(i,a.eval x))=vs
 | [],vs,e=>by cases e;rfl
 |(i,x)::ps,vs,e=>by
  simp only[MR]at e;split at e
  ·rename_i v us hv hus;cases e
   simp[h.ev hv,TZ h ps us hus]
  cases e
theorem HS(xs:List Value):∀(cs:Array Value) (off k:Nat),(xs.zipIdx k).foldl (λcs (c,j)=>cs.setIfInBounds (off+j) c) cs=setCells cs (off+k) xs:=by
 induction xs with
 |nil=>intro cs off k;rfl
 |cons x xs ih=>intro cs off k;simp only[List.zipIdx_cons,List.foldl_cons,setCells];exact ih _ off (k+1)
theorem nzp(xs cs:Array Value)(off:Nat):xs.zipIdx.foldl (λcs (c,j)=>cs.setIfInBounds (off+j) c) cs=setCells cs off xs.toList:=by
 rw[<-Array.foldl_toList,Array.toList_zipIdx];exact HS xs.toList cs off 0
def jx:List Value->Nat->List Value->List Value
 | [],_,_=>[]
 |c::cs,0,[]=>c::cs
 |_::cs,0,x::xs=>x::jx cs 0 xs
 |c::cs,n+1,xs=>c::jx cs n xs
theorem nUh(cs:List Value)(n:Nat):jx cs n []=cs:=by
 induction cs generalizing n with
 |nil=>cases n<;>rfl
 |cons c cs ih=>cases n with
  |zero=>rfl
  |succ n=>simp[jx,ih]
theorem HT(cs:List Value)(x:Value)(xs:List Value):∀n,jx (cs.set n x) (n+1) xs=jx cs n (x::xs):=by
 induction cs with
 |nil=>intro n;cases n<;>rfl
 |cons c cs ih=>intro n;cases n with
  |zero=>rfl
  |succ n=>simp only[dX,jx];rw[ih]
theorem nU(xs:List Value):∀(cs:Array Value) (off:Nat),(setCells cs off xs).toList=jx cs.toList off xs:=by induction xs<;>grind [nUh,setCells,HT]
theorem HU(cs xs:Array Value)(h:cs.size=xs.size):setCells cs 0 xs.toList=xs:=by
 apply Array.ext';rw[nU];have key:∀(l r:List Value),l.length=r.length->jx l 0 r=r:=by
  intro l;induction l with
  |nil=>intro r h;simp at h;have:=lN h.symm;subst this;rfl
  |cons c l ih=>intro r h;cases r with
   |nil=>simp at h
   |cons x r=>simp only[jx];rw[ih r Bj]
 exact key _ _ Bj
variable {cs:Array Value} {b i:Nat}
theorem ie{t n:Nat}{v:Value}(hi:H[i]? =some (b,.cells cs t (0,0)))(hZ:nJ C.P T n)(hw:nl ops E g=some true)(hx:ev E x=some (ptr b 0))(hy:ev E y=some v)(hv:v.cells.size=n)(hn:cs.size=n)(h1:aZ v.cells.toList=true)(k:OJ C ops Q l E D G L (H.set i (b,.cells v.cells t (0,0)))):OJ C ops Q (⟨none,.store T x y,ty,pos,aC,g⟩::l) E D G L H:=
 kY hi hZ hw hx hy hv aa h1 (by rw[HU cs v.cells aa];exact k)
def OV (pl:Nat->Option (Nat×Nat)):List Value->List (Nat×Value)->Option (List Value)
 |cs,[]=>some cs
 |cs,(i,v)::ps=>match pl i with
  |none=>none
  |some (off,n)=>match Nat.beq v.cells.size n&&Nat.ble (off+n) cs.length with
   |true=>OV pl (jx cs off v.cells.toList) ps
   |false=>none
theorem T0{pl:Nat->Option (Nat×Nat)}:∀{ps:List (Nat×Value)} {cs:Array Value} {ds:List Value},OV pl cs.toList ps=some ds->Instr.fill pl cs ps=some ds.toArray
 | [],cs,ds,h=>by simp only[OV,vM]at h;subst h;rfl
 |(i,v)::ps,cs,ds,h=>by
  simp only[OV]at h;unfold Instr.fill;cases hp:pl i with
  |none=>rw[hp]at h;simp at h
  |some q=>
   obtain⟨off,n⟩:=q;rw[hp]at h;simp only at h ⊢;split at h
   ·rename_i hb;simp only[oS,Nat.beq_eq,Nat.ble_eq]at hb;have h1:v.cells.size=n:=hb.1;have h2:off+n<=cs.size:=by simpa using hb.2
    rw[if_neg oN,nzp];exact T0 (by rw[nU];exact h)
   simp at h
def Ag:Nat->List Value->List (Nat×Value)
 |_,[]=>[]
 |k,v::vs=>(k,v)::Ag (k+1) vs
def nZ:List Value->List Value
 | []=>[]
 |v::vs=>v.cells.toList++nZ vs
def T3 (m:Nat):List Value->Bool
 | []=>true
 |v::vs=>Nat.beq v.cells.size m&&T3 m vs
theorem nud(a b c xs:List Value)(h:xs.length=b.length):jx (a++(b++c)) a.length xs=a++(xs++c):=by
 induction a with
 |nil=>
  simp only[eL,fh];induction b generalizing xs with
  |nil=>simp at h;subst h;simp[nUh]
  |cons y b ih=>
   cases xs with
   |nil=>simp at h
   |cons x xs=>simp only[ig,jx];rw[ih xs Bj]
 |cons y a ih=>simp only[ig,dF,jx];rw[ih]
theorem nJe(m:Nat):∀(vs:List Value) (k:Nat) (a c:List Value),T3 m vs=true->a.length=k*m->c.length=vs.length*m->OV (λi=>some (i*m,m)) (a++c) (Ag k vs)=some (a++nZ vs)
 | [],k,a,c,_,_,hc=>by
  have:c=[]:=lN (by simpa using hc);subst this;rfl
 |v::vs,k,a,c,hs,ha,hc=>by
  simp only[T3,oS,Nat.beq_eq]at hs;simp only[dF,pK,Nat.one_mul]at hc;simp only[Ag,OV];have hv:v.cells.toList.length=m:=by simpa using hs.1
  obtain⟨b,c',rfl,hb⟩:∃b c',c=b++c'/\b.length=m:=⟨c.take m,c.drop m,(AB m c).symm,by simp;omega⟩;have ht:(Nat.beq v.cells.size m&&Nat.ble (k*m+m) (a++(b++c')).length)=true:=by
   simp only[oS,Nat.beq_eq,Nat.ble_eq,cy]at *;omega
  rw[ht];simp only;rw[<-ha,nud a b c' _ aa];simp only[cy]at hc;have:=nJe m vs (k+1) (a++v.cells.toList) c' hs.2 (by rw[cy,pK];omega) aa;rw[iY]at this;rw[this,nZ,iY]
def sU (P:Program):List Field->List (Nat×Nat)->Prop
 | [],ps=>ps=[]
 |f::fs,ps=>∃n qs,ps=(f.offset,n)::qs/\nJ P f.type n/\sU P fs qs
theorem sU.n{P:Program}:sU P [] []:=rfl
theorem sU.c{P:Program}{fi:Field}{fs:List Field}{n:Nat}{qs:List (Nat×Nat)}(h:nJ P fi.type n)(k:sU P fs qs):sU P (fi::fs) ((fi.offset,n)::qs):=⟨n,qs,rfl,h,k⟩
theorem sU.run{P:Program}(W:World):∀{fs:List Field} {ps:List (Nat×Nat)},sU P fs ps->(fs.mapM λf=>Functor.map (Prod.mk f.offset) (sizeOf f.type):Sem _).run P W= .ok ps W
 | [],ps,h=>by cases h;simp
 |f::fs,ps,h=>by
  obtain⟨n,qs,rfl,hn,h⟩:=h;simp[List.mapM_cons,hn W,sU.run W h]
variable {ps:List (Nat×Operand)} {z:Value}
theorem zg{fs:List Field}{vs:List (Nat×Value)}{pl:List (Nat×Nat)}{cs:List Value}(hU:C.P.underlying T=some (.struct fs.toArray))(hz:Ab C.P T z)(hp:sU C.P fs pl)(ha:MR E ps=some vs)(hf':OV (pl[·]?) z.cells.toList vs=some cs):RV C G L H E (.build T ps.toArray) (.agg cs.toArray):=λd ty pos aC g a W hF _=>by
 have hf:=T0 hf';have h2:(ps.toArray).map (λ(i,x)=>(i,a.eval x))=vs.toArray:=by rw[CZ,TZ hF ps vs ha]
 have h3:=hp.run W;simp[execOp,h2,Instr.build,hz W,run_underlying hU,List.mapM_toArray,h3,hf]
variable {e m:Nat}
theorem Hj{n:Nat}{vs:List (Nat×Value)}{cs:List Value}(hU:C.P.underlying T=some (.array n e))(hz:Ab C.P T z)(hp:nJ C.P e m)(ha:MR E ps=some vs)(hf':OV (λi=>some (i*m,m)) z.cells.toList vs=some cs):RV C G L H E (.build T ps.toArray) (.agg cs.toArray):=λd ty pos aC g a W hF _=>by
 have hf:=T0 hf';have h2:(ps.toArray).map (λ(i,x)=>(i,a.eval x))=vs.toArray:=by rw[CZ,TZ hF ps vs ha]
 simp[execOp,h2,Instr.build,hz W,run_underlying hU,hp W,hf]
variable {a:Act} {W:World}
theorem nwd{P:Program}{n:Nat}{vs:List (Nat×Value)}(hU:P.underlying T=some (.slice e))(hp:nJ P e m)(hz:Ab P e z)(ha:ps.map (λ(i,x)=>(i,a.eval x))=vs)(T4:Nat.ble (n*m) 16777216=true)(hf:Instr.fill (λi=>some (i*m,m)) ((Array.range (n*m)).map (λj=>((if n*m=0 then #[]else z.cells)[j%(if n*m=0 then #[]else z.cells).size]!))) vs=some cs):(execOp a.eval ⟨some d,.buildSlice T n ps.toArray,ty,pos,aC,g⟩).run P W= .ok (.value (.slice (some ⟨W.heap.size,0,none⟩) n n)) (W.alloc (.cells cs e (0,0))):=by
 have h2:(ps.toArray).map (λ(i,x)=>(i,a.eval x))=vs.toArray:=by rw[CZ,ha]
 have abC:¬(n*m>2^24):=by have:=ea T4;omega
 by_cases h0:n*m=0
 ·rw[if_pos h0]at hf;simp[execOp,h2,Instr.buildSlice,run_underlying hU,hp W,newRow,newObj];rw[if_neg (by simpa using abC)];simp[h0]at hf ⊢;simp[hf,Sem.run]
 rw[if_neg h0]at hf;simp only[execOp,h2,Instr.buildSlice,Sem.run_bind,run_underlying hU,hp W,Result.andThen,if_neg abC,if_neg h0,hz W,Sem.run_pure,hf,newRow,newObj];simp[Sem.run]
theorem nTg{α:Type}(n:Nat)(f:Nat->α):((Array.range n).map f).toList.length=n:=by simp
theorem qT{n:Nat}{vs:List (Nat×Value)}(hU:C.P.underlying T=some (.slice e))(hp:nJ C.P e m)(hz:Ab C.P e z)(hw:nl ops E g=some true)(hN:Nat.blt d C.N=true)(ha:MR E ps=some vs)(T4:Nat.ble (n*m) 16777216=true)(hs:vs=Ag 0 (vs.map (·.2)))(hl:vs.length=n)(hm:T3 m (vs.map (·.2))=true)(k:∀(b:Nat) (w1:World),w1.heap[b]? =some (.cells (nZ (vs.map (·.2))).toArray e (0,0))->ae L b->bA H b->¬G.X b->w1.heap.size=b+1->OJ C ops Q l ((d,.slice (some ⟨b,0,none⟩) n n)::E) D G (w1::L) H):OJ C ops Q (⟨some d,.buildSlice T n ps.toArray,ty,pos,aC,g⟩::l) E D G L H:=
 qH zI hw hN λa W hF hS=>⟨_,_,_,_,nwd hU hp hz (TZ hF ps vs ha) T4 (T0 (by
  have:=nJe m (vs.map (·.2)) 0 [] ((Array.range (n*m)).map (λj=>((if n*m=0 then #[]else z.cells)[j%(if n*m=0 then #[]else z.cells).size]!))).toList hm zI (by rw[nTg,eQ,hl]);rw[<-hs,eL,eL]at this;exact this)),(hS.step (Zb W _)).snap,
  k W.heap.size _ (heap_alloc_new W _) hS.sizes hS.offNew hS.mNew zI⟩
theorem uh{n:Nat}{K:IntKind}{i:Int}{v:Value}(hU:C.P.underlying T=some (.array n e))(hA:eI C.P e false)(hZ:nJ C.P e m)(hx:ev E x=some (.agg cs))(hy:ev E y=some (.int K i))(h0:0<=i)(h1:i<n)(hv:cs[i.toNat*m]? =some v):RV C G L H E (.index T x y) v:=λd ty pos aC g a W hF _=>by
 simp[execOp,hF.ev hx,hF.ev hy,Instr.index,asIntOf,run_underlying hU,h0,h1,hZ W,part,hA W,hv]
end
/-! #### numbers of 32 bits -/
abbrev u32 (x:BitVec 32):Value:=.int .u32 (x.toNat:Int)
theorem B8(x:BitVec 32):IntKind.u32.wrap (x.toNat:Int)=(x.toNat:Int):=by
 rw[nZe];have:=x.isLt;omega
theorem Ce(x:BitVec 32):BitVec.ofInt IntKind.u32.bits (x.toNat:Int)=x:=by
 show BitVec.ofInt 32 (x.toNat:Int)=x;all_goals grind
section
variable {C:Cx} {E:Env} {G:Gh} {L:List World} {H:ad} {T U:Nat} {x y:Operand} {a b:BitVec 32}
theorem iW(hx:ev E x=some (u32 a))(hy:ev E y=some (u32 b)):RV C G L H E (.binOp .add T x y U) (u32 (a+b)):=
 RV.re (pC hx hy) (congrArg (Value.int .u32) (by rw[nZe,BitVec.toNat_add];omega))
theorem kI(hx:ev E x=some (u32 a))(hy:ev E y=some (u32 b)):RV C G L H E (.binOp .xor T x y U) (u32 (a^^^b)):=
 RV.re (yr hx hy) (congrArg (Value.int .u32) (by rw[Ce,Ce];exact B8 (a^^^b)))
theorem ym(hx:ev E x=some (u32 a))(hy:ev E y=some (u32 b)):RV C G L H E (.binOp .and T x y U) (u32 (a&&&b)):=
 RV.re (HG hx hy) (congrArg (Value.int .u32) (by rw[Ce,Ce];exact B8 (a&&&b)))
theorem Al(hx:ev E x=some (u32 a))(hy:ev E y=some (u32 b)):RV C G L H E (.binOp .or T x y U) (u32 (a|||b)):=
 RV.re (Aj hx hy) (congrArg (Value.int .u32) (by rw[Ce,Ce];exact B8 (a|||b)))
theorem Dd{K':IntKind}(j:Nat)(hj:j<=32){n:Int}(hn:n=(j:Int))(hx:ev E x=some (u32 a))(hy:ev E y=some (.int K' n)):RV C G L H E (.binOp .shl T x y U) (u32 (a<<<j)):=by
 subst hn;refine RV.re (qL hx hy (Int.natCast_nonneg _)) (congrArg (Value.int .u32) ?_);have e:min (Int.toNat (j:Int)) IntKind.u32.bits=j:=by simp[IntKind.bits];omega
 rw[e,nZe,BitVec.toNat_shiftLeft,Nat.shiftLeft_eq];simp
theorem yk{K':IntKind}(j:Nat)(hj:j<=32){n:Int}(hn:n=(j:Int))(hx:ev E x=some (u32 a))(hy:ev E y=some (.int K' n)):RV C G L H E (.binOp .shr T x y U) (u32 (a>>>j)):=by
 subst hn;refine RV.re (lT hx hy (Int.natCast_nonneg _)) (congrArg (Value.int .u32) ?_);have e:min (Int.toNat (j:Int)) IntKind.u32.bits=j:=by simp[IntKind.bits];omega
 rw[e,WZ,BitVec.toNat_ushiftRight,Nat.shiftRight_eq_div_pow];simp
theorem Pm{S T':Nat}{ds:TypeDesc}{K:IntKind}{m:Int}(HJ:C.P.underlying S=some ds)(hT:C.P.underlying T'=some (.int .u32))(hx:ev E x=some (.int K m)):RV C G L H E (.convert S T' x) (u32 (BitVec.ofInt 32 m)):=
 RV.re (kH HJ hT hx) (congrArg (Value.int .u32) (by rw[nZe,BitVec.toNat_ofInt];omega))
end
def Ak (v:BitVec 32) (n:Nat):BitVec 32:=v>>>n|||v<<<(32-n)
/-! #### cells by a function -/
def cf (n:Nat) (f:Nat->Value):Array Value:=((List.range n).map f).toArray
theorem Ni(n:Nat)(f:Nat->Value)(i:Nat)(h:i<n):(cf n f)[i]? =some (f i):=by simp[cf,h]
theorem Dg(n:Nat)(f:Nat->Value):(cf n f).size=n:=by simp[cf]
def Jo {α:Type} (f:Nat->α) (i:Nat) (v:α):Nat->α:=λj=>if j=i then v else f j
theorem Wb(n:Nat)(f:Nat->Value)(i:Nat)(v:Value):setCells (cf n f) i [v]=cf n (Jo f i v):=by
 apply Array.ext';rw[nU];simp only[cf];apply Co;intro j;have key:∀(l:List Value) (k:Nat),jx l k [v]=l.set k v:=by
  intro l;induction l with
  |nil=>intro k;cases k<;>rfl
  |cons c l ih=>intro k;cases k with
   |zero=>simp[jx,nUh]
   |succ k=>simp[jx,ih]
 all_goals grind [Jo]
theorem Um{n:Nat}{f g:Nat->Value}(h:∀i,i<n->f i=g i):cf n f=cf n g:=by grind [cf]
/-! #### SHA-256, as_ numbers -/
def alS:List (BitVec 32):=[1116352408,1899447441,3049323471,3921009573,961987163,1508970993,2453635748,2870763221,3624381080,310598401,607225278,1426881987,1925078388,2162078206,2614888103,3248222580,3835390401,4022224774,264347078,604807628,770255983,1249150122,1555081692,1996064986,2554220882,2821834349,2952996808,3210313671,3336571891,3584528711,113926993,338241895,666307205,773529912,1294757372,1396182291,1695183700,1986661051,2177026350,2456956037,2730485921,2820302411,3259730800,3345764771,3516065817,3600352804,4094571909,275423344,430227734,506948616,659060556,883997877,958139571,1322822218,1537002063,1747873779,1955562222,2024104815,2227730452,2361852424,2428436474,2756734187,3204031479,3329325298]
def kk (i:Nat):BitVec 32:=alS.getD i 0
def alT:List (BitVec 32):=[1779033703,3144134277,1013904242,2773480762,1359893119,2600822924,528734635,1541459225]
def hh (i:Nat):BitVec 32:=alT.getD i 0
def Uh (m:Nat->Int) (o:Nat):BitVec 32:=BitVec.ofInt 32 (m o)<<<24|||BitVec.ofInt 32 (m (o+1))<<<16|||BitVec.ofInt 32 (m (o+2))<<<8|||BitVec.ofInt 32 (m (o+3))
def s0 (x:BitVec 32):BitVec 32:=Ak x 7^^^Ak x 18^^^x>>>3
def s1 (x:BitVec 32):BitVec 32:=Ak x 17^^^Ak x 19^^^x>>>10
def gk (m:Nat->Int):Nat->Nat->BitVec 32
 |0=>λ_=>0
 |n+1=>Jo (gk m n) n (if n<16 then Uh m (4*n)else gk m n (n-16)+s0 (gk m n (n-15))+gk m n (n-7)+s1 (gk m n (n-2)))
structure S8 where
 a:BitVec 32
 b:BitVec 32
 c:BitVec 32
 d:BitVec 32
 e:BitVec 32
 f:BitVec 32
 g:BitVec 32
 h:BitVec 32
def chf (e f g:BitVec 32):BitVec 32:=(e&&&f)^^^((~~~ e)&&&g)
def maj (a b c:BitVec 32):BitVec 32:=(a&&&b)^^^(a&&&c)^^^(b&&&c)
theorem Jq(e f g:BitVec 32):g^^^(e&&&(f^^^g))=chf e f g:=by grind [chf]
theorem Jr(a b c:BitVec 32):(a&&&b)|||(c&&&(a|||b))=maj a b c:=by grind [maj]
def S8.P (s:S8) (k w:BitVec 32):BitVec 32:=s.h+(Ak s.e 6^^^Ak s.e 11^^^Ak s.e 25)+chf s.e s.f s.g+k+w
def S8.Q (s:S8):BitVec 32:=(Ak s.a 2^^^Ak s.a 13^^^Ak s.a 22)+maj s.a s.b s.c
def S8.step (s:S8) (k w:BitVec 32):S8:=⟨s.P k w+s.Q,s.a,s.b,s.c,s.d+s.P k w,s.e,s.f,s.g⟩
def S8.run (w:Nat->BitVec 32) (s:S8):Nat->S8
 |0=>s
 |n+1=>(S8.run w s n).step (kk n) (w n)
def S8.add (s t:S8):S8:=⟨s.a+t.a,s.b+t.b,s.c+t.c,s.d+t.d,s.e+t.e,s.f+t.f,s.g+t.g,s.h+t.h⟩
def S8.comp (s:S8) (m:Nat->Int):S8:=s.add (s.run (gk m 64) 64)
def S8.at (s:S8):Nat->BitVec 32
 |0=>s.a|1=>s.b|2=>s.c|3=>s.d|4=>s.e|5=>s.f|6=>s.g|_=>s.h
def S8.cells (s:S8):Array Value:=#[u32 s.a,u32 s.b,u32 s.c,u32 s.d,u32 s.e,u32 s.f,u32 s.g,u32 s.h]
def S8.init:S8:=⟨1779033703,3144134277,1013904242,2773480762,1359893119,2600822924,528734635,1541459225⟩
def gU (n:Nat):Nat:=(n+72)/64
def yo (n:Nat) (m:Nat->Int) (i:Nat):Int:=
 if i<n then m i else if i=n then 128 else if i<64*gU n-8 then 0 else((8*n/2^(8*(64*gU n-1-i)):Nat):Int)%256
def sx (n:Nat) (m:Nat->Int):Nat->S8
 |0=>S8.init
 |j+1=>(sx n m j).comp (λi=>yo n m (64*j+i))
def Dj (s:S8) (i:Nat):Int:=((s.at (i/4)).toNat/2^(24-8*(i%4))%256:Nat)
def vl (n:Nat) (m:Nat->Int):Nat->Int:=Dj (sx n m (gU n))
theorem nin(n:Nat)(m:Nat->Int):∀i,0<=vl n m i/\vl n m i<256:=λi=>by unfold vl Dj;omega
theorem S8.cells_cf(s:S8):s.cells=cf 8 (λi=>u32 (s.at i)):=rfl
theorem S8.cells_at(s:S8)(i:Nat)(h:i<8):s.cells[i]? =some (u32 (s.at i)):=by rw[S8.cells_cf];exact Ni 8 _ i h
theorem OE{α:Type}:∀(H:List α) (i:Nat) (p:α),H[i]? =some p->H.Perm (p::H.eraseIdx i)
 | [],i,p,h=>by simp at h
 |q::H,0,p,h=>by simp at h;subst h;simp
 |q::H,i+1,p,h=>by
  simp only[Ij]at h;simp only[yu];exact((OE H i p h).cons q).trans (List.Perm.swap _ _ _)
theorem n6f{α:Type}:∀(H:List α) (i:Nat) (q:α),i<H.length->(H.set i q).Perm (q::H.eraseIdx i)
 | [],i,q,h=>by simp at h
 |r::H,0,q,_=>by simp
 |r::H,i+1,q,h=>by
  simp only[dX,yu];exact((n6f H i q Bj).cons r).trans (List.Perm.swap _ _ _)
section
variable {G:Gh} {L:List World} {H:ad} {W:World}
variable {b i:Nat} {o:Obj}
theorem St.renew(h:St G L H W)(o':Obj)(hi:H[i]? =some (b,o))(ha:ae L b):St G L (H.set i (W.heap.size,o')) (W.alloc o'):=by
 have lB:=(iv.1 hi).1;have hp:H.Perm ((b,o)::H.eraseIdx i):=OE H i _ hi;have h1:=(h.perm hp).drop ha;exact(h1.alloc o').perm (n6f H i _ lB).symm
theorem St.dropAt(h:St G L H W)(hi:H[i]? =some (b,o))(ha:ae L b):St G L (H.eraseIdx i) W:=by
 have lB:=(iv.1 hi).1;have hp:H.Perm ((b,o)::H.eraseIdx i):=OE H i _ hi;exact(h.perm hp).drop ha
end
def Rd (C:Cx) (G:Gh) (L:List World) (H:ad) (size n:Nat) (v:Value) (news:List Value):Prop:=
 ∀W,St G L H W->(Builtin.firstCells size n v).run C.P W= .ok news.toArray W
section
variable {C:Cx} {Q:aY} {E:Env} {D:List Deferred} {G:Gh} {L:List World} {H:ad} {ops:Array Oper} {l:List Oper}
variable {d T ty f:Nat} {pos:String} {aC:Array Edge} {g:Option (Nat×Bool)} {x y:Operand} {xs:List Operand} {vs:List Value} {eC:Array Nat}
variable {cs:Array Value} {b size:Nat} {fr:Nat×Nat} {W:World}
theorem nkh{P:Program}{off n k c t:Nat}(h:W.heap[b]? =some (.cells cs t fr))(hn:off+n*size<=cs.size):(Builtin.firstCells size n (.slice (some ⟨b,off,none⟩) k c)).run P W= .ok (cut cs off (n*size)) W:=by
 simp only[Builtin.firstCells];rw[nig h hn,ndf]
variable {news:List Value} {i:Nat}
theorem Rd.own{n off k c t:Nat}(hi:H[i]? =some (b,.cells cs t fr))(hn:off+n*size<=cs.size)(he:(cs.toList.drop off).take (n*size)=news):Rd C G L H size n (.slice (some ⟨b,off,none⟩) k c) news:=λW hS=>by rw[nkh (hS.own _ (cO hi)) hn];unfold cut;rw[he]
theorem Rd.old{n off k c t:Nat}{w1:World}(hm:w1∈L)(hb:w1.heap[b]? =some (.cells cs t fr))(hG:¬G.X b)(hO:bA H b)(hn:off+n*size<=cs.size)(he:(cs.toList.drop off).take (n*size)=news):Rd C G L H size n (.slice (some ⟨b,off,none⟩) k c) news:=λW hS=>by rw[nkh (hS.old hm hb hG hO) hn];unfold cut;rw[he]
theorem Rd.nil{c:Nat}:Rd C G L H size 0 (.slice none 0 c) []:=λW _=>by simp[Builtin.firstCells]
theorem Rd.str{s:ByteArray}:Rd C G L H 1 s.size (.string s) (byteCells s):=λW _=>firstCells_string s W
structure oQ (C:Cx) (G:Gh) (L:List World) (H:ad) (size tx:Nat) (x:Value) (n:Nat) (news:List Value):Prop where
 kind:(∃e',C.P.underlying tx=some (.slice e'))\/C.P.underlying tx=some .string
 len:∀w':World,(Builtin.lenOf x).run C.P w'= .ok n w'
 rd:Rd C G L H size n x news
 newsLen:news.length=n*size
 one:∀u∈news,u.oneCell'=true
theorem oQ.src{tx:Nat}{v:Value}{n:Nat}(h:oQ C G L H size tx v n news)(hS:St G L H W):Src C.P size tx v n news W:=
 ⟨h.kind,h.len,h.rd W hS,h.rd W.drew (hS.step (D2 W _)),h.newsLen,h.one⟩
theorem oQ.sl{tx e' n c:Nat}{a:Option Addr}(hU:C.P.underlying tx=some (.slice e'))(hr:Rd C G L H size n (.slice a n c) news)(hl:news.length=n*size)(h1:∀u∈news,u.oneCell'=true):oQ C G L H size tx (.slice a n c) n news:=⟨.inl ⟨e',hU⟩,λ_=>rfl,hr,hl,h1⟩
theorem nXc(b:Nat):∀(news:List Value) (o:Nat) (W:World) (cs:Array Value) (t:Nat),W.heap[b]? =some (.cells cs t (0,0))->aH (· =b) W (W.setCells b o news)/\(W.setCells b o news).heap[b]? =some (.cells (setCells cs o news) t (0,0))
 | [],o,W,cs,t,h=>⟨aH.refl _ _,h⟩
 |v::vs,o,W,cs,t,h=>by
  obtain⟨h1,h2⟩:=nXc b vs (o+1) (W.setCell ⟨b,o,none⟩ v) _ t (nUg v h);exact⟨(nSg W b o v).trans h1,h2⟩
variable {e m:Nat} {z:Value}
theorem afb{n len cap t tx:Nat}{ti:TypeInfo}{sv:Value}{ys sp:List Value}(hi:H[i]? =some (b,.cells (ys++sp).toArray e (0,0)))(hU:C.P.underlying t=some (.slice e))(qq:C.P.info? e=some ti)(hz:ti.zero=some z)(hm:ti.size=m)(tF:z.cells.size=m)(hw:nl ops E g=some true)(hN:Nat.blt d C.N=true)(hx:ev E x=some (.slice (some ⟨b,0,none⟩) len cap))(hy:ev E y=some sv)(hs:oQ C G L H m tx sv n news)(hlen:ys.length=len*m)(vC:sp.length=(cap-len)*m)(Il:len<=cap)(ha:ae L b)(h63:len+n<=9223372036854775807)(mm:(len+n)*ti.bytes<=140737488355328)(k:∀(b' aR:Nat) (bT:List Value),ae L b'->len+n<=aR->bT.length=(aR-(len+n))*m->OJ C ops Q l ((d,.slice (some ⟨b',0,none⟩) (len+n) aR)::E) D G L (H.set i (b',.cells (ys++news++bT).toArray e (0,0)))):OJ C ops Q (⟨some d,.call ⟨.builtin .append,#[x,y],#[t,tx]⟩,ty,pos,aC,g⟩::l) E D G L H:=
 qH zI hw hN λa W hF hS=>by
  subst hm;have qu:=hs.src hS;have hb:=hS.own _ (cO hi);have hex:∀{v W'},(Builtin.append_ #[t,tx] ty #[.slice (some ⟨b,0,none⟩) len cap,sv]).run C.P W= .ok v W'->(execOp a.eval ⟨some d,.call ⟨.builtin .append,#[x,y],#[t,tx]⟩,ty,pos,aC,g⟩).run C.P W= .ok (.value v) W':=by
   intro v W' hr;simp[execOp,hF.ev hx,hF.ev hy,resolve,invoke,Deferred.ofValue,builtin,hr]
  have vZ:=hs.newsLen;by_cases iB:len+n<=cap
  ·have hle:(len+n)*ti.size<=cap*ti.size:=wg _ iB;have kZ:(ys++sp).toArray.size=cap*ti.size:=by
    simp only[qx,cy,hlen,vC];rw[<-pK];congr 1;omega
   rw[pK]at hle;have hr:=run_append_room_src (P:=C.P) W t tx ty e ti hU qq b 0 len cap sv n news qu iB
    (λj hj=>by rw[KB hb];simp only[lL];rw[aFq aa];rfl)
    (λj hj=>by simp[World.frozen?,hb])
   obtain⟨h1,h2⟩:=nXc b news (0+len*ti.size) W _ _ hb;have ke:(sp.drop (n*ti.size)).length=(cap-(len+n))*ti.size:=by
    rw[BF,vC,<-Nat.sub_mul];congr 1;omega
   have hc:setCells (ys++sp).toArray (0+len*ti.size) news=(ys++news++sp.drop (n*ti.size)).toArray:=by
    exact zxg
   rw[hc]at h2;exact⟨_,_,_,_,hex hr,hS.put hi h1 h2,k b cap _ ha iB ke⟩
  have hold:(Builtin.firstCells ti.size len (.slice (some ⟨b,0,none⟩) len cap)).run C.P W.drew= .ok ys.toArray W.drew:=by
   exact zSg
  have hr:=run_append_grow_src (P:=C.P) W t tx ty e ti z hU qq hz (some ⟨b,0,none⟩) len cap ys hold sv n news qu aa aa (growslice_fits aa mm);have hg:=grownCap_ge W (len+n) cap e;have gQ:=(hS.step (D2 W (W.drawn+1))).renew (.cells ((ys++news).toArray++Builtin.zeroCells z.cells (grownCap W (len+n) cap e-(len+n))) e (0,0)) hi ha;have BD:(Builtin.zeroCells z.cells (grownCap W (len+n) cap e-(len+n))).toList.length=(grownCap W (len+n) cap e-(len+n))*ti.size:=by
   simp[Builtin.zeroCells,tF]
  have hc:(ys++news).toArray++Builtin.zeroCells z.cells (grownCap W (len+n) cap e-(len+n))=(ys++news++(Builtin.zeroCells z.cells (grownCap W (len+n) cap e-(len+n))).toList).toArray:=by
   apply Array.ext';simp
  rw[hc]at gQ hr;exact⟨_,_,_,_,hex hr,gQ,k W.heap.size _ _ hS.sizes hg BD⟩
def BE (E:Env):Option Operand->Nat->Nat->Prop
 |none,d,l=>l=d
 |some o,_,l=>∃K i,ev E o=some (.int K i)/\i=(l:Int)
variable {a:Act}
theorem BE.val(hF:Fits E a):∀{lo:Option Operand} {d' l:Nat},BE E lo d' l->(lo.map a.eval=none/\l=d')\/∃K,lo.map a.eval=some (.int K (l:Int))
 |none,_,_,h=>.inl ⟨rfl,h⟩
 |some o,_,_,h=>by obtain⟨K,i,h,rfl⟩:=h;exact .inr ⟨K,by simp[hF.ev h]⟩
variable {hi:Option Operand}
theorem nmm{P:Program}(hF:Fits E a)(s:Bool){n c l h:Nat}{lo:Option Operand}(hl:BE E lo 0 l)(hh:BE E hi n h)(h1:l<=h)(h2:h<=c):(Instr.sliceBounds s n c (lo.map a.eval) (hi.map a.eval) none).run P W= .ok (l,h,c) W:=by
 rcases hl.val hF with⟨e1,e2⟩|⟨K,e1⟩<;>rcases hh.val hF with⟨f1,f2⟩|⟨K',f1⟩<;>rw[e1,f1]
 ·subst e2;subst f2;simp[Instr.sliceBounds]
 ·subst e2;simp[Instr.sliceBounds,Instr.sliceBound,asIntOf,h2]
 ·subst f2;simp[Instr.sliceBounds,Instr.sliceBound,asIntOf,h1]
 simp[Instr.sliceBounds,Instr.sliceBound,asIntOf,h1,h2]
theorem fZ{off n c l h off':Nat}{lo:Option Operand}(hU:C.P.underlying T=some (.slice e))(hZ:nJ C.P e m)(hx:ev E x=some (.slice (some ⟨b,off,none⟩) n c))(hl:BE E lo 0 l)(hh:BE E hi n h)(h1:l<=h)(h2:h<=c)(ho:off'=if c=l then off else off+l*m):RV C G L H E (.slice T x lo hi none) (.slice (some ⟨b,off',none⟩) (h-l) (c-l)):=λd ty pos aC g a W hF _=>by
 subst ho;have:=nmm (P:=C.P) (W:=W) hF true hl hh h1 h2;simp[execOp,hF.ev hx,Instr.sliceAt,Instr.slice,run_underlying hU,this,hZ W,TP];split<;>rfl
theorem Df{off n l h off':Nat}{lo:Option Operand}(hU:C.P.underlying T=some (.array n e))(hZ:nJ C.P e m)(hx:ev E x=some (ptr b off))(hl:BE E lo 0 l)(hh:BE E hi n h)(h1:l<=h)(h2:h<=n)(ho:off'=if n=l then off else off+l*m):RV C G L H E (.slice T x lo hi none) (.slice (some ⟨b,off',none⟩) (h-l) (n-l)):=λd ty pos aC g a W hF _=>by
 subst ho;have:=nmm (P:=C.P) (W:=W) hF false hl hh h1 h2;simp[execOp,hF.ev hx,Instr.sliceAt,run_underlying hU,Instr.sureAddr,this,hZ W,TP];split<;>rfl
theorem fE{off n c h:Nat}(hU:C.P.underlying T=some (.slice e))(hZ:nJ C.P e m)(hx:ev E x=some (.slice (some ⟨b,off,none⟩) n c))(hh:BE E hi n h)(h2:h<=c):RV C G L H E (.slice T x none hi none) (.slice (some ⟨b,off,none⟩) h c):=fZ (l:=0) hU hZ hx rfl hh (cR _) h2 (by split<;>omega)
theorem fF{off n h:Nat}(hU:C.P.underlying T=some (.array n e))(hZ:nJ C.P e m)(hx:ev E x=some (ptr b off))(hh:BE E hi n h)(h2:h<=n):RV C G L H E (.slice T x none hi none) (.slice (some ⟨b,off,none⟩) h n):=Df (l:=0) hU hZ hx rfl hh (cR _) h2 (by split<;>omega)
theorem T5{fn:Fn}{fs xs:List Operand}{us:List Value}(hf:ja E fs=some us)(ha:ja E xs=some vs):RV C G L H E (.makeFunc fn fs.toArray xs.toArray) (.func fn us.toArray vs.toArray):=λd ty pos aC g a W hF _=>by
 have h1:(fs.toArray).map a.eval=us.toArray:=by rw[CZ,MF hF fs us hf]
 have h2:(xs.toArray).map a.eval=vs.toArray:=by rw[CZ,MF hF xs vs ha]
 simp[execOp,Instr.makeFunc,h1,h2]
theorem py{a:Addr}(hx:ev E x=some (.pointer (some a))):RV C G L H E (.nilCheck x) (.pointer (some a)):=λd ty pos aC g a' W hF _=>by
 simp[execOp,hF.ev hx]
theorem yl{m:Int}(hx:ev E x=some (.int .i64 m))(h0: -9223372036854775807<=m)(h1:m<=9223372036854775807):RV C G L H E (.unOp .neg T x) (.int .i64 (-m)):=λd ty pos aC g a W hF _=>by
 simp[execOp,hF.ev hx,Op.unary,Op.intArith,TL (n:= -m) aa aa]
theorem T6{base:Option Addr}{n c t:Nat}(hU:C.P.underlying t=some (.slice e))(hx:ev E x=some (.slice base n c)):RV C G L H E (.call ⟨.builtin .cap,#[x],#[t]⟩) (.int .i64 (c:Int)):=λd ty pos aC g a W hF _=>by
 simp[execOp,hF.ev hx,resolve,invoke,Deferred.ofValue,builtin,Builtin.cap_,run_underlying hU,goInt]
theorem Uk{t off n k len cap tx t':Nat}{sv:Value}(hi:H[i]? =some (b,.cells cs t' (0,0)))(hU:C.P.underlying t=some (.slice e))(hZ:nJ C.P e m)(hw:nl ops E g=some true)(hN:Nat.blt d C.N=true)(hx:ev E x=some (.slice (some ⟨b,off,none⟩) len cap))(hy:ev E y=some sv)(hlen:∀w':World,(Builtin.lenOf sv).run C.P w'= .ok k w')(hn:n=min k len)(hs:Rd C G L H m n sv news)(hl:off+news.length<=cs.size)(h1:aZ news=true)(kk:OJ C ops Q l ((d,.int .i64 (n:Int))::E) D G L (H.set i (b,.cells (setCells cs off news) t' (0,0)))):OJ C ops Q (⟨some d,.call ⟨.builtin .copy,#[x,y],#[t,tx]⟩,ty,pos,aC,g⟩::l) E D G L H:=
 qH zI hw hN λa W hF hS=>by
  have hb:=hS.own _ (cO hi);obtain⟨W',hr,hk,eH⟩:=nIc (P:=C.P) (off:=off) news 0 cs W hb aa h1;refine⟨_,W',_,_,?_,hS.put hi hk eH,kk⟩;have hrd:=hs W hS;subst hn;simp[execOp,hF.ev hx,hF.ev hy,resolve,invoke,Deferred.ofValue,builtin,Builtin.copy_,run_underlying hU,hlen W,hZ W,Nat.min_def]at hrd ⊢;split<;>simp_all[goInt]
theorem Wu{t ln cp:Nat}{kl kc:IntKind}{ti:TypeInfo}(hU:C.P.underlying t=some (.slice e))(qq:C.P.info? e=some ti)(hz:ti.zero=some z)(h1:z.cells=#[z])(hm:ti.size=1)(hw:nl ops E g=some true)(hN:Nat.blt d C.N=true)(hx:ev E x=some (.int kl (ln:Int)))(hy:ev E y=some (.int kc (cp:Int)))(Il:ln<=cp)(hb:ti.bytes*cp<=281474976710656)(h63:cp<=9223372036854775807)(k:∀(b:Nat),ae L b->bA H b->OJ C ops Q l ((d,.slice (some ⟨b,0,none⟩) ln cp)::E) D G L ((b,.cells (cf cp (λ_=>z)) e (0,0))::H)):OJ C ops Q (⟨some d,.makeSlice t x y,ty,pos,aC,g⟩::l) E D G L H:=
 qH zI hw hN λa W hF hS=>by
  have hr:=run_make (P:=C.P) W t e ti z hU qq hz kl kc ln cp (Int.natCast_nonneg _) aa (by
   have:((ti.bytes*cp:Nat):Int)<=281474976710656:=by omega
   rwa[Int.natCast_mul]at this) aa
  simp only[yz,hm,xj]at hr;have hc:madeCells z.cells cp=cf cp (λ_=>z):=by
   apply Array.ext';rw[h1];simp[madeCells,cf,Nat.mod_one]
  rw[hc]at hr;exact⟨_,_,_,_,by simp[execOp,hF.ev hx,hF.ev hy,hr],hS.alloc _,k W.heap.size hS.sizes hS.offNew⟩
variable {ps:List (Nat×Operand)}
theorem kh{n:Nat}{vs:List (Nat×Value)}(hU:C.P.underlying T=some (.slice e))(hp:nJ C.P e m)(hz:Ab C.P e z)(hw:nl ops E g=some true)(hN:Nat.blt d C.N=true)(ha:MR E ps=some vs)(T4:Nat.ble (n*m) 16777216=true)(hs:vs=Ag 0 (vs.map (·.2)))(hl:vs.length=n)(hm:T3 m (vs.map (·.2))=true)(k:∀(b:Nat),ae L b->bA H b->OJ C ops Q l ((d,.slice (some ⟨b,0,none⟩) n n)::E) D G L ((b,.cells (nZ (vs.map λp:Nat×Value=>p.2)++[]).toArray e (0,0))::H)):OJ C ops Q (⟨some d,.buildSlice T n ps.toArray,ty,pos,aC,g⟩::l) E D G L H:=
 qH zI hw hN λa W hF hS=>⟨_,_,_,_,nwd hU hp hz (TZ hF ps vs ha) T4 (T0 (by
  have:=nJe m (vs.map (·.2)) 0 [] ((Array.range (n*m)).map (λj=>((if n*m=0 then #[]else z.cells)[j%(if n*m=0 then #[]else z.cells).size]!))).toList hm zI (by rw[nTg,eQ,hl]);rw[<-hs,eL,eL]at this;exact this)),hS.alloc _,by have:=k W.heap.size hS.sizes hS.offNew;rw[eb]at this;exact this⟩
variable {o:Obj}
theorem OJ.dropAt(hi:H[i]? =some (b,o))(ha:ae L b)(k:OJ C ops Q l E D G L (H.eraseIdx i)):OJ C ops Q l E D G L H:=λa W hN hD hF hS=>k a W hN hD hF (hS.dropAt hi ha)
theorem CJ.dropAt{c:Code}(hi:H[i]? =some (b,o))(ha:ae L b)(k:CJ C c Q E D G L (H.eraseIdx i)):CJ C c Q E D G L H:=λa W hN hD hF hS=>k a W hN hD hF (hS.dropAt hi ha)
theorem PJ.dropAt{e':Exit}(hi:H[i]? =some (b,o))(ha:ae L b)(k:PJ C Q e' E D G L (H.eraseIdx i)):PJ C Q e' E D G L H:=λa W hN hD hF hS=>k a W hN hD hF (hS.dropAt hi ha)
end
theorem nVh{P:Program}(W:World)(t tx ty e:TypeId)(i:TypeInfo)(z:Value)(ht:P.underlying t=some (.slice e))(htx:P.underlying tx=some (.int .i64))(hi:P.info? e=some i)(hz:i.zero=some z)(Av:z.cells=#[z])(hs:i.size=1)(hb:i.bytes=1)(n:Nat)(h0:0<n)(h1:n<=1099511627776):(Builtin.append_ #[t,tx] ty #[.slice none 0 0,.int .i64 (n:Int)]).run P W= .ok (.slice (some ⟨W.heap.size,0,none⟩) n (grownCap W n 0 e)) (W.drew.alloc (.cells (cf (grownCap W n 0 e) (λ_=>z)) e (0,0))):=by
 have hw:IntKind.i64.wrap (n:Int)=(n:Int):=TL aa aa;have h48:¬(281474976710656<Builtin.nextslicecap n 0*i.bytes):=by
  have:=growslice_fits (need:=n) (old:=0) (bytes:=i.bytes) aa (by rw[hb];omega);omega
 have jE:=grownCap_ge W n 0 e;have alX:∀k,Builtin.zeroCells z.cells k=cf k (λ_=>z):=by
  intro k;apply Array.ext';rw[Av];simp[Builtin.zeroCells,cf,Nat.mod_one]
 have alY:cf n (λ_=>z)++cf (grownCap W n 0 e-n) (λ_=>z)=cf (grownCap W n 0 e) (λ_=>z):=by
  apply Array.ext';simp only[cf,Array.toList_append];rw[List.map_const',List.map_const',List.map_const'];simp only[List.length_range];rw[List.replicate_append_replicate];congr 1;omega
 rw[<-alY];simp[Builtin.append_,run_underlying ht,run_underlying htx,Go.sizeOf,typeInfo,zeroValue,hi,hz,asInt,asIntOf,hw,hs,hb,show ¬((n:Int)<0) by omega,show ¬(281474976710656<(n:Int)) by omega,Nat.not_le.2 h0,
  show ¬(9223372036854775807<(n:Int)) by omega,Question.forced,Builtin.firstCells,newRow,grownCap,alX,show n≠0 by omega]at h48 ⊢
 intro h;omega
structure tA where
 b:Nat
 off:Nat
 n:Nat
 c:Nat
 m:Nat->Int
def tA.val (s:tA):Value:=.slice (some ⟨s.b,s.off,none⟩) s.n s.c
def lu (n:Nat) (m:Nat->Int):List Value:=(List.range n).map λi=>.int .u8 (m i)
def tA.l (s:tA):List Value:=lu s.n s.m
def tA.At (s:tA) (w:World):Prop:=∃cs t fr,w.heap[s.b]? =some (.cells cs t fr)/\s.off+s.n<=cs.size/\∀i,i<s.n->cs[s.off+i]? =some (.int .u8 (s.m i))
theorem Dm(n:Nat)(m:Nat->Int):(lu n m).length=n:=by simp[lu]
theorem Dp(n:Nat)(m:Nat->Int):∀u∈lu n m,u.oneCell'=true:=by
 intro u hu;obtain⟨i,_,rfl⟩:=bW.1 hu;rfl
variable {cs:Array Value}
theorem n2j{off n:Nat}{m:Nat->Int}(h:off+n<=cs.size)(hm:∀i,i<n->cs[off+i]? =some (.int .u8 (m i))):(cs.toList.drop off).take (n*1)=lu n m:=by
 apply Co;all_goals grind [lu,Dm]
def nF:List tA->List Value
 | []=>[]
 |s::ss=>s.l++nF ss
theorem nTo(ss:List tA)(s:tA):nF (ss++[s])=nF ss++s.l:=by
 induction ss with
 |nil=>simp[nF]
 |cons x ss ih=>simp[nF,ih]
theorem nWf(ss:List tA)(j:Nat)(h:j<ss.length):nF (ss.take (j+1))=nF (ss.take j)++ss[j].l:=by
 rw[M9 h,nTo]
theorem njg(ss:List tA):∀j,(nF (ss.take j)).length<=(nF ss).length:=by
 induction ss with
 |nil=>intro j;simp[nF]
 |cons x ss ih=>intro j;cases j with
  |zero=>simp[nF]
  |succ j=>simp only[Yv,nF,cy];have:=ih j;omega
section
variable {C:Cx} {Q:aY} {E:Env} {D:List Deferred} {G:Gh} {L:List World} {H:ad} {ops:Array Oper} {l:List Oper}
variable {d T ty f:Nat} {pos:String} {aC:Array Edge} {g:Option (Nat×Bool)} {x y:Operand}
variable {e:Nat} {z:Value}
theorem WA{n t tx:Nat}{ti:TypeInfo}(hU:C.P.underlying t=some (.slice e))(hUx:C.P.underlying tx=some (.int .i64))(qq:C.P.info? e=some ti)(hz:ti.zero=some z)(Av:z.cells=#[z])(hs:ti.size=1)(hb:ti.bytes=1)(hw:nl ops E g=some true)(hN:Nat.blt d C.N=true)(hx:ev E x=some (.slice none 0 0))(hy:ev E y=some (.int .i64 (n:Int)))(h0:0<n)(h1:n<=1099511627776)(k:∀(b cap:Nat),ae L b->bA H b->n<=cap->OJ C ops Q l ((d,.slice (some ⟨b,0,none⟩) n cap)::E) D G L ((b,.cells (cf cap (λ_=>z)) e (0,0))::H)):OJ C ops Q (⟨some d,.call ⟨.builtin .append,#[x,y],#[t,tx]⟩,ty,pos,aC,g⟩::l) E D G L H:=
 qH zI hw hN λa W hF hS=>by
  have hr:=nVh (P:=C.P) W t tx ty e ti z hU hUx qq hz Av hs hb n h0 h1;have gQ:=(hS.step (D2 W (W.drawn+1))).alloc (.cells (cf (grownCap W n 0 e) (λ_=>z)) e (0,0));refine⟨_,_,_,_,?_,gQ,k W.heap.size _ hS.sizes hS.offNew (grownCap_ge W n 0 e)⟩;simp[execOp,hF.ev hx,hF.ev hy,resolve,invoke,Deferred.ofValue,builtin,hr]
variable {vs:List Value}
theorem Pr{f:Nat}{xs:List Operand}{eC:Array Nat}{α:Type}{v:α->Value}{bo:α->Nat×Obj}{Φ:α->Prop}(az:ew C.P f)(hw:nl ops E g=some true)(hN:Nat.blt d C.N=true)(ha:ja E xs=some vs)(hc:∀W,St G L H W->Calls C.P f vs.toArray W (cK W v (λx w1=>W.heap.size<=(bo x).1/\Φ x/\w1.heap[(bo x).1]? =some (bo x).2)))(k:∀x,ae L (bo x).1->bA H (bo x).1->Φ x->OJ C ops Q l ((d,v x)::E) D G L (bo x::H)):OJ C ops Q (⟨some d,.call ⟨.value (.func f),xs.toArray,eC⟩,ty,pos,aC,g⟩::l) E D G L H:=
 nI rfl hw rfl ha zI az λa W jb hD hF hS=>(hc W hS).mono (by
  rintro e W' ⟨x,rfl,hb,h1,h2,h3⟩;have mA:bA H (bo x).1:=bA.of_mem λhm=>by
   obtain⟨p,hp,e⟩:=bW.1 hm;have:=hS.lt p hp;omega
  have tN:ae L (bo x).1:=ae.of_mem λw hw=>dR (hS.links w hw).size h1;exact k x tN mA h2 (a.put (some d) (v x)) W' z6 z4 (hF.put _ z5)
   ((hS.step hb).adopt h3 mA (λhv=>by have:=hS.vlt _ hv;omega)))
def sB (s:ByteArray) (i:Nat):Int:=((s.data[i]?.getD 0).toNat:Int)
theorem n2m(s:ByteArray)(c i:Nat)(h:i<s.size):(bytesRow s c)[0+i]? =some (.int .u8 (sB s i)):=by
 have h':i<s.data.size:=h;rw[lL];unfold bytesRow sB;all_goals grind
theorem n4k(s:ByteArray)(c:Nat):s.size<=(bytesRow s c).size:=by
 unfold bytesRow;simp only[Array.size_append,Array.size_map];exact Nat.le_add_right _ _
theorem Nj{src dst:Nat}{s:ByteArray}(hs:C.P.underlying src=some .string)(hd:C.P.underlying dst=some (.slice e))(he:C.P.underlying e=some (.int .u8))(hw:nl ops E g=some true)(hN:Nat.blt d C.N=true)(hx:ev E x=some (.string s))(k:∀(b cap:Nat) (w1:World) (cs:Array Value) (fr:Nat×Nat),w1.heap[b]? =some (.cells cs e fr)->ae L b->bA H b->¬G.X b->w1.heap.size=b+1->s.size<=cap->0+s.size<=cs.size->(∀i,i<s.size->cs[0+i]? =some (.int .u8 (sB s i)))->OJ C ops Q l ((d,.slice (some ⟨b,0,none⟩) s.size cap)::E) D G (w1::L) H):OJ C ops Q (⟨some d,.convert src dst x,ty,pos,aC,g⟩::l) E D G L H:=
 qH zI hw hN λa W hF hS=>by
  have hr:=run_bytes_of_string (P:=C.P) W src dst e s hs hd he;have gQ:=((hS.step (D2 W (W.drawn+1))).step (Zb _ (.cells (bytesRow s (grownCap W s.size 0 e)) e ((bytesRow s (grownCap W s.size 0 e)).size,(bytesRow s (grownCap W s.size 0 e)).size+1)))).snap;refine⟨_,_,_,_,?_,gQ,k W.heap.size _ _ _ _ (heap_alloc_new W.drew _) hS.sizes hS.offNew hS.mNew zI (grownCap_ge W s.size 0 e) (by rw[lL];exact n4k s _) (λi hi=>n2m s _ i hi)⟩;simp[execOp,hF.ev hx,hr]
variable {ps:List (Nat×Operand)} {m:Nat}
theorem yC{n:Nat}{vs:List (Nat×Value)}(hU:C.P.underlying T=some (.array n e))(hz:Ab C.P T z)(hp:nJ C.P e m)(ha:MR E ps=some vs)(hs:vs=Ag 0 (vs.map (·.2)))(hl:z.cells.size=vs.length*m)(hm:T3 m (vs.map (·.2))=true):RV C G L H E (.build T ps.toArray) (.agg (nZ (vs.map (·.2))).toArray):=λd ty pos aC g a W hF _=>by
 have hf:=T0 (pl:=λi=>some (i*m,m)) (ps:=vs) (cs:=z.cells) (ds:=nZ (vs.map (·.2))) (by
  have:=nJe m (vs.map (·.2)) 0 [] z.cells.toList hm zI NH;rw[<-hs,eL,eL]at this;exact this)
 have h2:(ps.toArray).map (λ(i,x)=>(i,a.eval x))=vs.toArray:=by rw[CZ,TZ hF ps vs ha]
 simp[execOp,h2,Instr.build,hz W,run_underlying hU,hp W,hf]
variable {hi:Option Operand}
theorem Wz(hU:C.P.underlying T=some (.slice e))(hZ:nJ C.P e m)(hx:ev E x=some (.slice none 0 0))(hh:BE E hi 0 0):RV C G L H E (.slice T x none hi none) (.slice none 0 0):=λd ty pos aC g a W hF _=>by
 have:=nmm (P:=C.P) (W:=W) hF true (lo:=none) (hi:=hi) (n:=0) (c:=0) (l:=0) (h:=0) rfl hh (ak _) (ak _);simp only[Option.map_none]at this;simp[execOp,hF.ev hx,Instr.sliceAt,Instr.slice,run_underlying hU,this,hZ W]
end
end Px
