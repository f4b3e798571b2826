/- Memory, operations, iterators, slices, maps. No condition beyond those stated. -/
import Derived.Test.YtpgobjebhigaoaaGreatDoorXa
import Derived.OrdersIn
import Derived.Deep.AppendSrc
import Derived.Laws.MakeOwn
set_option linter.unusedSimpArgs false
set_option linter.unusedVariables false
set_option linter.unusedSectionVars false
set_option maxRecDepth 20000
set_option maxHeartbeats 8000000
namespace Px
open Go Go.RowKit
def X (C:Cx) (ops:Array Oper) (G:Gh) (L:List World) (H:ad) (E:Env) (Pre:World->Prop) (o:Oper) (Φ:Value->World->Prop):Prop:=
 ∀(a:Act) (W:World) (K:Act->World->Prop) (Q:aF),a.tmps.size=C.N->Fits E a->St G L H W->Pre W->
  (∀v W',Below W.heap.size W W'->Φ v W'->K (a.put o.dst v) W')->
  if Region.wanted o (yielded ops a.tmps)then o.wpIn (FW C.r) 0 C.P a W K Q else K (a.put o.dst undef) W
section
variable {C:Cx} {G:Gh} {L:List World} {H:ad} {E:Env} {Pre:World->Prop} {ops:Array Oper} {Φ:Value->World->Prop}
variable {d ty:Nat} {op:Op} {pos:String} {aB:Array Edge} {g:Option (Nat×Bool)}
variable {cs:Array Value} {e:Exit} {H':ad} {K K':IntKind} {ps:List (Nat×Operand)} {D:List Deferred} {ch ds:List Nat} {rs:List ResultVar} {news sp us vs:List Value} {T b i j k m size tx:Nat} {fr:Nat×Nat} {o:Obj} {a:Option Addr} {hi:Option Operand} {sv v:Value} {W w1:World}
theorem X.val(hnd:N3 op=true)(hw:np ops E g=some true)(hr:RV C G L H E op v)(hΦ:∀W,Pre W->Φ v W):X C ops G L H E Pre ⟨some d,op,ty,pos,aB,g⟩ Φ:=by
 intro a W K Q _ hF hS hP hk;rw[if_pos (tO hF hw)];refine⟨λ_ _=>trivial,?_⟩;rw[Oper.semAt_eq _ _ _ (C7 hnd),hr d ty pos aB g a W hF hS,Oper.uponIn_value];exact hk v W (Below.refl _ _) (hΦ W hP)
theorem X.off(hw:np ops E g=some false)(hΦ:∀W,Pre W->Φ undef W):X C ops G L H E Pre ⟨some d,op,ty,pos,aB,g⟩ Φ:=by
 intro a W K Q _ hF hS hP hk;rw[if_neg (by rw[tO hF hw];simp)];exact hk undef W (Below.refl _ _) (hΦ W hP)
variable {f:Nat} {xs:List Operand} {vs:List Value} {dX:Array Nat}
theorem X.call{R:World->Ending->World->Prop}(ax:dU C.P f)(hw:np ops E g=some true)(ha:il E xs=some vs)(hc:∀W,St G L H W->Pre W->Calls C.P f vs.toArray W (R W))(hR:∀W e W',R W e W'->Pre W->∃v,e= .returned v/\Below W.heap.size W W'/\Φ v W'):X C ops G L H E Pre ⟨some d,.call ⟨.value (.func f),xs.toArray,dX⟩,ty,pos,aB,g⟩ Φ:=by
 intro a W K Q _ hF hS hP hk;rw[if_pos (tO hF hw)];refine⟨λ_ _=>trivial,?_⟩;have hr:(execOp a.eval ⟨some d,.call ⟨.value (.func f),xs.toArray,dX⟩,ty,pos,aB,g⟩).run C.P W= .ok (.enter f vs.toArray) W:=by
  have h2:(xs.toArray).map a.eval=vs.toArray:=by rw[yD,H3 hF xs vs ha]
  simp only[execOp,resolve,Act.eval,Deferred.ofValue,h2];simp[invoke,ax _ W]
 rw[Oper.semAt_eq _ _ _ z1,hr,Oper.uponIn_enter];refine⟨by simp,C4.2 ((hc W hS hP).mono ?_)⟩;intro e W' h;obtain⟨v,rfl,hb,hv⟩:=hR W e W' h hP;exact hk v W' hb hv
theorem nf(ax:dU C.P f)(hw:np ops E g=some true)(ha:il E xs=some vs)(hc:∀W,St G L H W->Pre W->Calls C.P f vs.toArray W (av W v))(hΦ:∀W,Φ v W):X C ops G L H E Pre ⟨some d,.call ⟨.value (.func f),xs.toArray,dX⟩,ty,pos,aB,g⟩ Φ:=
 X.call ax hw ha hc λ_ _ W' h _=>⟨v,h.1,h.2,hΦ W'⟩
end
theorem H6(A B:Env)(t:Nat):look (A++B) t=(look A t).or (look B t):=by
 induction A with
 |nil=>simp[look]
 |cons p A ih=>
  obtain⟨k,v⟩:=p;simp only[fj,look];cases Nat.beq k t<;>simp[ih]
theorem Qi{A B:Env}{a:Act}(h1:Fits A a)(h2:Fits B a):Fits (A++B) a:=by
 intro t v hv;rw[H6]at hv;cases h:look A t with
 |some u=>simp[h]at hv;subst hv;exact h1 t u h
 |none=>simp[h]at hv;exact h2 t v hv
def nJn (o:Oper):List Nat:=(o.after.toList.filter (λe=>Region.binds .any e)).map (·.on)
def Qj (acc:List Nat):List Nat->Nat
 | []=>0
 |j::js=>(1<<<j)|||acc.getD j 0|||Qj acc js
def Kf:List Oper->List Nat->List Nat
 | [],acc=>acc
 |o::l,acc=>Kf l (acc++[Qj acc (nJn o)])
theorem nmi(acc:List Nat)(b:Nat):∀js,(Qj acc js).testBit b=true->∃d∈js,d=b\/(acc.getD d 0).testBit b=true
 | [],h=>by simp[Qj]at h
 |j::js,h=>by
  simp only[Qj,Nat.testBit_or,Bool.or_eq_true]at h;rcases h with(h|h)|h
  ·refine⟨j,by simp,.inl ?_⟩;rw[Nat.testBit_shiftLeft]at h;simp only[fX,decide_eq_true_eq]at h;obtain⟨h1,h2⟩:=h;have:b-j=0:=by
    rcases Nat.eq_zero_or_pos (b-j)with h0|h0
    ·exact h0
    rw[Nat.testBit_one_eq_true_iff_self_eq_zero]at h2;omega
   omega
  ·exact⟨j,by simp,.inr h⟩
  obtain⟨d,hd,h⟩:=nmi acc b js h;exact⟨d,by simp[hd],h⟩
theorem nkg(ops:List Oper)(D:Nat->Prop)(hD:∀(k:Nat) (o':Oper),ops[k]? =some o'->D k->∀e∈o'.after,Region.binds .any e=true->D e.on)(hlt:∀(i:Nat) (o:Oper),ops[i]? =some o->∀e∈o.after,Region.binds .any e=true->e.on<i):∀(l:List Oper) (acc:List Nat),ops.drop acc.length=l->(∀(k:Nat) (o:Oper),ops[k]? =some o->k<acc.length->(∀e∈o.after,Region.binds .any e=true->D e.on)->∀j,(acc.getD k 0).testBit j=true->D j)->∀(k:Nat) (o:Oper),ops[k]? =some o->(∀e∈o.after,Region.binds .any e=true->D e.on)->∀j,((Kf l acc).getD k 0).testBit j=true->D j
 | [],acc,hl,hP=>by
  intro k o ho hr j hj;refine hP k o ho ?_ hr j hj;have h1:=(gA.1 ho).1;have h2:(ops.drop acc.length).length=0:=by rw[hl];rfl
  rw[AN]at h2;omega
 |o::l,acc,hl,hP=>by
  have ho0:ops[acc.length]? =some o:=by
   have:(ops.drop acc.length)[0]? =some o:=by rw[hl];rfl
   rw[wC]at this;simpa using this
  refine nkg ops D hD hlt l (acc++[Qj acc (nJn o)]) ?_ ?_
  ·rw[cC,<-List.drop_drop,hl];rfl
  intro k o' jm hk hr j hj;simp only[cC,BX]at hk;by_cases e:k=acc.length
  ·subst e;rw[ho0]at jm;cases jm;rw[List.getD_eq_getElem?_getD,DJ (ao _)]at hj;simp only[Nat.sub_self,IH,Option.getD_some]at hj;obtain⟨d,hd,h⟩:=nmi acc j _ hj;obtain⟨e',Oc,rfl⟩:=bU.1 hd;rw[vH]at Oc;have hdd:=hr e' (by simpa using Oc.1) Oc.2;have fq:=hlt _ _ ho0 e' (by simpa using Oc.1) Oc.2;rcases h with rfl|h
   ·exact hdd
   have hlen:=(gA.1 ho0).1;obtain⟨o2,db⟩:∃o2,ops[e'.on]? =some o2:=⟨ops[e'.on]'zM,gR _⟩;exact hP e'.on o2 db fq (hD e'.on o2 db hdd) j h
  rw[List.getD_eq_getElem?_getD,xX zM,<-List.getD_eq_getElem?_getD]at hj;exact hP k o' jm zM hr j hj
def H7 (ops:Array Oper) (nA:Nat) (ds:List (List Nat)) (E:Env):Bool:=
 Nat.beq ds.length nA&&Nat.ble nA ops.size&&
 (List.range ops.size).all λi=>
  match ops[i]? with
  |none=>true
  |some o=>
   (o.after.toList.all λe=> !Region.binds .any e||Nat.blt e.on i)&&
   (if Nat.blt i nA then
    (match ds[i]? with|some js=>js.all (λj=>o.after.toList.any λe=>Nat.beq e.on j&&Region.binds .any e)|none=>true)&&
    (match o.dst with
     |none=>false
     |some d=>(look E d).isNone&&(List.range nA).all λj=>Nat.beq i j||match(ops[j]?).bind (·.dst)with|some d'=> !Nat.beq d d'|none=>true)
    else(List.range i).all λj=>((Kf ops.toList []).getD i 0).testBit j)
theorem nOg{p q:Nat->Bool}:∀(l:List Nat),(∀k∈l,q k=true->p k=true)->l.countP q<=l.countP p
 | [],_=>ao _
 |k::l,h=>by
  have ih:=nOg l λj hj=>h j (by simp[hj]);simp only[List.countP_cons];cases hq:q k with
  |false=>simp;omega
  |true=>simp[h k z1 hq];omega
theorem nAg{p q:Nat->Bool}:∀(l:List Nat),(∀k∈l,q k=true->p k=true)->(∃k∈l,p k=true/\q k=false)->l.countP q<l.countP p
 | [],_,h=>by obtain⟨k,hk,_⟩:=h;cases hk
 |k::l,h,hx=>by
  have Ul:=nOg (p:=p) (q:=q) l λj hj=>h j (by simp[hj]);simp only[List.countP_cons];obtain⟨j,hj,hp,hq⟩:=hx;rcases cP.1 hj with rfl|hj
  ·simp[hp,hq];omega
  have ih:=nAg l (λj hj=>h j (by simp[hj])) ⟨j,hj,hp,hq⟩;cases Yc:q k with
  |false=>simp;omega
  |true=>simp[h k z1 Yc];omega
def yF (N:Nat):List Oper->Bool
 | []=>true
 |o::l=>(match o.dst with|some d=>Nat.blt d N|none=>true)&&yF N l
theorem nZg{N:Nat}:∀{l:List Oper},yF N l=true->∀o∈l,∀d,o.dst=some d->d<N
 | [],_,o,ho=>by cases ho
 |o'::l,h,o,ho=>by
  simp only[yF,fX]at h;rcases cP.1 ho with rfl|ho
  ·intro d hd;have:=h.1;rw[hd]at this;exact nW this
  exact nZg h.2 o ho
abbrev OS:=List Nat×Option Value
abbrev OS.det (ds:List Nat) (v:Value):OS:=(ds,some v)
abbrev OS.deps (s:OS):List Nat:=s.1
/-! ### a region that draws its order: a chain of operations among others whose values are known -/
abbrev Sp:=List (List Nat×Option Value)
def H8:List Nat->Nat->Nat
 | [],_=>0
 |c::ch,j=>match Nat.beq c j with|true=>0|false=>H8 ch j+1
def valOf (sp:Sp) (ch:List Nat) (cv:List Value) (j:Nat):Value:=
 match sp[j]? with
 |some (_,some u)=>u
 |_=>(cv[H8 ch j]?).getD undef
def dA (ops:Array Oper) (sp:Sp) (ch:List Nat) (cv:List Value):List Nat->Env
 | []=>[]
 |j::js=>match(ops[j]?).bind (·.dst)with
  |some d=>(d,valOf sp ch cv j)::dA ops sp ch cv js
  |none=>dA ops sp ch cv js
theorem Od:∀(ch:List Nat) (k c:Nat),ch[k]? =some c->ch.Nodup->H8 ch c=k
 | [],k,c,h,_=>by simp at h
 |d::ch,0,c,h,_=>by simp at h;subst h;simp[H8,yC]
 |d::ch,k+1,c,h,hn=>by
  simp only[zb]at h;obtain⟨h1,h2⟩:=List.nodup_cons.1 hn;have dG:¬d=c:=λe=>h1 (e▸cB h);simp only[H8,yB dG];rw[Od ch k c h h2]
def Kg (ops:List Oper):List Nat->Bool
 |c::c'::ch=>((Kf ops []).getD c' 0).testBit c&&Kg ops (c'::ch)
 |_=>true
def Dc:List Nat->Bool
 | []=>true
 |c::ch=>ch.all (λj=> !Nat.beq c j)&&Dc ch
theorem nPl:∀{ch:List Nat},Dc ch=true->ch.Nodup
 | [],_=>List.nodup_nil
 |c::ch,h=>by
  simp only[Dc,fX,pV]at h;refine List.nodup_cons.2 ⟨λhm=>?_,nPl h.2⟩;have:=h.1 c hm;simp[yC]at this
def qb (ch:List Nat):Nat->Sp->Bool
 |_,[]=>true
 |i,(_,none)::sp=>ch.any (λc=>Nat.beq c i)&&qb ch (i+1) sp
 |i,(_,some _)::sp=>ch.all (λc=> !Nat.beq c i)&&qb ch (i+1) sp
theorem Qk(ch:List Nat):∀(sp:Sp) (i:Nat),qb ch i sp=true->∀j ds,(sp[j]? =some (ds,none)->i+j∈ch)/\(∀u,sp[j]? =some (ds,some u)->i+j∉ch)
 | [],i,_,j,ds=>by simp
 |(d,none)::sp,i,h,j,ds=>by
  simp only[qb,fX,List.any_eq_true]at h;cases j with
  |zero=>
   refine⟨λ_=>?_,λu hu=>by simp at hu⟩;obtain⟨c,hc,hb⟩:=h.1;have:=NY hb;subst this;exact hc
  |succ j=>
   have:=Qk ch sp (i+1) h.2 j ds;rw[show i+(j+1)=i+1+j by omega];simpa using this
 |(d,some v)::sp,i,h,j,ds=>by
  simp only[qb,fX,pV]at h;cases j with
  |zero=>
   refine⟨λhu=>by simp at hu,λu _ hm=>?_⟩;have:=h.1 _ hm;simp[yC]at this
  |succ j=>
   have:=Qk ch sp (i+1) h.2 j ds;rw[show i+(j+1)=i+1+j by omega];simpa using this
def Oe (ch ds:List Nat) (n:Nat):Bool:=ds.all λj=> !(ch.any λc=>Nat.beq c j)||Nat.blt (H8 ch j) n
theorem nNf{F:Fence}{n:Nat}{P:Program}{Q Q':aF}{o:Oper}{a:Act}{w:World}{K K':Act->World->Prop}(h:∀a w,K a w->K' a w)(hq:∀c a w,Q (.panic c) a w->Q' (.panic c) a w)(hl:LetsOut Q->LetsOut Q')(hh:o.wpIn F n P a w K Q):o.wpIn F n P a w K' Q':=by
 unfold Oper.wpIn at *;refine⟨hh.1,?_⟩;have hh:=hh.2;generalize (o.semAt F.round a.eval).run P w=r at *;cases r with
 |ok x w'=>
  cases x<;>simp only[Oper.uponIn]at hh ⊢ <;>
   first
    |exact h _ _ hh
    |exact⟨hh.1,CallsIn.mono hh.2 (λe w'' he=>by cases e<;>first|exact h _ _ he|exact hq _ _ _ he|exact hl he)⟩
    |exact⟨hh.1,RowsIn.mono hh.2 (λ_ _ he=>h _ _ he)⟩
    |exact⟨hh.1,RoundIn.mono hh.2 (λe w'' he=>by cases e<;>first|exact h _ _ he|exact hq _ _ _ he|exact hl he)⟩
 |halt x w'=>cases x<;>simp only[Oper.uponIn]at hh ⊢ <;>first|exact hh|exact hq _ _ _ hh
def Qn (Q:aF) (K:Act->World->Prop):aF:=λe a w=>match e with| .normal=>K a w|e=>Q e a w
/-! ### a region that draws its order: operations with unknown values, in whatever order they stand -/
def jD (sp:Sp) (ch:List Nat) (cv:List (Option Value)) (j:Nat):Value:=
 match sp[j]? with
 |some (_,some u)=>u
 |_=>((cv[H8 ch j]?).join).getD undef
def bP (ops:Array Oper) (sp:Sp) (ch:List Nat) (cv:List (Option Value)):List Nat->Env
 | []=>[]
 |j::js=>match(ops[j]?).bind (·.dst)with
  |some d=>(d,jD sp ch cv j)::bP ops sp ch cv js
  |none=>bP ops sp ch cv js
theorem Vi{ops:Array Oper}{sp:Sp}{ch:List Nat}{cv:List (Option Value)}{a:Act}:∀(js:List Nat),(∀j∈js,∀o d,ops[j]? =some o->o.dst=some d->a.eval (.tmp d)=jD sp ch cv j)->Fits (bP ops sp ch cv js) a
 | [],_=>by intro t v hv;simp[bP,look]at hv
 |j::js,h=>by
  have ih:=Vi (sp:=sp) (ch:=ch) (cv:=cv) js (λk hk=>h k (by simp[hk]));unfold bP;cases hd:(ops[j]?).bind (·.dst)with
  |none=>exact ih
  |some d=>
   obtain⟨o,ho,hod⟩:=Vj.1 hd;have hv:=h j z1 o d ho hod;intro t v ht;simp only[look]at ht;by_cases e:d=t
   ·subst e;simp only[yC,rS]at ht;rw[hv,ht]
   simp only[yB e]at ht;exact ih t v ht
variable {ch:List Nat} {j k:Nat} {v:Value}
theorem nam{sp:Sp}{cv:List (Option Value)}(h:(∃ds u,sp[j]? =some (ds,some u))\/H8 ch j≠k):jD sp ch (cv.set k (some v)) j=jD sp ch cv j:=by
 unfold jD;rcases h with⟨ds,u,h⟩|h
 ·rw[h]
 split
 ·rfl
 rw[HY (λe=>h e.symm)]
def xL (rq:List Nat) (k:Nat) (cv:List (Option Value)):Bool:=
 ((cv[k]?).join).isNone&&rq.all λj=>((cv[j]?).join).isSome
def rj (ops:List Oper) (ch:List Nat):Nat->List (List Nat)->Bool
 |_,[]=>true
 |k,rq::eE=>(match ch[k]? with|some c=>rq.all (λj=>match ch[j]? with|some c'=>((Kf ops []).getD c 0).testBit c'|none=>false)|none=>false)&&rj ops ch (k+1) eE
theorem Dd(ops:List Oper)(ch:List Nat):∀(eE:List (List Nat)) (n:Nat),rj ops ch n eE=true->∀(k c:Nat) (rq:List Nat),eE[k]? =some rq->ch[n+k]? =some c->∀j∈rq,∃c',ch[j]? =some c'/\((Kf ops []).getD c 0).testBit c'=true
 | [],_,_,k,c,rq,h,_=>by simp at h
 |r::eE,n,h,k,c,rq,hk,hc=>by
  simp only[rj,fX]at h;cases k with
  |zero=>
   simp at hk;subst hk;rw[Nat.add_zero]at hc;rw[hc]at h;intro j hj;have h1:=h.1;simp only[pV]at h1;have:=h1 j hj;split at this
   ·rename_i c' xM;exact⟨c',xM,this⟩
   cases this
  |succ k=>exact Dd ops ch eE (n+1) h.2 k c rq Of (by rw[show n+1+k=n+(k+1) by omega];exact hc)
def H9 (ch ds:List Nat) (cv:List (Option Value)):Bool:=ds.all λj=> !(ch.any λc=>Nat.beq c j)||((cv[H8 ch j]?).join).isSome
def Ia (C:Cx) (ops:Array Oper) (nA:Nat) (ch:List Nat) (sp:Sp) (Ph:List (Option Value)->List World->ad->Prop) (E:Env) (D:List Deferred) (G:Gh) (cd:Nat->Bool) (a:Act) (W:World):Prop:=
 ∃cv L' H',a.tmps.size=C.N/\a.defers=D/\Fits E a/\Ph cv L' H'/\St G L' H' W/\cv.length=ch.length/\(∀(k c:Nat),ch[k]? =some c->(cd c=true↔∃v,cv[k]? =some (some v)))/\
  (∀(i:Nat) (o:Oper) (d:Nat),i<nA->cd i=true->ops[i]? =some o->o.dst=some d->a.eval (.tmp d)=jD sp ch cv i)
structure wt (ops:Array Oper) (nA:Nat) (sp:List OS) (E:Env):Prop where
 len:sp.length=nA
 le:nA<=ops.size
 back:∀(i:Nat) (o:Oper),ops[i]? =some o->∀e∈o.after,Region.binds .any e=true->e.on<i
 deps:∀(i:Nat) (o:Oper) (s:OS),ops[i]? =some o->sp[i]? =some s->∀j∈s.deps,∃e∈o.after,e.on=j/\Region.binds .any e=true
 last:∀(i:Nat) (o:Oper),nA<=i->ops[i]? =some o->∀(D:Nat->Prop),(∀(k:Nat) (o':Oper),ops[k]? =some o'->D k->∀e∈o'.after,Region.binds .any e=true->D e.on)->(∀e∈o.after,Region.binds .any e=true->D e.on)->∀j,j<i->D j
 uniq:∀(i j:Nat) (o o':Oper) (d:Nat),i<nA->j<nA->ops[i]? =some o->ops[j]? =some o'->o.dst=some d->o'.dst=some d->i=j
 apart:∀(i:Nat) (o:Oper) (d:Nat),i<nA->ops[i]? =some o->o.dst=some d->look E d=none
def Ib (ops:Array Oper) (nA:Nat) (ds:List (List Nat)) (E:Env):Bool:=
 Nat.beq ds.length nA&&Nat.ble nA ops.size&&
 (List.range ops.size).all λi=>
  match ops[i]? with
  |none=>true
  |some o=>
   (o.after.toList.all λe=> !Region.binds .any e||Nat.blt e.on i)&&
   (if Nat.blt i nA then
    (match ds[i]? with|some js=>js.all (λj=>o.after.toList.any λe=>Nat.beq e.on j&&Region.binds .any e)|none=>true)&&
    (match o.dst with
     |none=>true
     |some d=>(look E d).isNone&&(List.range nA).all λj=>Nat.beq i j||match(ops[j]?).bind (·.dst)with|some d'=> !Nat.beq d d'|none=>true)
    else(List.range i).all λj=>((Kf ops.toList []).getD i 0).testBit j)
variable {ops:Array Oper} {E:Env}
theorem nso{nA:Nat}{sp:List OS}(h:Ib ops nA (sp.map (·.deps)) E=true):wt ops nA sp E:=by
 unfold Ib at h;simp only[fX,pV,pM]at h;obtain⟨⟨h1,h2⟩,h3⟩:=h;have hlen:sp.length=nA:=by simpa using NY h1
 have hle:=aT h2;have at_:∀(i:Nat) (o:Oper),ops[i]? =some o->i<ops.size:=λi o ho=>(aL.1 ho).1;refine⟨hlen,hle,?_,?_,?_,?_,?_⟩
 ·exact zbk
 ·intro i o s ho hs j hj;have hi:i<nA:=by rw[<-hlen];exact(gA.1 hs).1
  have:=h3 i (at_ i o ho);simp only[ho,fX]at this;have:=this.2;rw[if_pos YR]at this;simp only[rC,hs,wO,fX,pV]at this;have:=this.1 j hj;simp only[List.any_eq_true,fX]at this;obtain⟨e,he,aP,aI⟩:=this;exact⟨e,by simpa using he,NY aP,aI⟩
 ·intro i o hi ho D hD hr j hj;have Vk:∀(i:Nat) (o:Oper),ops[i]? =some o->∀e∈o.after,Region.binds .any e=true->e.on<i:=by
   exact zbk
  have:=h3 i (at_ i o ho);simp only[ho,fX]at this;have:=this.2;rw[if_neg (by intro hb;have:=nW hb;omega)]at this;simp only[pV,pM]at this;exact nkg ops.toList D (λk o' hk=>hD k o' Of) (λk o' hk=>Vk k o' Of) ops.toList [] rfl (λ_ _ _ hk=>by simp at hk) i o (by simpa using ho) hr j (this j hj)
 ·intro i j o o' d hi hj ho jm hd lC;have:=h3 i (at_ i o ho);simp only[ho,fX]at this;have:=this.2;rw[if_pos YR]at this;simp only[hd,fX,pV,pM]at this;have:=this.2.2 j hj;simp only[jm,Option.bind_some,lC,Bool.or_eq_true,Bool.not_eq_true']at this;rcases this with h|h
  ·exact NY h
  rw[yC]at h;cases h
 intro i o d hi ho hd;have:=h3 i (at_ i o ho);simp only[ho,fX]at this;have:=this.2;rw[if_pos YR]at this;simp only[hd,fX]at this;simpa using this.2.1
def xN:List Oper->Sp->Bool
 |o::l,(_,some _)::sp=>o.dst.isSome&&xN l sp
 |_::l,_::sp=>xN l sp
 |_,[]=>true
 | [],_=>true
theorem nen:∀(l:List Oper) (sp:Sp),xN l sp=true->∀(i:Nat) (o:Oper) (ds:List Nat) (u:Value),l[i]? =some o->sp[i]? =some (ds,some u)->∃d,o.dst=some d
 | [],sp,_,i,o,ds,u,h1,_=>by simp at h1
 |o'::l,[],_,i,o,ds,u,_,h2=>by simp at h2
 |o'::l,(tk,u')::sp,h,i,o,ds,u,h1,h2=>by
  cases i with
  |zero=>
   simp only[IH,rS]at h1 h2;subst h1;obtain⟨rfl,rfl⟩:tk=ds/\u'=some u:=by simpa using h2
   simp only[xN,fX]at h;exact Option.isSome_iff_exists.1 h.1
  |succ i=>
   simp only[zb]at h1 h2;refine nen l sp ?_ i o ds u h1 h2;cases u' with
   |none=>simpa[xN]using h
   |some u'=>simp only[xN,fX]at h;exact h.2
variable {C:Cx} {G:Gh} {H:ad} {D:List Deferred} {L:List World}
theorem nMj{Q:aF}{l:List Oper}{id:Nat}(nA:Nat)(ch:List Nat)(sp:Sp)(eE:List (List Nat))(Ph:List (Option Value)->List World->ad->Prop)(hm:C.P.follows .mixedOrders=true)(h0:Ph (ch.map λ_=>none) L H)(jk:Ib l.toArray nA (sp.map (·.1)) E=true)(aN:xN l sp=true)(hN:yF C.N l=true)(kU:rj l ch 0 eE=true)(hnd:Dc ch=true)(rN:qb ch 0 sp=true)(fq:ch.all (λc=>Nat.blt c nA)=true)(pure:∀(i:Nat) (o:Oper) (ds:List Nat) (u:Value),l[i]? =some o->sp[i]? =some (ds,some u)->∀cv L' H',cv.length=ch.length->H9 ch ds cv=true->Ph cv L' H'->X C l.toArray G L' H' (bP l.toArray sp ch cv ds++E) (λ_=>True) o (λv _=>v=u))(step:∀(k c:Nat) (rq:List Nat) (o:Oper) (ds:List Nat) (d:Nat),ch[k]? =some c->eE[k]? =some rq->l[c]? =some o->sp[c]? =some (ds,none)->o.dst=some d->∀cv L' H',cv.length=ch.length->xL rq k cv=true->Ph cv L' H'->∀(F:Env) (Q':aF),(∀v dK dL,Ph (cv.set k (some v)) dK dL->PJ C Q' .normal ((d,v)::(bP l.toArray sp ch cv ds++(E++F))) D G dK dL)->OJ C l.toArray Q' [o] (bP l.toArray sp ch cv ds++(E++F)) D G L' H')(De:∀(k c:Nat) (rq:List Nat) (o:Oper) (ds:List Nat),ch[k]? =some c->eE[k]? =some rq->l[c]? =some o->sp[c]? =some (ds,none)->o.dst=none->∀cv L' H',cv.length=ch.length->xL rq k cv=true->Ph cv L' H'->∀(F:Env) (Q':aF),(∀v dK dL,Ph (cv.set k (some v)) dK dL->PJ C Q' .normal (bP l.toArray sp ch cv ds++(E++F)) D G dK dL)->OJ C l.toArray Q' [o] (bP l.toArray sp ch cv ds++(E++F)) D G L' H')(Ql:eE.length=ch.length)(fin:∀cv L' H',cv.length=ch.length->cv.all (λx=>x.isSome)=true->Ph cv L' H'->OJ C l.toArray Q (l.drop nA) (bP l.toArray sp ch cv (List.range nA)++E) D G L' H'):CJ C (.region id l.toArray true) Q E D G L H:=by
 have ok:wt l.toArray nA (sp.map λp=>OS.det p.1 undef) E:=nso (by
  rw[List.map_map];exact jk)
 have Ic:sp.length=nA:=by have:=ok.len;simpa using this
 have Vl:∀(i:Nat) (o:Oper) (ds:List Nat) (u:Option Value),l.toArray[i]? =some o->sp[i]? =some (ds,u)->∀j∈ds,∃e∈o.after,e.on=j/\Region.binds .any e=true:=by
  intro i o ds u ho hs j hj;exact ok.deps i o (.det ds undef) ho (by simp[hs]) j hj
 have lD:=nPl hnd;have afS:∀k c,ch[k]? =some c->c<nA:=λk c h=>by
  rw[pV]at fq;exact nW (fq c (cB h))
 generalize Vm:l.toArray=ops at *;have hl:∀i:Nat,l[i]? =ops[i]? :=λi=>by rw[<-Vm,DK]
 have jF:ops.size=l.length:=by rw[<-Vm];simp
 intro a W Vn hD hF hS;refine wpIn_region_draw λt=>?_;simp only[Region.schedule,hm,Bool.true_or,if_true];have hlt:∀(i:Nat) (o:Oper),ops[i]? =some o->i<ops.size:=λi o ho=>(aL.1 ho).1
 let Inv:Array Bool->Act->World->Prop:=λcd a W=>cd.size=ops.size/\(∀(k:Nat) (o:Oper),ops[k]? =some o->cd.getD k false=true->∀e∈o.after,Region.binds .any e=true->cd.getD e.on false=true)/\
  (((∃i,i<nA/\cd.getD i false=false)/\(∀i,nA<=i->cd.getD i false=false)/\Ia C ops nA ch sp Ph E D G (λi=>cd.getD i false) a W)\/
   (∃m,nA<=m/\(∀i,i<ops.size->(cd.getD i false=true↔i<m))/\wpListIn (FW C.r) 0 C.P ops Q (l.drop m) a W))
 have close:∀(cd:Array Bool) a W,cd.size=ops.size->(∀(k:Nat) (o:Oper),ops[k]? =some o->cd.getD k false=true->∀e∈o.after,Region.binds .any e=true->cd.getD e.on false=true)->(∀i,i<nA->cd.getD i false=true)->(∀i,nA<=i->cd.getD i false=false)->Ia C ops nA ch sp Ph E D G (λi=>cd.getD i false) a W->Inv cd a W:=by
  rintro cd a W rk mj bT Df ⟨cv,L',H',h1,h2,h3,h4,h5,h6,h7,h8⟩;refine⟨rk,mj,.inr ⟨nA,ao _,λi hi=>⟨λh=>?_,λh=>bT i h⟩,?_⟩⟩
  ·exact Nat.lt_of_not_le λhle=>by rw[Df i hle]at h;cases h
  have DI:cv.all (λx=>x.isSome)=true:=by
   rw[pV];intro x hx;obtain⟨k,hk⟩:=iQ.1 hx;have lH:k<ch.length:=by rw[<-h6];exact(gA.1 hk).1
   have hc:ch[k]? =some (ch[k]'lH):=gR lH;obtain⟨v,hv⟩:=(h7 _ _ hc).1 (bT _ (afS _ _ hc));rw[hk]at hv;cases hv;rfl
  refine fin cv L' H' h6 DI h4 a W h1 h2 (Qi ?_ h3) h5;exact Vi _ (λj hj o d ho hd=>h8 j o d (pM.1 hj) (bT j (pM.1 hj)) ho hd)
 have dB:∀(cd:Array Bool) (i k:Nat),cd.size=ops.size->i<ops.size->(cd.setIfInBounds i true).getD k false=if k=i then true else cd.getD k false:=by
  intro cd i k rk hi;simp only[Array.getD_eq_getD_getElem?,Array.getElem?_setIfInBounds];by_cases e:i=k
  ·subst e;simp[rk,hi]
  simp[e,show ¬k=i from λh=>e h.symm]
 have Vo:∀(cd:Array Bool) a W,Inv cd a W->∀(i:Nat) (o:Oper),ops[i]? =some o->cd.getD i false=false->(∀e∈o.after,Region.binds .any e=true->cd.getD e.on false=true)->
  wpOpIn (FW C.r) 0 C.P ops Q i (λa' W'=>Inv (cd.setIfInBounds i true) a' W') a W:=by
  rintro cd a W ⟨rk,mj,hI⟩ i o ho Ev oF;have hi:=hlt i o ho;have Og:∀(k:Nat) (o':Oper),ops[k]? =some o'->(cd.setIfInBounds i true).getD k false=true->∀e∈o'.after,Region.binds .any e=true->(cd.setIfInBounds i true).getD e.on false=true:=by
   intro k o' jm hk e he hb;rw[dB cd i k rk hi]at hk;rw[dB cd i e.on rk hi];by_cases e1:e.on=i
   ·rw[if_pos e1]
   rw[if_neg e1];by_cases e2:k=i
   ·subst e2;rw[ho]at jm;cases jm;exact oF e he hb
   rw[if_neg e2]at hk;exact mj k o' jm hk e he hb
  rcases hI with⟨hex,Df,cv,L',H',h1,h2,h3,h4,h5,h6,h7,h8⟩|⟨m,hnm,Dg,hw⟩
  ·have Oh:i<nA:=Nat.lt_of_not_le λhle=>by
    obtain⟨k,hk,YS⟩:=hex;have:=ok.last i o hle ho (λk=>cd.getD k false=true) (λk o' h1 h2 e h3 h4=>mj k o' h1 h2 e h3 h4) oF k zM;rw[YS]at this;cases this
   obtain⟨⟨ds,u⟩,hs⟩:∃s,sp[i]? =some s:=⟨sp[i]'(by rw[Ic];exact Oh),gR _⟩;have pD:∀j∈ds,cd.getD j false=true/\j<i:=λj hj=>by
    obtain⟨e,he,hon,hb⟩:=Vl i o ds u ho hs j hj;exact⟨hon▸oF e he hb,hon▸ok.back i o ho e he hb⟩
   have bW:Fits (bP ops sp ch cv ds) a:=Vi _ (λj hj o' d' jm lC=>h8 j o' d' (by have:=(pD j hj).2;omega) (pD j hj).1 jm lC);have Vp:(cd.setIfInBounds i true).size=ops.size:=by simp[rk]
   have Dh:∀k,nA<=k->(cd.setIfInBounds i true).getD k false=false:=λk hk=>by
    rw[dB cd i k rk hi,if_neg zM];exact Df k hk
   have bV:∀a' W',Ia C ops nA ch sp Ph E D G (λk=>(cd.setIfInBounds i true).getD k false) a' W'->Inv (cd.setIfInBounds i true) a' W':=by
    intro a' W' hA;by_cases bT:∀k,k<nA->(cd.setIfInBounds i true).getD k false=true
    ·exact close _ _ _ Vp Og bT Dh hA
    refine⟨Vp,Og,.inl ⟨?_,Dh,hA⟩⟩;obtain⟨k,hk⟩:=Classical.not_forall.1 bT;obtain⟨VT,Yk⟩:=Classical.not_imp.1 hk;exact⟨k,VT,by simpa using Yk⟩
   cases u with
   |some u=>
    -- its value is known
    obtain⟨d,hd⟩:=nen l sp aN i o ds u Oi hs;have hdN:d<C.N:=nZg hN o (cB Oi) d hd;have afT:i∉ch:=by have:=(Qk ch sp 0 rN i ds).2 u hs;simpa using this
    have hdi:H9 ch ds cv=true:=by
     simp only[H9,pV,Bool.or_eq_true,Bool.not_eq_true'];intro j hj;by_cases hc:(ch.any λc=>Nat.beq c j)=true
     ·right;obtain⟨c,hcm,hcb⟩:=List.any_eq_true.1 hc;have:=NY hcb;subst this;obtain⟨q,hq⟩:=iQ.1 hcm;rw[Od ch q c hq lD];obtain⟨v,hv⟩:=(h7 q c hq).1 (pD c hj).1;rw[hv];rfl
     left;exact Bool.eq_false_iff.2 hc
    have hx:=pure i o ds u Oi hs cv L' H' h6 hdi h4 a W (λa' W'=>Inv (cd.setIfInBounds i true) a' W') Q h1 (Qi bW h3) h5 trivial (by
     rintro v W' hb rfl;refine bV _ _ ⟨cv,L',H',by simp[Act.put,hd,h1],by simp[Act.put,hd,h2],?_,h4,h5.step hb,h6,?_,?_⟩
     ·intro t u' hu;have dG:d≠t:=λe=>by subst e;rw[ok.apart i o d Oh ho hd]at hu;cases hu
      have:=h3 t u' hu;simp only[Act.eval,Act.put,hd]at this ⊢;rw[<-this];simp[aup dG]
     ·intro k c hc;show((cd.setIfInBounds i true).getD c false=true↔_);rw[dB cd i c rk hi,if_neg (show ¬c=i from λe=>afT (by rw[<-e];exact cB hc))];exact h7 k c hc
     intro k o' d' hk hlk jm lC;replace hlk:(cd.setIfInBounds i true).getD k false=true:=hlk;rw[dB cd i k rk hi]at hlk;by_cases e:k=i
     ·subst e;rw[ho]at jm;cases jm;rw[hd]at lC;cases lC;simp[Act.eval,Act.put,hd,h1,hdN,jD,hs]
     rw[if_neg e]at hlk;have dG:d≠d':=λe'=>e (ok.uniq k i o' o d hk Oh jm ho (e'▸lC) hd);have:=h8 k o' d' hk hlk jm lC;simp only[Act.eval,Act.put,hd]at this ⊢;rw[<-this];simp[aup dG])
    unfold wpOpIn;simp only[ho];split
    ·rename_i hw;rw[if_pos hw]at hx;exact hx
    rename_i hw;rw[if_neg hw]at hx;exact⟨λ_ _=>trivial,hx⟩
   |none=>
    -- it is the next one of the chain
    have jT:i∈ch:=by have:=(Qk ch sp 0 rN i ds).1 hs;simpa using this
    obtain⟨k,hk⟩:=iQ.1 jT;have lH:k<ch.length:=(gA.1 hk).1;obtain⟨rq,MU⟩:∃rq,eE[k]? =some rq:=⟨eE[k]'zM,gR _⟩;have Oj:cv[k]? =some none:=by
     have h9:cv[k]? =some (cv[k]'zM):=gR _;cases hx:cv[k]'zM with
     |none=>rw[h9,hx]
     |some v=>
      exfalso;have h':cd.getD i false=true:=(h7 k i hk).2 ⟨v,by rw[h9,hx]⟩;rw[Ev]at h';cases h'
    have Vq:xL rq k cv=true:=by
     simp only[xL,fX,pV];refine⟨by rw[Oj];rfl,λj hj=>?_⟩;obtain⟨c',xM,afU⟩:=Dd l ch eE 0 kU k i rq MU (by rw[jg];exact hk) j hj;have hD':=nkg l (λj=>cd.getD j false=true) (λj o' hj=>mj j o' (by rw[<-hl];exact hj)) (λj o' hj=>ok.back j o' (by rw[<-hl];exact hj)) l [] rfl (λ_ _ _ hk=>by simp at hk) i o Oi oF _ afU;obtain⟨v,hv⟩:=(h7 j c' xM).1 hD';rw[hv];rfl
    cases hd:o.dst with
    |some d=>
     have hdN:d<C.N:=nZg hN o (cB Oi) d hd;have Cg:=step k i rq o ds d hk MU Oi hs hd cv L' H' h6 Vq h4 (bP ops sp ch cv ((List.range nA).filter λj=>cd.getD j false))
      (Qn Q (λa' W'=>Inv (cd.setIfInBounds i true) a' W')) (by
       intro v dK dL hP a' W' BZ hs2 hs3 hs4;refine bV _ _ ⟨cv.set k (some v),dK,dL,BZ,hs2,?_,hP,hs4,?_,?_,?_⟩
       ·intro t u' hu;have dG:d≠t:=λe=>by subst e;rw[ok.apart i o d Oh ho hd]at hu;cases hu
        have de:Fits (bP ops sp ch cv ds++(E++bP ops sp ch cv ((List.range nA).filter λj=>cd.getD j false))) a':=λt' v' h'=>by
         by_cases e2:d=t'
         ·subst e2;exfalso;have eN:∀js,(∀j∈js,j<nA/\j≠i)->look (bP ops sp ch cv js) d=none:=by
           intro js;induction js with
           |nil=>intro _;rfl
           |cons j js ih=>
            intro gy;have ve:=ih λj' u9=>gy j' (by simp[u9]);unfold bP;cases Ol:(ops[j]?).bind (·.dst)with
            |none=>exact ve
            |some d'=>
             obtain⟨oj,Om,vf⟩:=Vj.1 Ol;have vg:d'≠d:=λe'=>(gy j z1).2 (ok.uniq j i oj o d' (gy j z1).1 Oh Om ho vf (e'▸hd));simp only[look,yB vg];exact ve
          rw[H6,H6,eN ds (λj hj=>⟨by have:=(pD j hj).2;omega,by have:=(pD j hj).2;omega⟩),ok.apart i o d Oh ho hd,eN _ (λj hj=>by
           simp only[vH,pM]at hj;exact⟨hj.1,λe=>by subst e;rw[Ev]at hj;cases hj.2⟩)]at h'
          cases h'
         exact hs3 t' v' (by simp only[look,yB e2];exact h')
        have h9:look (bP ops sp ch cv ds++(E++bP ops sp ch cv ((List.range nA).filter λj=>cd.getD j false))) t=some u':=by
         exact zdj
        exact de t u' h9
       ·rw[Ht];exact h6
       ·exact zrj
       intro q o' d' Ew hlk jm lC;replace hlk:(cd.setIfInBounds i true).getD q false=true:=hlk;rw[dB cd i q rk hi]at hlk;by_cases e:q=i
       ·subst e;rw[ho]at jm;cases jm;rw[hd]at lC;cases lC;have:=hs3 d v (by simp[look,yC]);rw[this];unfold jD;rw[hs];simp only;rw[Od ch k q hk lD,J7 zM];rfl
       rw[if_neg e]at hlk;have dG:d≠d':=λe'=>e (ok.uniq q i o' o d Ew Oh jm ho (e'▸lC) hd);have hold:jD sp ch (cv.set k (some v)) q=jD sp ch cv q:=nam (by
        obtain⟨⟨tk,u'⟩,Vr⟩:∃s,sp[q]? =some s:=⟨sp[q]'(by rw[Ic];exact Ew),gR _⟩;cases u' with
        |some u'=>exact .inl ⟨tk,u',Vr⟩
        |none=>
         right;have Dj:q∈ch:=by have:=(Qk ch sp 0 rN q tk).1 Vr;simpa using this
         obtain⟨p,hp⟩:=iQ.1 Dj;rw[Od ch p q hp lD];exact λe'=>e (by subst e';rw[hk]at hp;cases hp;rfl))
       rw[hold]
       -- it On in F
       refine hs3 d' _ ?_;simp only[look,yB dG];have hin:∀js,q∈js->(∀j∈js,j<nA)->look (bP ops sp ch cv js) d'=some (jD sp ch cv q):=by
        exact zej
       have hE:look E d'=none:=ok.apart q o' d' Ew jm lC;have Kh:=hin ((List.range nA).filter λj=>cd.getD j false) (vH.2 ⟨pM.2 Ew,hlk⟩) (λj hj=>by
        simp only[vH,pM]at hj;exact hj.1)
       rw[H6,H6,hE,Kh];by_cases Vs:q∈ds
       ·rw[hin ds Vs (λj hj=>by have:=(pD j hj).2;omega)];rfl
       have eN:∀js,(∀j∈js,j<nA)->q∉js->look (bP ops sp ch cv js) d'=none:=by
        exact zij
       rw[eN ds (λj hj=>by have:=(pD j hj).2;omega) Vs];rfl)
      a W h1 h2 (Qi bW (Qi h3 (Vi _ (λj hj o' d' jm lC=>by
       simp only[vH,pM]at hj;exact h8 j o' d' hj.1 hj.2 jm lC)))) h5
     exact zOj
    |none=>
     have Cg:=De k i rq o ds hk MU Oi hs hd cv L' H' h6 Vq h4 (bP ops sp ch cv ((List.range nA).filter λj=>cd.getD j false))
      (Qn Q (λa' W'=>Inv (cd.setIfInBounds i true) a' W')) (by
       intro v dK dL hP a' W' BZ hs2 hs3 hs4;refine bV _ _ ⟨cv.set k (some v),dK,dL,BZ,hs2,?_,hP,hs4,?_,?_,?_⟩
       ·intro t u' hu;have h9:look (bP ops sp ch cv ds++(E++bP ops sp ch cv ((List.range nA).filter λj=>cd.getD j false))) t=some u':=by
         exact zdj
        exact hs3 t u' h9
       ·rw[Ht];exact h6
       ·exact zrj
       intro q o' d' Ew hlk jm lC;replace hlk:(cd.setIfInBounds i true).getD q false=true:=hlk;rw[dB cd i q rk hi]at hlk;by_cases e:q=i
       ·subst e;rw[ho]at jm;cases jm;rw[hd]at lC;cases lC
       rw[if_neg e]at hlk;have hold:jD sp ch (cv.set k (some v)) q=jD sp ch cv q:=nam (by
        obtain⟨⟨tk,u'⟩,Vr⟩:∃s,sp[q]? =some s:=⟨sp[q]'(by rw[Ic];exact Ew),gR _⟩;cases u' with
        |some u'=>exact .inl ⟨tk,u',Vr⟩
        |none=>
         right;have Dj:q∈ch:=by have:=(Qk ch sp 0 rN q tk).1 Vr;simpa using this
         obtain⟨p,hp⟩:=iQ.1 Dj;rw[Od ch p q hp lD];exact λe'=>e (by subst e';rw[hk]at hp;cases hp;rfl))
       rw[hold]
       -- it On in F
       refine hs3 d' _ ?_;have hin:∀js,q∈js->(∀j∈js,j<nA)->look (bP ops sp ch cv js) d'=some (jD sp ch cv q):=by
        exact zej
       have hE:look E d'=none:=ok.apart q o' d' Ew jm lC;have Kh:=hin ((List.range nA).filter λj=>cd.getD j false) (vH.2 ⟨pM.2 Ew,hlk⟩) (λj hj=>by
        simp only[vH,pM]at hj;exact hj.1)
       rw[H6,H6,hE,Kh];by_cases Vs:q∈ds
       ·rw[hin ds Vs (λj hj=>by have:=(pD j hj).2;omega)];rfl
       have eN:∀js,(∀j∈js,j<nA)->q∉js->look (bP ops sp ch cv js) d'=none:=by
        exact zij
       rw[eN ds (λj hj=>by have:=(pD j hj).2;omega) Vs];rfl)
      a W h1 h2 (Qi bW (Qi h3 (Vi _ (λj hj o' d' jm lC=>by
       simp only[vH,pM]at hj;exact h8 j o' d' hj.1 hj.2 jm lC)))) h5
     exact zOj
  -- it is the next one
  have him:i=m:=by
   have h1:¬i<m:=λh=>by rw[(Dg i hi).2 h]at Ev;cases Ev
   have h2:i<=m:=U9 λh=>by
    have h3:=ok.last i o zM ho (λk=>cd.getD k false=true) (λk o' h1 h2 e h3 h4=>mj k o' h1 h2 e h3 h4) oF m h;have:=(Dg m zM).1 h3;omega
   omega
  subst him;have Vt:l.drop i=o::l.drop (i+1):=by
   have:=hl i;rw[ho]at this;exact(List.drop_eq_getElem_cons (gA.1 this).1).trans (by rw[(gA.1 this).2])
  rw[Vt]at hw;have Ki:∀a' W',wpListIn (FW C.r) 0 C.P ops Q (l.drop (i+1)) a' W'->Inv (cd.setIfInBounds i true) a' W':=λa' W' h=>by
   refine⟨by simp[rk],Og,.inr ⟨i+1,by omega,λk hk=>?_,h⟩⟩;rw[dB cd i k rk hi];by_cases e:k=i
   ·subst e;simp
   rw[if_neg e,Dg k hk];omega
  unfold wpListIn at hw;unfold wpOpIn;simp only[ho];split
  ·rename_i Dl;rw[if_pos Dl]at hw;exact Oper.wpIn_mono Ki hw
  rename_i Dl;rw[if_neg Dl]at hw;exact⟨hw.1,Ki _ _ hw.2⟩
 -- the end
 have lE:∀(cd:Array Bool) (i:Nat),cd.size=ops.size->(i∈Region.ready .any ops cd↔∃o,ops[i]? =some o/\cd.getD i false=false/\∀e∈o.after,Region.binds .any e=true->cd.getD e.on false=true):=by
  intro cd i rk;simp only[Region.ready,vH,pM,fX,Bool.not_eq_true'];constructor
  ·rintro⟨hi,hf,hr⟩;refine⟨ops[i],Ie hi,?_,?_⟩
   ·exact zTk
   rw[Ie hi]at hr;simp only[wO,Option.getD_some,Array.all_eq_true_iff_forall_mem,Bool.or_eq_true,Bool.not_eq_true']at hr;intro e he hb;rcases hr e he with h|h
   ·rw[hb]at h;cases h
   exact h
  rintro⟨o,ho,hf,hr⟩;have hi:=hlt i o ho;refine⟨hi,?_,?_⟩
  ·exact zTk
  rw[ho];simp only[wO,Option.getD_some,Array.all_eq_true_iff_forall_mem,Bool.or_eq_true,Bool.not_eq_true'];intro e he;by_cases hb:Region.binds .any e=true
  ·exact .inr (hr e he hb)
  exact .inl (by simpa using hb)
 have last:∀(cd:Array Bool) a W,Inv cd a W->Region.ready .any ops cd=[]->Q .normal a W:=by
  rintro cd a W ⟨rk,mj,hI⟩ hr
  -- all are listed: else the least one ahZ is not is ready
  have bT:∀i,i<ops.size->cd.getD i false=true:=by
   intro i;induction i using Nat.strongRecOn with
   |_ i ih=>
    intro hi;cases hf:cd.getD i false with
    |true=>rfl
    |false=>
     have:i∈Region.ready .any ops cd:=(lE cd i rk).2 ⟨ops[i],Ie hi,hf,λe he hb=>by
      have:=ok.back i ops[i] (Ie hi) e he hb;exact ih e.on this zM⟩
     rw[hr]at this;cases this
  rcases hI with⟨⟨k,hk,YS⟩,_⟩|⟨m,hnm,Dg,hw⟩
  ·rw[bT k (kQ hk ok.le)]at YS;cases YS
  have hm:ops.size<=m:=U9 λh=>by
   have:=(Dg m h).1 (bT m h);omega
  rw[List.drop_eq_nil_of_le zM]at hw;exact hw
 have any:∀(fuel:Nat) (cd:Array Bool) a W,Inv cd a W->(List.range ops.size).countP (λi=> !cd.getD i false)<=fuel->wpAnyIn (FW C.r) 0 C.P .any ops Q fuel cd a W:=by
  intro fuel;induction fuel with
  |zero=>
   intro cd a W hI hc;have hz:Region.ready .any ops cd=[]:=by
    apply List.eq_nil_iff_forall_not_mem.2;intro i hi;obtain⟨o,ho,hf,_⟩:=(lE cd i hI.1).1 hi;have:=List.countP_eq_zero.1 (Nat.le_zero.1 hc) i (pM.2 (hlt i o ho));simp[hf]at this
   exact⟨hz,last cd a W hI hz⟩
  |succ fuel ih=>
   intro cd a W hI hc;refine⟨last cd a W hI,λi hi=>?_⟩;obtain⟨o,ho,hf,hr⟩:=(lE cd i hI.1).1 hi;refine wpOpIn_mono (λa' W' YT=>ih _ a' W' YT ?_) (Vo cd a W hI i o ho hf hr);have fq:=hlt i o ho;have afW:(List.range ops.size).countP (λk=> !(cd.setIfInBounds i true).getD k false)<(List.range ops.size).countP (λk=> !cd.getD k false):=by
    refine nAg _ (λk _ hk=>?_) ⟨i,pM.2 fq,by simp[hf],?_⟩
    ·rw[dB cd i k hI.1 fq]at hk;by_cases e:k=i
     ·rw[if_pos e]at hk;cases hk
     rw[if_neg e]at hk;exact hk
    rw[dB cd i i hI.1 fq,if_pos rfl];rfl
   omega
 have xO:∀k,(Array.replicate ops.size false).getD k false=false:=λk=>by
  simp only[Array.getD_eq_getD_getElem?,Array.getElem?_replicate];split<;>rfl
 have hS0:St G L H {W with drawn:=W.drawn+1}:=hS.step (FT W _);have hA0:Ia C ops nA ch sp Ph E D G (λi=>(Array.replicate ops.size false).getD i false) a {W with drawn:=W.drawn+1}:=
  ⟨_,L,H,Vn,hD,hF,h0,hS0,fy _,λk c _=>⟨λh=>(Bool.false_ne_true ((xO c).symm.trans h)).elim,λ⟨v,h⟩=>by rw[rC]at h;cases hx:ch[k]?<;>rw[hx]at h<;>simp at h⟩,λi _ _ _ h=>(Bool.false_ne_true ((xO i).symm.trans h)).elim⟩
 refine wpAnyIn_sound ops.size t _ a _ (any ops.size (Array.replicate ops.size false) a _ ?_ ?_)
 ·have Vu:∀(k:Nat) (o:Oper),ops[k]? =some o->(Array.replicate ops.size false).getD k false=true->∀e∈o.after,Region.binds .any e=true->(Array.replicate ops.size false).getD e.on false=true:=λk o _ h=>by rw[xO k]at h;cases h
  by_cases hz:nA=0
  ·exact close _ _ _ z1 Vu (λi hi=>by omega) (λi _=>xO i) hA0
  exact⟨by simp,Vu,.inl ⟨⟨0,by omega,xO 0⟩,λi _=>xO i,hA0⟩⟩
 exact aS List.countP_le_length z1
def nv (n:Nat) (vs:List Value):List (Option Value):=vs.map some++List.replicate (n-vs.length) none
theorem wu(n k:Nat)(vs:List Value):((nv n vs)[k]?).join=vs[k]? :=by
 unfold nv;rcases Nat.lt_or_ge k vs.length with h|h
 ·rw[xX rO,rC];cases vs[k]?<;>rfl
 rw[DJ rO,List.getElem?_replicate,um h];split<;>rfl
theorem Oo(sp:Sp)(ch:List Nat)(n:Nat)(vs:List Value)(j:Nat):jD sp ch (nv n vs) j=valOf sp ch vs j:=by
 unfold jD valOf;rw[wu]
theorem Vv(ops:Array Oper)(sp:Sp)(ch:List Nat)(n:Nat)(vs:List Value):∀js,bP ops sp ch (nv n vs) js=dA ops sp ch vs js
 | []=>rfl
 |j::js=>by
  unfold bP dA;rw[Vv ops sp ch n vs js,Oo]
theorem Ig(ch ds:List Nat)(n:Nat)(vs:List Value):H9 ch ds (nv n vs)=Oe ch ds vs.length:=by
 unfold H9 Oe;congr 1;funext j;rw[wu];congr 1;rw[xU];simp[Nat.blt,Nat.succ_le_iff]
def YU:Nat->List Nat
 |0=>[]
 |m+1=>[m]
def yG:Nat->List Nat->List (List Nat)
 |_,[]=>[]
 |0,_::ch=>[]::yG 1 ch
 |k+1,_::ch=>[k]::yG (k+2) ch
theorem YV:∀(ch:List Nat) (k:Nat),(yG k ch).length=ch.length
 | [],k=>by cases k<;>rfl
 |_::ch,0=>by simp[yG,YV ch]
 |_::ch,k+1=>by simp[yG,YV ch]
theorem Vw:∀(ch:List Nat) (k i:Nat) (rq:List Nat),(yG k ch)[i]? =some rq->rq=YU (k+i)
 | [],k,i,rq,h=>by cases k<;>simp[yG]at h
 |_::ch,0,0,rq,h=>by simp[yG]at h;subst h;rfl
 |_::ch,0,i+1,rq,h=>by
  have:=Vw ch 1 i rq (by simpa[yG]using h);rw[show 0+(i+1)=i+1 by omega];rw[show 1+i=i+1 by omega]at this;exact this
 |_::ch,k+1,0,rq,h=>by simp[yG]at h;subst h;rfl
 |_::ch,k+1,i+1,rq,h=>by
  have:=Vw ch (k+2) i rq (by simpa[yG]using h);rw[show k+1+(i+1)=k+2+i by omega];exact this
theorem nol{l:List Oper}:∀(ch:List Nat),Kg l ch=true->∀(k c c':Nat),ch[k]? =some c->ch[k+1]? =some c'->((Kf l []).getD c' 0).testBit c=true
 | [],_,k,c,c',h1,_=>by simp at h1
 | [x],_,k,c,c',_,h2=>by simp at h2
 |x::y::ch,h,k,c,c',h1,h2=>by
  simp only[Kg,fX]at h;cases k with
  |zero=>simp at h1 h2;subst h1;subst h2;exact h.1
  |succ k=>exact nol (y::ch) h.2 k c c' AY Jp
theorem nCn(l:List Oper)(ch:List Nat)(kU:Kg l ch=true):∀(eE:List (List Nat)) (n:Nat),n+eE.length=ch.length->(∀i rq,eE[i]? =some rq->rq=YU (n+i))->rj l ch n eE=true
 | [],_,_,_=>rfl
 |rq::eE,n,hn,h=>by
  simp only[ec]at hn;unfold rj;have h0:=h 0 rq rfl;have hlt:n<ch.length:=by omega
  rw[nCn l ch kU eE (n+1) zM (λi rq' hi=>by have:=h (i+1) rq' JH;rw[show n+(i+1)=n+1+i by omega]at this;exact this),gR hlt,Bool.and_true,h0];simp only[Nat.add_zero];cases n with
  |zero=>rfl
  |succ m=>
   have hm:m<ch.length:=by omega
   simp only[Nat.add_zero,YU,List.all_cons,List.all_nil,Bool.and_true];rw[gR hm];exact nol ch kU m _ _ (gR hm) (gR hlt)
variable {vs:List Value}
theorem Dm{n:Nat}(h:vs.length<n):(nv n vs).set vs.length (some v)=nv n (vs++[v]):=by
 unfold nv;rw[List.set_append_right _ _ z1];simp only[fy,Nat.sub_self,ga,eF,iz,cC,ec,lF,iH];rw[show n-vs.length=(n-(vs.length+1))+1 by omega,List.replicate_succ];rfl
theorem nxl{n:Nat}{rq:List Nat}(hk:k<n)(hq:rq=YU k)(h:xL rq k (nv n vs)=true):vs.length=k:=by
 unfold xL at h;rw[wu]at h;simp only[fX,pV,Option.isNone_iff_eq_none,List.getElem?_eq_none_iff]at h;cases k with
 |zero=>omega
 |succ m=>
  have:=h.2 m (by rw[hq];exact .head _);rw[wu]at this;simp at this;omega
theorem n5j{Q:aF}{l:List Oper}{id:Nat}(nA:Nat)(ch:List Nat)(sp:Sp)(Ph:List Value->List World->ad->Prop)(hm:C.P.follows .mixedOrders=true)(h0:Ph [] L H)(jk:Ib l.toArray nA (sp.map (·.1)) E=true)(aN:xN l sp=true)(hN:yF C.N l=true)(kU:Kg l ch=true)(hnd:Dc ch=true)(rN:qb ch 0 sp=true)(fq:ch.all (λc=>Nat.blt c nA)=true)(pure:∀(i:Nat) (o:Oper) (ds:List Nat) (u:Value),l[i]? =some o->sp[i]? =some (ds,some u)->∀cv L' H',Oe ch ds cv.length=true->Ph cv L' H'->X C l.toArray G L' H' (dA l.toArray sp ch cv ds++E) (λ_=>True) o (λv _=>v=u))(step:∀(k c:Nat) (o:Oper) (ds:List Nat) (d:Nat),ch[k]? =some c->l[c]? =some o->sp[c]? =some (ds,none)->o.dst=some d->∀cv L' H',cv.length=k->Ph cv L' H'->∀(F:Env) (Q':aF),(∀v dK dL,Ph (cv++[v]) dK dL->PJ C Q' .normal ((d,v)::(dA l.toArray sp ch cv ds++(E++F))) D G dK dL)->OJ C l.toArray Q' [o] (dA l.toArray sp ch cv ds++(E++F)) D G L' H')(De:∀(k c:Nat) (o:Oper) (ds:List Nat),ch[k]? =some c->l[c]? =some o->sp[c]? =some (ds,none)->o.dst=none->∀cv L' H',cv.length=k->Ph cv L' H'->∀(F:Env) (Q':aF),(∀v dK dL,Ph (cv++[v]) dK dL->PJ C Q' .normal (dA l.toArray sp ch cv ds++(E++F)) D G dK dL)->OJ C l.toArray Q' [o] (dA l.toArray sp ch cv ds++(E++F)) D G L' H')(fin:∀cv L' H',cv.length=ch.length->Ph cv L' H'->OJ C l.toArray Q (l.drop nA) (dA l.toArray sp ch cv (List.range nA)++E) D G L' H'):CJ C (.region id l.toArray true) Q E D G L H:=by
 refine nMj nA ch sp (yG 0 ch) (λcv L' H'=>∃vs:List Value,cv=nv ch.length vs/\vs.length<=ch.length/\Ph vs L' H') hm ⟨[],?_,dx _,h0⟩ jk aN hN (nCn l ch kU _ 0 (by rw[jg,YV]) (λi rq hi=>Vw ch 0 i rq hi)) hnd rN fq ?_ ?_ ?_ (YV ch 0) ?_
 ·unfold nv;simp[List.map_const']
 ·rintro i o ds u hl hs cv L' H' hlen hd ⟨vs,rfl,hle,hP⟩;rw[Vv];exact pure i o ds u hl hs vs L' H' (by rw[<-Ig];exact hd) hP
 ·rintro k c rq o ds d hk hr hl hs hd cv L' H' hlen sZ ⟨vs,rfl,hle,hP⟩ F Q' hc;have lH:k<ch.length:=(gA.1 hk).1;have hv:=nxl lH (by have:=Vw ch 0 k rq hr;rwa[jg]at this) sZ;rw[Vv]at hc ⊢;refine step k c o ds d hk hl hs hd vs L' H' hv hP F Q' λv dK dL hP'=>hc v dK dL ⟨vs++[v],?_,by simp;omega,hP'⟩;rw[<-hv];exact Dm zM
 ·rintro k c rq o ds hk hr hl hs hd cv L' H' hlen sZ ⟨vs,rfl,hle,hP⟩ F Q' hc;have lH:k<ch.length:=(gA.1 hk).1;have hv:=nxl lH (by have:=Vw ch 0 k rq hr;rwa[jg]at this) sZ;rw[Vv]at hc ⊢;refine De k c o ds hk hl hs hd vs L' H' hv hP F Q' λv dK dL hP'=>hc v dK dL ⟨vs++[v],?_,by simp;omega,hP'⟩;rw[<-hv];exact Dm zM
 rintro cv L' H' hlen bT ⟨vs,rfl,hle,hP⟩;rw[Vv];refine fin vs L' H' ?_ hP;rcases Nat.lt_or_ge vs.length ch.length with h|h
 ·have h1:(nv ch.length vs)[vs.length]? =some none:=by
   unfold nv;rw[DJ z1,List.getElem?_replicate,if_pos kh]
  have:=pV.1 bT none (cB h1);cases this
 omega
theorem Vx{nA:Nat}{ds:List (List Nat)}(h:H7 ops nA ds E=true):Ib ops nA ds E=true/\∀(i:Nat) (o:Oper),i<nA->ops[i]? =some o->∃d,o.dst=some d:=by
 unfold H7 at h;unfold Ib;simp only[fX,pV,pM]at h ⊢;obtain⟨⟨h1,h2⟩,h3⟩:=h;refine⟨⟨⟨h1,h2⟩,λi hi=>?_⟩,λi o hi ho=>?_⟩
 ·have:=h3 i hi;cases ho:ops[i]? with
  |none=>rfl
  |some o=>
   simp only[ho,fX]at this ⊢;refine⟨this.1,?_⟩;have:=this.2;split at this
   ·rw[if_pos ‹_›];simp only[fX]at this ⊢;refine⟨this.1,?_⟩;have:=this.2;cases hd:o.dst with
    |none=>rfl
    |some d=>simp only[hd]at this ⊢;exact this
   rw[if_neg ‹_›];exact this
 have:=h3 i (aL.1 ho).1;simp only[ho,fX]at this;have:=this.2;rw[if_pos YR]at this;cases hd:o.dst with
 |none=>simp[hd]at this
 |some d=>exact⟨d,rfl⟩
theorem nql:∀(l:List Oper) (sp:Sp),(∀(i:Nat) (o:Oper),i<sp.length->l[i]? =some o->∃d,o.dst=some d)->xN l sp=true
 | [],[],_=>rfl
 | [],_::_,_=>rfl
 |_::_,[],_=>rfl
 |o::l,(_,u)::sp,h=>by
  have ih:=nql l sp λi o' hi ho=>h (i+1) o' JH (by simpa using ho);obtain⟨d,hd⟩:=h 0 o z1 rfl;cases u<;>simp[xN,ih,hd]
theorem Kj{l:List Oper}{nA:Nat}{sp:Sp}(h:H7 l.toArray nA (sp.map (·.1)) E=true):Ib l.toArray nA (sp.map (·.1)) E=true/\xN l sp=true/\∀(i:Nat) (o:Oper),i<nA->l[i]? =some o->∃d,o.dst=some d:=by
 obtain⟨h1,h2⟩:=Vx h;have hl:sp.length=nA:=by
  unfold H7 at h;simp only[fX]at h;simpa using NY h.1.1
 exact⟨h1,nql l sp λi o hi ho=>h2 i o zM (by simpa using ho),λi o hi ho=>h2 i o hi (by simpa using ho)⟩
theorem nJl{Q:aF}{l:List Oper}{id:Nat}(nA:Nat)(ch:List Nat)(sp:Sp)(Ph:List Value->List World->ad->Prop)(hm:C.P.follows .mixedOrders=true)(h0:Ph [] L H)(jk:H7 l.toArray nA (sp.map (·.1)) E=true)(hN:yF C.N l=true)(kU:Kg l ch=true)(hnd:Dc ch=true)(rN:qb ch 0 sp=true)(fq:ch.all (λc=>Nat.blt c nA)=true)(pure:∀(i:Nat) (o:Oper) (ds:List Nat) (u:Value),l[i]? =some o->sp[i]? =some (ds,some u)->∀cv L' H',Oe ch ds cv.length=true->Ph cv L' H'->X C l.toArray G L' H' (dA l.toArray sp ch cv ds++E) (λ_=>True) o (λv _=>v=u))(step:∀(k c:Nat) (o:Oper) (ds:List Nat) (d:Nat),ch[k]? =some c->l[c]? =some o->sp[c]? =some (ds,none)->o.dst=some d->∀cv L' H',cv.length=k->Ph cv L' H'->∀(F:Env) (Q':aF),(∀v dK dL,Ph (cv++[v]) dK dL->PJ C Q' .normal ((d,v)::(dA l.toArray sp ch cv ds++(E++F))) D G dK dL)->OJ C l.toArray Q' [o] (dA l.toArray sp ch cv ds++(E++F)) D G L' H')(fin:∀cv L' H',cv.length=ch.length->Ph cv L' H'->OJ C l.toArray Q (l.drop nA) (dA l.toArray sp ch cv (List.range nA)++E) D G L' H'):CJ C (.region id l.toArray true) Q E D G L H:=by
 obtain⟨h1,h2,h3⟩:=Kj jk;refine n5j nA ch sp Ph hm h0 h1 h2 hN kU hnd rN fq pure step ?_ fin;intro k c o ds hk hl _ hd;exact z2k
theorem CJ.net{Q:aF}{l:List Oper}{id:Nat}(nA:Nat)(ch:List Nat)(sp:Sp)(eE:List (List Nat))(Ph:List (Option Value)->List World->ad->Prop)(hm:C.P.follows .mixedOrders=true)(h0:Ph (ch.map λ_=>none) L H)(jk:H7 l.toArray nA (sp.map (·.1)) E=true)(hN:yF C.N l=true)(kU:rj l ch 0 eE=true)(hnd:Dc ch=true)(rN:qb ch 0 sp=true)(fq:ch.all (λc=>Nat.blt c nA)=true)(pure:∀(i:Nat) (o:Oper) (ds:List Nat) (u:Value),l[i]? =some o->sp[i]? =some (ds,some u)->∀cv L' H',cv.length=ch.length->H9 ch ds cv=true->Ph cv L' H'->X C l.toArray G L' H' (bP l.toArray sp ch cv ds++E) (λ_=>True) o (λv _=>v=u))(step:∀(k c:Nat) (rq:List Nat) (o:Oper) (ds:List Nat) (d:Nat),ch[k]? =some c->eE[k]? =some rq->l[c]? =some o->sp[c]? =some (ds,none)->o.dst=some d->∀cv L' H',cv.length=ch.length->xL rq k cv=true->Ph cv L' H'->∀(F:Env) (Q':aF),(∀v dK dL,Ph (cv.set k (some v)) dK dL->PJ C Q' .normal ((d,v)::(bP l.toArray sp ch cv ds++(E++F))) D G dK dL)->OJ C l.toArray Q' [o] (bP l.toArray sp ch cv ds++(E++F)) D G L' H')(Ql:eE.length=ch.length)(fin:∀cv L' H',cv.length=ch.length->cv.all (λx=>x.isSome)=true->Ph cv L' H'->OJ C l.toArray Q (l.drop nA) (bP l.toArray sp ch cv (List.range nA)++E) D G L' H'):CJ C (.region id l.toArray true) Q E D G L H:=by
 obtain⟨h1,h2,h3⟩:=Kj jk;refine nMj nA ch sp eE Ph hm h0 h1 h2 hN kU hnd rN fq pure step ?_ Ql fin;intro k c rq o ds hk _ hl _ hd;exact z2k
def Qm (C:Cx) (ops:Array Oper) (G:Gh) (L:List World) (H:ad) (E:Env) (sp:List OS):List Oper->List OS->Prop
 |o::l,(ds,some u)::ss=>(∀_:Nat->Value,X C ops G L H (dA ops sp [] [] ds++E) (λ_=>True) o (λv _=>v=u))/\Qm C ops G L H E sp l ss
 |_,_=>True
variable {ds:List Nat}
theorem xc{sp:List OS}{o:Oper}{l:List Oper}{u:Value}{ss:List OS}(h:∀_:Nat->Value,X C ops G L H (dA ops sp [] [] ds++E) (λ_=>True) o (λv _=>v=u))(t:Qm C ops G L H E sp l ss):Qm C ops G L H E sp (o::l) ((ds,some u)::ss):=⟨h,t⟩
theorem xn{sp:List OS}{l:List Oper}:Qm C ops G L H E sp l []:=by cases l<;>trivial
theorem Dn(i:Nat):∀sp:Sp,qb [] i sp=true↔∀p∈sp,p.2.isSome=true
 | []=>by simp[qb]
 |(ds,none)::sp=>by simp[qb]
 |(ds,some u)::sp=>by simp[qb,Dn (i+1) sp]
theorem nBi{C:Cx}{ops:Array Oper}{G:Gh}{L:List World}{H:ad}{E:Env}{sp:List OS}:∀(l:List Oper) (ss:List OS),Qm C ops G L H E sp l ss->qb [] 0 ss=true->∀(i:Nat) (o:Oper) (ds:List Nat) (u:Value),l[i]? =some o->ss[i]? =some (ds,some u)->X C ops G L H (dA ops sp [] [] ds++E) (λ_=>True) o (λv _=>v=u)
 | [],_,_,_,i,o,ds,u,hl,_=>by simp at hl
 |_::_,[],_,_,i,o,ds,u,_,hs=>by simp at hs
 |o'::l,(tk,none)::ss,h,hp,i,o,ds,u,hl,hs=>by simp[qb]at hp
 |o'::l,(tk,some u')::ss,h,hp,i,o,ds,u,hl,hs=>by
  cases i with
  |zero=>simp at hl hs;obtain⟨rfl,rfl⟩:=hs;subst hl;exact h.1 λ_=>undef
  |succ i=>exact nBi l ss h.2 (by rw[Dn]at hp ⊢;exact λp tB=>hp p (.tail _ tB)) i o ds u yq (by simpa using hs)
theorem nk{Q:aF}{l:List Oper}{id:Nat}(nA:Nat)(sp:List OS)(hm:C.P.follows .mixedOrders=true)(exec:Qm C l.toArray G L H E sp l sp)(jk:H7 l.toArray nA (sp.map (·.1)) E=true)(hN:yF C.N l=true)(hd:qb [] 0 sp=true)(fin:∀(_:Nat->Value),OJ C l.toArray Q (l.drop nA) (dA l.toArray sp [] [] (List.range nA)++E) D G L H):CJ C (.region id l.toArray true) Q E D G L H:=by
 refine nJl nA [] sp (λcv L' H'=>cv=[]/\L'=L/\H'=H) hm ⟨rfl,rfl,rfl⟩ jk hN rfl rfl hd rfl ?_ (λk c o ds d hk=>by simp at hk) ?_
 ·rintro i o ds u hl hs cv L' H' _ ⟨rfl,rfl,rfl⟩;exact nBi l sp exec hd i o ds u hl hs
 rintro cv L' H' _ ⟨rfl,rfl,rfl⟩;exact fin λ_=>undef
end Px
namespace Px
/-! plain arithmetic: products and quotients of 128 bits -/
theorem Dp(x y:Nat)(hx:x<2^64)(hy:y<2^64):(x/2^32)*(y/2^32)+((x/2^32)*(y%2^32)+(x%2^32)*(y%2^32)/2^32)/2^32+(((x/2^32)*(y%2^32)+(x%2^32)*(y%2^32)/2^32)%2^32+(x%2^32)*(y/2^32))/2^32=x*y/2^64:=by
 have h1:=wx x (2^32);have h2:=wx y (2^32);generalize x/2^32=x1 at *;generalize x%2^32=x0 at *;generalize y/2^32=y1 at *;generalize y%2^32=y0 at *;have e:x*y=2^64*(x1*y1)+2^32*(x1*y0)+2^32*(x0*y1)+x0*y0:=by
  rw[<-h1,<-h2];have:(2^64:Nat)=2^32*2^32:=by decide
  rw[this];simp only[lK,Nat.mul_add];have a1:2^32*x1*(2^32*y1)=2^32*2^32*(x1*y1):=by
   rw[Nat.mul_mul_mul_comm]
  have a2:2^32*x1*y0=2^32*(x1*y0):=Nat.mul_assoc _ _ _;have a3:x0*(2^32*y1)=2^32*(x0*y1):=Nat.mul_left_comm _ _ _;omega
 rw[e];generalize x1*y1=p at *;generalize x1*y0=q at *;generalize x0*y1=r at *;generalize x0*y0=s at *;omega
theorem ngp(u y1 y0 un q:Nat)(wv:2^31<=y1)(rQ:y0<2^32)(Ev:un<2^32)(hq:q=u/y1):(u*2^32+un)/(y1*2^32+y0)<=q:=by
 subst hq;apply Nat.le_of_lt_succ;rw[Nat.div_lt_iff_lt_mul zM];have h:=Nat.lt_succ_self (u/y1);have h2:=wx u y1;have h3:=Nat.mod_lt u (show 0<y1 by omega);have:u<y1*(u/y1+1):=by rw[Nat.mul_add];omega
 have h4:(u/y1).succ*(y1*2^32+y0)=(y1*(u/y1+1))*2^32+(u/y1+1)*y0:=by
  rw[Nat.succ_eq_add_one,Nat.mul_add,ts (u/y1+1) (y1*2^32),Nat.mul_right_comm]
 rw[h4];generalize y1*(u/y1+1)=z at *;have:(u+1)*2^32<=z*2^32:=uR _ this;omega
theorem ngg(u y1 y0 un q r:Nat)(hr:u=q*y1+r):(r*2^32+un<q*y0)↔u*2^32+un<q*(y1*2^32+y0):=by
 subst hr;rw[Nat.mul_add,lK,Nat.mul_assoc];omega
def cK (n:Nat):Nat:=if n=0 then 0 else Nat.log2 n+1
theorem ngo(n k:Nat)(h:2^k<=n):cK n=cK (n/2^k)+k:=by
 have hp:0<2^k:=Nat.two_pow_pos k;have hn:n≠0:=by omega
 have hq:n/2^k≠0:=by
  have:=Nat.div_pos h hp;omega
 unfold cK;rw[if_neg hn,if_neg hq];have:Nat.log2 n=Nat.log2 (n/2^k)+k:=by
  have h1:=Nat.log2_self_le hq;have h2:=Nat.lt_log2_self (n:=n/2^k);refine(Nat.log2_eq_iff hn).2 ⟨?_,?_⟩
  ·rw[Nat.pow_add];exact aS (uR _ h1) (Nat.div_mul_le_self n (2^k))
  rw[show Nat.log2 (n/2^k)+k+1=(Nat.log2 (n/2^k)+1)+k by omega,Nat.pow_add];exact(Nat.div_lt_iff_lt_mul hp).1 h2
 omega
theorem Qy(n k:Nat)(h:n<2^k):cK n<=k:=by
 unfold cK;split
 ·omega
 rename_i hn;have:=(Nat.log2_lt hn).2 h;omega
theorem nXl(n:Nat)(h:n≠0):2^(cK n-1)<=n/\n<2^cK n/\1<=cK n:=by
 unfold cK;rw[if_neg h];exact⟨by simpa using Nat.log2_self_le h,Nat.lt_log2_self,by omega⟩
/-! the quotient of 128 bits by 64 -/
theorem nxo(y:Nat)(hy:0<y)(wv:y<2^64):cK y<=64/\2^63<=y*2^(64-cK y)/\y*2^(64-cK y)<2^64:=by
 have hb:=Qy y 64 wv;obtain⟨h1,h2,h3⟩:=nXl y zM;refine⟨hb,?_,?_⟩
 ·have:2^(cK y-1)*2^(64-cK y)<=y*2^(64-cK y):=uR _ h1;rw[<-Nat.pow_add,show cK y-1+(64-cK y)=63 by omega]at this;exact this
 have:y*2^(64-cK y)<2^cK y*2^(64-cK y):=Nat.mul_lt_mul_of_pos_right h2 (Nat.two_pow_pos _);rw[<-Nat.pow_add,show cK y+(64-cK y)=64 by omega]at this;exact this
theorem nvm(lo s:Nat)(hs:s<=64):lo*2^s/2^64=lo/2^(64-s):=by
 have:(2:Nat)^64=2^(64-s)*2^s:=by
  have:=Nat.pow_add 2 (64-s) s;rwa[Nat.sub_add_cancel hs]at this
 rw[this,Nat.mul_div_mul_right _ _ (Nat.two_pow_pos s)]
theorem nko(hi lo y s:Nat)(hs:s<=64)(h:hi<y)(hlo:lo<2^64):(hi*2^s+lo/2^(64-s))*2^64+lo*2^s%2^64=(hi*2^64+lo)*2^s/\hi*2^s+lo/2^(64-s)<y*2^s:=by
 have h1:=wx (lo*2^s) (2^64);rw[nvm lo s hs]at h1;have e:(hi*2^s+lo/2^(64-s))*2^64+lo*2^s%2^64=(hi*2^64+lo)*2^s:=by
  have e1:(hi*2^64+lo)*2^s=hi*2^s*2^64+lo*2^s:=by
   rw[lK,Nat.mul_right_comm]
  rw[e1];generalize lo*2^s=z at *;generalize hi*2^s=z' at *;omega
 refine⟨e,?_⟩;have h2:(hi*2^64+lo)*2^s<(y*2^s)*2^64:=by
  have:hi*2^64+lo<y*2^64:=by
   have:(hi+1)*2^64<=y*2^64:=uR _ h;rw[lK]at this;omega
  rw[Nat.mul_right_comm];exact Nat.mul_lt_mul_of_pos_right this (Nat.two_pow_pos s)
 rw[<-e]at h2;clear e h1;generalize hi*2^s+lo/2^(64-s)=U at *;generalize y*2^s=Y at *;generalize lo*2^s%2^64=z at *;omega
theorem Ih(u v Y r1 B:Nat)(hr:(u*B+v/B)%Y=r1):u*(B*B)+v=((u*B+v/B)/Y*B+(r1*B+v%B)/Y)*Y+(r1*B+v%B)%Y:=by
 have h1:=wx (u*B+v/B) Y;have h2:=wx (r1*B+v%B) Y;have h3:=wx v B;rw[hr]at h1;clear hr;generalize (u*B+v/B)/Y=d1 at *;generalize (r1*B+v%B)/Y=d0 at *;generalize (r1*B+v%B)%Y=r0 at *;have e1:(d1*B+d0)*Y=Y*d1*B+Y*d0:=by
  rw[lK,Nat.mul_right_comm,ts d1 Y,ts d0 Y]
 rw[e1,Nat.add_assoc,h2];have e2:(Y*d1+r1)*B=(u*B+v/B)*B:=by rw[h1]
 rw[lK,lK,Nat.mul_assoc u B B,ts (v/B) B]at e2;omega
theorem n7b(u v Y r1:Nat)(hr:(u*2^32+v/2^32)%Y=r1):u*2^64+v=((u*2^32+v/2^32)/Y*2^32+(r1*2^32+v%2^32)/Y)*Y+(r1*2^32+v%2^32)%Y:=by
 have:=Ih u v Y r1 (2^32) hr;rw[<-this]
theorem n6b(hi lo y s Qn R:Nat)(hR:R<y*2^s)(h:(hi*2^64+lo)*2^s=Qn*(y*2^s)+R):(hi*2^64+lo)/y=Qn/\(hi*2^64+lo)%y=R/2^s:=by
 have hp:0<2^s:=Nat.two_pow_pos s;generalize hi*2^64+lo=N at *;generalize 2^s=p at *;have hy:0<y:=by
  rcases Nat.eq_zero_or_pos y with rfl|h
  ·simp at hR
  exact h
 have e:R=(N-Qn*y)*p:=by
  rw[Nat.sub_mul,Nat.mul_assoc];omega
 have hle:Qn*y<=N:=by
  apply Nat.le_of_mul_le_mul_right (c:=p) _ hp;rw[Nat.mul_assoc];omega
 have hlt:N-Qn*y<y:=by
  rw[e]at hR;exact Nat.lt_of_mul_lt_mul_right hR
 have hd:R/p=N-Qn*y:=by rw[e,Nat.mul_div_cancel _ hp]
 have hN:N=y*Qn+(N-Qn*y):=by rw[ts y Qn];omega
 rw[hd];constructor
 ·rw[hN,Nat.mul_add_div hy,Nat.div_eq_of_lt hlt];rfl
 have:(y*Qn+(N-Qn*y))%y=N-Qn*y:=by rw[Nat.mul_add_mod,Nat.mod_eq_of_lt hlt]
 rw[<-hN]at this;exact this
structure pF (u y1 y0 un q r:Nat):Prop where
 eq:q*y1+r=u
 lt:r<2^32
 ge:(u*2^32+un)/(y1*2^32+y0)<=q
 le:q<=2^32+1
section
variable {u y1 y0 un q r:Nat}
theorem pF.start(wv:2^31<=y1)(ah0:y1<2^32)(rQ:y0<2^32)(Ev:un<2^32)(hu:u<y1*2^32+y0):pF u y1 y0 un (u/y1) (u%y1):=by
 have h1:=Nat.mod_lt u (show 0<y1 by omega);refine⟨?_,by omega,ngp u y1 y0 un _ wv rQ Ev rfl,?_⟩
 ·rw[ts];exact wx u y1
 apply Nat.le_of_lt_succ;rw[Nat.div_lt_iff_lt_mul zM];rw[Nat.succ_eq_add_one];omega
theorem pF.small(wv:2^31<=y1)(hu:u<y1*2^32+y0)(Ev:un<2^32):(u*2^32+un)/(y1*2^32+y0)<2^32:=by
 rw[Nat.div_lt_iff_lt_mul zM];omega
theorem pF.stop(h:pF u y1 y0 un q r)(wv:2^31<=y1)(ht:q*y0<=r*2^32+un):(u*2^32+un)/(y1*2^32+y0)=q:=by
 have h1:=ngg u y1 y0 un q r h.eq.symm;have h2:q*(y1*2^32+y0)<=u*2^32+un:=U9 λhl=>by have:=h1.2 hl;omega
 have h3:=(Nat.le_div_iff_mul_le (show 0<y1*2^32+y0 by omega)).2 h2;have:=h.ge;omega
theorem pF.more(h:pF u y1 y0 un q r)(wv:2^31<=y1)(hu:u<y1*2^32+y0)(Ev:un<2^32)(ht:2^32<=q\/r*2^32+un<q*y0):1<=q/\(q-1)*y1+(r+y1)=u/\(u*2^32+un)/(y1*2^32+y0)<=q-1:=by
 have hlt:(u*2^32+un)/(y1*2^32+y0)<q:=by
  rcases ht with ht|ht
  ·exact kQ (pF.small wv hu Ev) ht
  have:=(ngg u y1 y0 un q r h.eq.symm).1 ht;rw[Nat.div_lt_iff_lt_mul zM];exact this
 have hq:1<=q:=Nat.succ_le_of_lt (Nat.lt_of_le_of_lt (dx _) hlt);refine⟨hq,?_,Nat.le_sub_one_of_lt hlt⟩;have:=h.eq;rw[Nat.sub_mul,Nat.one_mul];have:y1<=q*y1:=Nat.le_mul_of_pos_left _ hq;omega
theorem VO(hq:q<=2^32)(hr:2^32<=r)(he:q*y1+r=u)(kV:(u*2^32+un)/(y1*2^32+y0)<=q)(wv:2^31<=y1)(rQ:y0<2^32):(u*2^32+un)/(y1*2^32+y0)=q:=by
 have h1:=ngg u y1 y0 un q r he.symm;have hb:q*y0<=2^32*(2^32-1):=Nat.mul_le_mul hq zM;have h2:q*(y1*2^32+y0)<=u*2^32+un:=U9 λhl=>by have:=h1.2 hl;omega
 have h3:=(Nat.le_div_iff_mul_le (show 0<y1*2^32+y0 by omega)).2 h2;omega
end
theorem Ii(a b i:Nat)(hb:b<2^i):a*2^i|||b=a*2^i+b:=by
 rw[ts];exact(Nat.two_pow_add_eq_or_of_lt hb a).symm
end Px
namespace Px
open Go
theorem Iv{a b A B:Int}(ha:0<=a)(eb:a<=A)(hb:0<=b)(aP:b<=B):0<=a*b/\a*b<=A*B:=
 ⟨Int.mul_nonneg ha hb,Int.mul_le_mul eb aP hb (Int.le_trans ha eb)⟩
theorem n7o(x y:Int)(hx:0<=x)(hy:0<=y)(EB:x<18446744073709551616)(wv:y<18446744073709551616):(x/4294967296)*(y/4294967296)+((x/4294967296)*(y%4294967296)+(x%4294967296)*(y%4294967296)/4294967296)/4294967296+(((x/4294967296)*(y%4294967296)+(x%4294967296)*(y%4294967296)/4294967296)%4294967296+(x%4294967296)*(y/4294967296))/4294967296=x*y/18446744073709551616:=by
 obtain⟨a,rfl⟩:=DD hx;obtain⟨b,rfl⟩:=DD hy;have:=Dp a b zM zM;have h2:((2^32:Nat):Int)=4294967296:=by decide
 have h3:((2^64:Nat):Int)=18446744073709551616:=by decide
 have:=congrArg (Nat.cast (R:=Int)) this;simp only[Int.natCast_add,Int.natCast_mul,Int.natCast_ediv,Int.natCast_emod,h2,h3]at this;exact this
def lP (x:Int):Int:=cK x.toNat
theorem Ww(n k:Nat):((n:Int)/2^k)=((n/2^k:Nat):Int):=by
 rw[Int.natCast_ediv];simp
theorem nIm{x:Int}(k:Nat)(h:2^k<=x):lP x=lP (x/2^k)+k:=by
 have h0:0<=x:=Int.le_trans (Int.le_of_lt (Int.pow_pos zQ)) h;obtain⟨n,rfl⟩:=DD h0;unfold lP;have h':2^k<=n:=by
  have:((2^k:Nat):Int)<=n:=by simpa using h
  exact Int.ofNat_le.1 this
 rw[Ww,wK,wK,ngo n k h'];simp
theorem nMl{x:Int}(k:Nat)(h0:0<=x)(h:x<2^k):0<=lP x/\lP x<=k:=by
 obtain⟨n,rfl⟩:=DD h0;have h':n<2^k:=by
  have:(n:Int)<((2^k:Nat):Int):=by simpa using h
  exact Int.ofNat_lt.1 this
 have:=Qy n k h';unfold lP;simp;omega
theorem yJ(m s:Nat)(hs:s<=64)(h:m*2^s<18446744073709551616):IntKind.u64.wrap ((m:Int)*2^(min (Int.toNat (s:Int)) IntKind.u64.bits))=((m*2^s:Nat):Int):=by
 rw[show min (Int.toNat (s:Int)) IntKind.u64.bits=s by simp[IntKind.bits]<;>omega];have e:((m*2^s:Nat):Int)=(m:Int)*2^s:=by simp
 rw[<-e];exact J9 zM zM
theorem EE(m s:Nat)(hs:s<=64):IntKind.u64.wrap ((m:Int)*2^(min (Int.toNat (s:Int)) IntKind.u64.bits))=((m*2^s%2^64:Nat):Int):=by
 rw[show min (Int.toNat (s:Int)) IntKind.u64.bits=s by simp[IntKind.bits]<;>omega];have e:((m*2^s:Nat):Int)=(m:Int)*2^s:=by simp
 rw[<-e,nD];generalize m*2^s=z;omega
theorem Kp(m s:Nat)(k:Int)(hk:k=((64-s:Nat):Int)):(m:Int).fdiv (2^(min (Int.toNat k) IntKind.u64.bits))=((m/2^(64-s):Nat):Int):=by
 subst hk;rw[show min (Int.toNat ((64-s:Nat):Int)) IntKind.u64.bits=64-s by simp[IntKind.bits]<;>omega,Rk,Ww]
theorem nBc(m s:Nat)(hs:s<=64):(m:Int).fdiv (2^(min (Int.toNat (s:Int)) IntKind.u64.bits))=((m/2^s:Nat):Int):=by
 rw[show min (Int.toNat (s:Int)) IntKind.u64.bits=s by simp[IntKind.bits]<;>omega,Rk,Ww]
theorem Vy(k:Nat)(hk:k<18446744073709551616):(BitVec.ofInt IntKind.u64.bits (k:Int)).toNat=k:=by
 rw[BitVec.ofInt_natCast,BitVec.toNat_ofNat];exact Nat.mod_eq_of_lt hk
theorem Ix(a b i:Nat)(hb:b<2^i)(h:a*2^i+b<18446744073709551616):IntKind.u64.wrap ((BitVec.ofInt IntKind.u64.bits ((a*2^i:Nat):Int)|||BitVec.ofInt IntKind.u64.bits (b:Int)).toNat:Int)=((a*2^i+b:Nat):Int):=by
 rw[BitVec.toNat_or,Vy _ zM,Vy _ zM,Ii a b i hb];exact J9 zM zM
theorem yK(lo s:Nat)(hs:s<=64)(h:lo<18446744073709551616):lo/2^(64-s)<2^s:=by
 rw[Nat.div_lt_iff_lt_mul (Nat.two_pow_pos _),<-Nat.pow_add,Nat.add_sub_cancel' hs];exact h
theorem VM(a b:Nat):((a:Int)/(b:Int))=((a/b:Nat):Int):=(Int.natCast_ediv a b).symm
theorem yO(m i:Nat)(k:Int)(hk:k=(i:Int))(hi:i<=64):(m:Int).fdiv (2^(min (Int.toNat k) IntKind.u64.bits))=((m/2^i:Nat):Int):=by
 subst hk;exact nBc m i hi
end Px
namespace Px
open Go Go.RowKit
/-! #### own blocks that are forgotten -/
def Over (n:Nat):ad->Prop
 | []=>True
 |p::H=>n<=p.1/\Over n H
variable {H:ad}
theorem Over.mem{n:Nat}(h:Over n H):∀p∈H,n<=p.1:=by
 exact zmk
section
variable {G:Gh} {L:List World} {H:ad} {W:World}
theorem St.base(h:St Gh.no L H W){w:World}(hw:w∈L)(ho:Over w.heap.size H):Below w.heap.size w W:=
 (h.links w hw).below λk hk hx=>by
  rcases hx with hx|hx
  ·exact hx
  obtain⟨p,hp,rfl⟩:=bU.1 hx;have:=ho.mem p hp;omega
def Fr (G:Gh) (L:List World) (b:Nat):Prop:=G.X b\/ab L b
variable {b:Nat} {o:Obj}
theorem St.dropF(h:St G L ((b,o)::H) W)(ha:Fr G L b):St G L H W where
 ghost:=h.ghost
 vlt:=h.vlt
 xlt:=h.xlt
 links:=λw hw=>(h.links w hw).mono λk hk hx=>by
  rcases hx with hx|hx
  ·exact .inl hx
  simp only[eF,cP]at hx;rcases hx with rfl|hx
  ·rcases ha with ha|ha
   ·exact .inl ha
   have:=ha.mem w hw;omega
  exact .inr hx
 own:=λp hp=>h.own p (List.mem_cons_of_mem _ hp)
 nodup:=λi j p q hi hj e=>by
  have:=h.nodup (i+1) (j+1) p q JH (by simpa using hj) e;omega
 apart:=λp hp=>h.apart p (List.mem_cons_of_mem _ hp)
theorem St.drop(h:St G L ((b,o)::H) W)(ha:ab L b):St G L H W:=h.dropF (.inr ha)
theorem St.adopt(h:St G L H W)(hb:W.heap[b]? =some o)(ha:bE H b)(hV:¬G.V b):St G L ((b,o)::H) W where
 ghost:=h.ghost
 vlt:=h.vlt
 xlt:=h.xlt
 links:=λw hw=>(h.links w hw).mono λk _ hx=>hx.imp id λhx=>by simp[hx]
 own:=λp hp=>by
  simp only[cP]at hp;rcases hp with rfl|hp
  ·exact hb
  exact h.own p hp
 nodup:=λi j p q hi hj e=>by
  cases i with
  |zero=>
   cases j with
   |zero=>rfl
   |succ j=>
    simp only[IH,rS,zb]at hi hj;subst hi;exact absurd (bU.2 ⟨q,cB hj,e.symm⟩) ha.mem
  |succ i=>
   cases j with
   |zero=>
    simp only[IH,rS,zb]at hi hj;subst hj;exact absurd (bU.2 ⟨p,cB hi,e⟩) ha.mem
   |succ j=>
    simp only[zb]at hi hj;rw[h.nodup i j p q hi hj e]
 apart:=λp hp=>by
  simp only[cP]at hp;rcases hp with rfl|hp
  ·exact hV
  exact h.apart p hp
end
/-! #### results -/
section
variable {C:Cx} {fn:Func} {R:Ending->World->Prop} {E:Env} {G:Gh} {L:List World} {H:ad}
def RS (C:Cx) (G:Gh) (L:List World) (H:ad) (E:Env):List ResultVar->List Value->Prop
 | [],vs=>vs=[]
 |r::rs,vs=>∃v us,vs=v::us/\(match r with
  | .tmp t=>look E t=some v
  | .cell t T=>∀a W,Fits E a->St G L H W->(do loadVar T (<-asAddr (a.tmps.getD t undef)):Sem Value).run C.P W= .ok v W)/\RS C G L H E rs us
theorem RS.run:∀{rs:List ResultVar} {vs:List Value},RS C G L H E rs vs->∀(a:Act) (W:World),Fits E a->St G L H W->(rs.mapM λr=>(match r with| .tmp t=>pure (a.tmps.getD t undef)| .cell b t=>do loadVar t (<-asAddr (a.tmps.getD b undef)):Sem Value)).run C.P W= .ok vs W
 | [],vs,h,a,W,_,_=>by cases h;simp
 |r::rs,vs,h,a,W,hF,hS=>by
  obtain⟨v,us,rfl,hr,h⟩:=h;have ih:=RS.run h a W hF hS;cases r with
  |tmp t=>
   have:=hF t v hr;simp only[Act.eval]at this;simp[-Array.getD_eq_getD_getElem?,List.mapM_cons,ih,this]
  |cell b T=>
   have:=hr a W hF hS;rw[List.mapM_cons,Sem.run_bind];simp only[this];simp[-Array.getD_eq_getD_getElem?,ih]
variable {rs:List ResultVar} {vs:List Value} {v:Value}
theorem RS.t{t:Nat}(h:look E t=some v)(k:RS C G L H E rs vs):RS C G L H E (.tmp t::rs) (v::vs):=⟨v,vs,rfl,h,k⟩
variable {cs:Array Value} {T b i:Nat} {fr:Nat×Nat}
theorem RS.w{t off ct:Nat}(hi:H[i]? =some (b,.cells cs ct fr))(hA:eQ C.P T false)(hx:look E t=some (ptr b off))(hv:cs[off]? =some v)(k:RS C G L H E rs vs):RS C G L H E (.cell t T::rs) (v::vs):=
 ⟨v,vs,rfl,λa W hF hS=>by
  have:=hF t _ hx;simp only[Act.eval]at this;simp[-Array.getD_eq_getD_getElem?,this,asAddr,nQg hA (hS.own _ (cB hi)) hv],k⟩
theorem RS.wA{t off ct n:Nat}(hi:H[i]? =some (b,.cells cs ct fr))(hA:eQ C.P T true)(hZ:nZ C.P T n)(hx:look E t=some (ptr b off))(hv:off+n<=cs.size)(k:RS C G L H E rs vs):RS C G L H E (.cell t T::rs) (.agg (cut cs off n)::vs):=
 ⟨_,vs,rfl,λa W hF hS=>by
  have:=hF t _ hx;simp only[Act.eval]at this;simp[-Array.getD_eq_getD_getElem?,this,asAddr,n7g hA hZ (hS.own _ (cB hi)) hv],k⟩
theorem RS.n:RS C G L H E [] []:=rfl
def Et:List Value->Value
 | [v]=>v
 |vs=>.tuple vs.toArray
variable {W:World}
theorem RS.res(h:RS C G L H E rs vs)(hr:fn.results=rs.toArray){a:Act}(hF:Fits E a)(hS:St G L H W):(results fn a.tmps).run C.P W= .ok (Et vs) W:=by
 have:=h.run a W hF hS;unfold results;rw[hr,Sem.run_bind,List.mapM_toArray];simp only[Sem.run_map];refine(congrArg (λr=>Result.andThen (Result.andThen r _) _) this).trans ?_
 match vs with
 | []=>rfl
 | [v]=>rfl
 |v::u::vs=>simp[Et]
variable {e:Exit}
theorem bJ(he:e= .ret\/e= .normal)(hr:fn.results=rs.toArray)(h:RS C G L H E rs vs)(hR:∀W,St G L H W->R (.returned (Et vs)) W):PJ C (bodyPost C.P fn R) e E [] G L H:=λa W _ hD hF hS=>by
 have:bodyPost C.P fn R .ret a W:=⟨hD,_,h.res hr hF hS,hR W hS⟩;rcases he with rfl|rfl<;>exact this
theorem bG{w:World}(he:e= .ret\/e= .normal)(hr:fn.results=rs.toArray)(h:RS C Gh.no L H E rs vs)(hw:w∈L)(ho:Over w.heap.size H)(hv:Et vs=v):PJ C (bodyPost C.P fn (av w v)) e E [] Gh.no L H:=bJ he hr h λ_ hS=>⟨by rw[hv],hS.base hw ho⟩
/-! #### a callee that writes a block -/
def tW (w:World) (v:Value) (b:Nat) (o:Obj):Ending->World->Prop:=λe w'=>e= .returned v/\aG (· =b) w w'/\w'.heap[b]? =some o
variable {o:Obj}
theorem OU{w:World}(h:w.heap[b]? =some o):St Gh.no [w] [(b,o)] w where
 ghost:=trivial
 vlt:=λ_ h=>h.elim
 xlt:=λ_ h=>h.elim
 links:=λw' hw=>by simp at hw;subst hw;exact aG.refl _ _
 own:=λp hp=>by simp at hp;subst hp;exact h
 nodup:=λi j p q hi hj _=>by
  have h1:=(gA.1 hi).1;have h2:=(gA.1 hj).1;simp at h1 h2;omega
 apart:=λ_ _ h=>h.elim
end
section
variable {C:Cx} {Q:aF} {E:Env} {D:List Deferred} {G:Gh} {L:List World} {H:ad} {ops:Array Oper} {l:List Oper}
variable {d T ty f:Nat} {pos:String} {aB:Array Edge} {g:Option (Nat×Bool)} {x y:Operand} {xs:List Operand} {vs:List Value} {dX:Array Nat}
variable {v:Value}
theorem nJ{cap:List Value}(hx:ev E x=some (.func (.func f) #[] cap.toArray))(ax:dU C.P f)(hw:np ops E g=some true)(hN:Nat.blt d C.N=true)(ha:il E xs=some vs)(hc:∀W,St G L H W->Calls C.P f (vs++cap).toArray W (av W v))(k:OJ C ops Q l ((d,v)::E) D G L H):OJ C ops Q (⟨some d,.call ⟨.value x,xs.toArray,dX⟩,ty,pos,aB,g⟩::l) E D G L H:=
 nY rfl hw hx ha z1 ax λa W ik hD hF hS=>(hc W hS).mono (by
  rintro e W' ⟨rfl,hb⟩;exact k (a.put (some d) v) W' kW ke (hF.put _ lO) (hS.step hb))
variable {b i:Nat} {o:Obj}
theorem Kt{first cap:List Value}{o':Obj}(hi:H[i]? =some (b,o))(hx:ev E x=some (.func (.func f) first.toArray cap.toArray))(ax:dU C.P f)(hw:np ops E g=some true)(hN:Nat.blt d C.N=true)(ha:il E xs=some vs)(hc:∀W,St G L H W->W.heap[b]? =some o->Calls C.P f (first++vs++cap).toArray W (tW W v b o'))(k:OJ C ops Q l ((d,v)::E) D G L (H.set i (b,o'))):OJ C ops Q (⟨some d,.call ⟨.value x,xs.toArray,dX⟩,ty,pos,aB,g⟩::l) E D G L H:=
 nY rfl hw hx ha z1 ax λa W ik hD hF hS=>(hc W hS (hS.own _ (cB hi))).mono (by
  rintro e W' ⟨rfl,hk,hb⟩;exact k (a.put (some d) v) W' kW ke (hF.put _ lO) (hS.put hi hk hb))
variable {H':ad}
theorem OJ.reH(e:H=H')(k:OJ C ops Q l E D G L H'):OJ C ops Q l E D G L H:=by rw[e];exact k
theorem CJ.reH{c:Code}(e:H=H')(k:CJ C c Q E D G L H'):CJ C c Q E D G L H:=by rw[e];exact k
theorem PJ.reH{e':Exit}(e:H=H')(k:PJ C Q e' E D G L H'):PJ C Q e' E D G L H:=by rw[e];exact k
/-! #### values -/
theorem iP{base:Option Addr}{n c e:Nat}{t:Nat}(hU:C.P.underlying t=some (.slice e))(hx:ev E x=some (.slice base n c)):RV C G L H E (.call ⟨.builtin .len,#[x],#[t]⟩) (.int .i64 (n:Int)):=λd ty pos aB g a W hF _=>by
 simp[execOp,hF.ev hx,resolve,invoke,Deferred.ofValue,builtin,Builtin.len_,run_underlying hU,goInt]
end
section
variable {C:Cx} {Q:aF} {E:Env} {D:List Deferred} {G:Gh} {L:List World} {H:ad} {ops:Array Oper} {l:List Oper}
variable {d T ty f:Nat} {pos:String} {aB:Array Edge} {g:Option (Nat×Bool)} {x y:Operand} {xs:List Operand} {vs:List Value} {dX:Array Nat}
def Ij (E:Env):List (Nat×Operand)->Option (List (Nat×Value))
 | []=>some []
 |(i,x)::ps=>match ev E x,Ij E ps with
  |some v,some vs=>some ((i,v)::vs)
  |_,_=>none
theorem Oq{a:Act}(h:Fits E a):∀(ps:List (Nat×Operand)) (vs:List (Nat×Value)),Ij E ps=some vs->ps.map (λ(i,x)=>(i,a.eval x))=vs
 | [],vs,e=>by cases e;rfl
 |(i,x)::ps,vs,e=>by
  simp only[Ij]at e;split at e
  ·rename_i v us hv hus;cases e
   simp[h.ev hv,Oq h ps us hus]
  cases e
theorem Dq(xs:List Value):∀(cs:Array Value) (off k:Nat),(xs.zipIdx k).foldl (λcs (c,j)=>cs.setIfInBounds (off+j) c) cs=setCells cs (off+k) xs:=by
 induction xs with
 |nil=>intro cs off k;rfl
 |cons x xs ih=>intro cs off k;simp only[List.zipIdx_cons,List.foldl_cons,setCells];exact ih _ off (k+1)
theorem n6o(xs cs:Array Value)(off:Nat):xs.zipIdx.foldl (λcs (c,j)=>cs.setIfInBounds (off+j) c) cs=setCells cs off xs.toList:=by
 rw[<-Array.foldl_toList,Array.toList_zipIdx];exact Dq xs.toList cs off 0
def gT:List Value->Nat->List Value->List Value
 | [],_,_=>[]
 |c::cs,0,[]=>c::cs
 |_::cs,0,x::xs=>x::gT cs 0 xs
 |c::cs,n+1,xs=>c::gT cs n xs
theorem nWh(cs:List Value)(n:Nat):gT cs n []=cs:=by
 induction cs generalizing n with
 |nil=>cases n<;>rfl
 |cons c cs ih=>cases n with
  |zero=>rfl
  |succ n=>simp[gT,ih]
theorem Dr(cs:List Value)(x:Value)(xs:List Value):∀n,gT (cs.set n x) (n+1) xs=gT cs n (x::xs):=by
 induction cs with
 |nil=>intro n;cases n<;>rfl
 |cons c cs ih=>intro n;cases n with
  |zero=>rfl
  |succ n=>simp only[fk,gT];rw[ih]
theorem Pb(xs:List Value):∀(cs:Array Value) (off:Nat),(setCells cs off xs).toList=gT cs.toList off xs:=by
 induction xs with
 |nil=>intro cs off;rw[nWh];rfl
 |cons x xs ih=>intro cs off;rw[setCells,ih,Array.toList_setIfInBounds,Dr]
theorem Dt(cs xs:Array Value)(h:cs.size=xs.size):setCells cs 0 xs.toList=xs:=by
 apply Array.ext';rw[Pb];have key:∀(l r:List Value),l.length=r.length->gT l 0 r=r:=by
  intro l;induction l with
  |nil=>intro r h;simp at h;have:=jt h.symm;subst this;rfl
  |cons c l ih=>intro r h;cases r with
   |nil=>simp at h
   |cons x r=>simp only[gT];rw[ih r rO]
 exact key _ _ rO
variable {cs:Array Value} {b i:Nat} {v:Value}
theorem aV{t n:Nat}(hi:H[i]? =some (b,.cells cs t (0,0)))(hZ:nZ C.P T n)(hw:np ops E g=some true)(hx:ev E x=some (ptr b 0))(hy:ev E y=some v)(hv:v.cells.size=n)(hn:cs.size=n)(h1:nU v.cells.toList=true)(k:OJ C ops Q l E D G L (H.set i (b,.cells v.cells t (0,0)))):OJ C ops Q (⟨none,.store T x y,ty,pos,aB,g⟩::l) E D G L H:=
 kq hi hZ hw hx hy hv zM h1 (by rw[Dt cs v.cells zM];exact k)
def Kk (pl:Nat->Option (Nat×Nat)):List Value->List (Nat×Value)->Option (List Value)
 |cs,[]=>some cs
 |cs,(i,v)::ps=>match pl i with
  |none=>none
  |some (off,n)=>match Nat.beq v.cells.size n&&Nat.ble (off+n) cs.length with
   |true=>Kk pl (gT cs off v.cells.toList) ps
   |false=>none
theorem Ot{pl:Nat->Option (Nat×Nat)}:∀{ps:List (Nat×Value)} {cs:Array Value} {ds:List Value},Kk pl cs.toList ps=some ds->Instr.fill pl cs ps=some ds.toArray
 | [],cs,ds,h=>by simp only[Kk,rS]at h;subst h;rfl
 |(i,v)::ps,cs,ds,h=>by
  simp only[Kk]at h;unfold Instr.fill;cases hp:pl i with
  |none=>rw[hp]at h;simp at h
  |some q=>
   obtain⟨off,n⟩:=q;rw[hp]at h;simp only at h ⊢;split at h
   ·rename_i hb;simp only[fX,Nat.beq_eq,Nat.ble_eq]at hb;have h1:v.cells.size=n:=hb.1;have h2:off+n<=cs.size:=by simpa using hb.2
    rw[if_neg kh,n6o];exact Ot (by rw[Pb];exact h)
   simp at h
def vh:Nat->List Value->List (Nat×Value)
 |_,[]=>[]
 |k,v::vs=>(k,v)::vh (k+1) vs
def Ik:List Value->List Value
 | []=>[]
 |v::vs=>v.cells.toList++Ik vs
def Ou (m:Nat):List Value->Bool
 | []=>true
 |v::vs=>Nat.beq v.cells.size m&&Ou m vs
theorem WD(a b c xs:List Value)(h:xs.length=b.length):gT (a++(b++c)) a.length xs=a++(xs++c):=by
 induction a with
 |nil=>
  simp only[eg,lF];induction b generalizing xs with
  |nil=>simp at h;subst h;simp[nWh]
  |cons y b ih=>
   cases xs with
   |nil=>simp at h
   |cons x xs=>simp only[fj,gT];rw[ih xs rO]
 |cons y a ih=>simp only[fj,ec,gT];rw[ih]
theorem Vz(m:Nat):∀(vs:List Value) (k:Nat) (a c:List Value),Ou m vs=true->a.length=k*m->c.length=vs.length*m->Kk (λi=>some (i*m,m)) (a++c) (vh k vs)=some (a++Ik vs)
 | [],k,a,c,_,_,hc=>by
  have:c=[]:=jt (by simpa using hc);subst this;rfl
 |v::vs,k,a,c,hs,ha,hc=>by
  simp only[Ou,fX,Nat.beq_eq]at hs;simp only[ec,lK,Nat.one_mul]at hc;simp only[vh,Kk];have hv:v.cells.toList.length=m:=by simpa using hs.1
  obtain⟨b,c',rfl,hb⟩:∃b c',c=b++c'/\b.length=m:=⟨c.take m,c.drop m,(yj m c).symm,by simp;omega⟩;have ht:(Nat.beq v.cells.size m&&Nat.ble (k*m+m) (a++(b++c')).length)=true:=by
   simp only[fX,Nat.beq_eq,Nat.ble_eq,cC]at *;omega
  rw[ht];simp only;rw[<-ha,WD a b c' _ zM];simp only[cC]at hc;have:=Vz m vs (k+1) (a++v.cells.toList) c' hs.2 (by rw[cC,lK];omega) zM;rw[iH]at this;rw[this,Ik,iH]
def bA (P:Program):List Field->List (Nat×Nat)->Prop
 | [],ps=>ps=[]
 |f::fs,ps=>∃n qs,ps=(f.offset,n)::qs/\nZ P f.type n/\bA P fs qs
theorem bA.n{P:Program}:bA P [] []:=rfl
theorem bA.c{P:Program}{fi:Field}{fs:List Field}{n:Nat}{qs:List (Nat×Nat)}(h:nZ P fi.type n)(k:bA P fs qs):bA P (fi::fs) ((fi.offset,n)::qs):=⟨n,qs,rfl,h,k⟩
theorem bA.run{P:Program}(W:World):∀{fs:List Field} {ps:List (Nat×Nat)},bA P fs ps->(fs.mapM λf=>Functor.map (Prod.mk f.offset) (sizeOf f.type):Sem _).run P W= .ok ps W
 | [],ps,h=>by cases h;simp
 |f::fs,ps,h=>by
  obtain⟨n,qs,rfl,hn,h⟩:=h;simp[List.mapM_cons,hn W,bA.run W h]
variable {ps:List (Nat×Operand)}
theorem bL{fs:List Field}{z:Value}{vs:List (Nat×Value)}{pl:List (Nat×Nat)}{cs:List Value}(hU:C.P.underlying T=some (.struct fs.toArray))(hz:vc C.P T z)(hp:bA C.P fs pl)(ha:Ij E ps=some vs)(hf':Kk (pl[·]?) z.cells.toList vs=some cs):RV C G L H E (.build T ps.toArray) (.agg cs.toArray):=λd ty pos aB g a W hF _=>by
 have hf:=Ot hf';have h2:(ps.toArray).map (λ(i,x)=>(i,a.eval x))=vs.toArray:=by rw[yD,Oq hF ps vs ha]
 have h3:=hp.run W;simp[execOp,h2,Instr.build,hz W,run_underlying hU,List.mapM_toArray,h3,hf]
variable {m:Nat}
theorem qD{n e:Nat}{z:Value}{vs:List (Nat×Value)}{cs:List Value}(hU:C.P.underlying T=some (.array n e))(hz:vc C.P T z)(hp:nZ C.P e m)(ha:Ij E ps=some vs)(hf':Kk (λi=>some (i*m,m)) z.cells.toList vs=some cs):RV C G L H E (.build T ps.toArray) (.agg cs.toArray):=λd ty pos aB g a W hF _=>by
 have hf:=Ot hf';have h2:(ps.toArray).map (λ(i,x)=>(i,a.eval x))=vs.toArray:=by rw[yD,Oq hF ps vs ha]
 simp[execOp,h2,Instr.build,hz W,run_underlying hU,hp W,hf]
variable {W:World}
theorem nUd{P:Program}{a:Act}{n e:Nat}{z:Value}{vs:List (Nat×Value)}(hU:P.underlying T=some (.slice e))(hp:nZ P e m)(hz:vc P e z)(ha:ps.map (λ(i,x)=>(i,a.eval x))=vs)(Ov:Nat.ble (n*m) 16777216=true)(hf:Instr.fill (λi=>some (i*m,m)) ((Array.range (n*m)).map (λj=>((if n*m=0 then #[]else z.cells)[j%(if n*m=0 then #[]else z.cells).size]!))) vs=some cs):(execOp a.eval ⟨some d,.buildSlice T n ps.toArray,ty,pos,aB,g⟩).run P W= .ok (.value (.slice (some ⟨W.heap.size,0,none⟩) n n)) (W.alloc (.cells cs e (0,0))):=by
 have h2:(ps.toArray).map (λ(i,x)=>(i,a.eval x))=vs.toArray:=by rw[yD,ha]
 have VA:¬(n*m>2^24):=by have:=aT Ov;omega
 by_cases h0:n*m=0
 ·rw[if_pos h0]at hf;simp[execOp,h2,Instr.buildSlice,run_underlying hU,hp W,newRow,newObj];rw[if_neg (by simpa using VA)];simp[h0]at hf ⊢;simp[hf,Sem.run]
 rw[if_neg h0]at hf;simp only[execOp,h2,Instr.buildSlice,Sem.run_bind,run_underlying hU,hp W,Result.andThen,if_neg VA,if_neg h0,hz W,Sem.run_pure,hf,newRow,newObj];simp[Sem.run]
theorem nTg{α:Type}(n:Nat)(f:Nat->α):((Array.range n).map f).toList.length=n:=by simp
theorem EU{n e:Nat}{z:Value}{vs:List (Nat×Value)}(hU:C.P.underlying T=some (.slice e))(hp:nZ C.P e m)(hz:vc C.P e z)(hw:np ops E g=some true)(hN:Nat.blt d C.N=true)(ha:Ij E ps=some vs)(Ov:Nat.ble (n*m) 16777216=true)(hs:vs=vh 0 (vs.map (·.2)))(hl:vs.length=n)(hm:Ou m (vs.map (·.2))=true)(k:∀(b:Nat) (w1:World),w1.heap[b]? =some (.cells (Ik (vs.map (·.2))).toArray e (0,0))->ab L b->bE H b->¬G.X b->w1.heap.size=b+1->OJ C ops Q l ((d,.slice (some ⟨b,0,none⟩) n n)::E) D G (w1::L) H):OJ C ops Q (⟨some d,.buildSlice T n ps.toArray,ty,pos,aB,g⟩::l) E D G L H:=
 pC z1 hw hN λa W hF hS=>⟨_,_,_,_,nUd hU hp hz (Oq hF ps vs ha) Ov (Ot (by
  have:=Vz m (vs.map (·.2)) 0 [] ((Array.range (n*m)).map (λj=>((if n*m=0 then #[]else z.cells)[j%(if n*m=0 then #[]else z.cells).size]!))).toList hm z1 (by rw[nTg,fy,hl]);rw[<-hs,eg,eg]at this;exact this)),(hS.step (TV W _)).snap,
  k W.heap.size _ (heap_alloc_new W _) hS.sizes hS.offNew hS.mNew z1⟩
variable {K:IntKind}
theorem qm{n e:Nat}{i:Int}(hU:C.P.underlying T=some (.array n e))(hA:eQ C.P e false)(hZ:nZ C.P e m)(hx:ev E x=some (.agg cs))(hy:ev E y=some (.int K i))(h0:0<=i)(h1:i<n)(hv:cs[i.toNat*m]? =some v):RV C G L H E (.index T x y) v:=λd ty pos aB g a W hF _=>by
 simp[execOp,hF.ev hx,hF.ev hy,Instr.index,asIntOf,run_underlying hU,h0,h1,hZ W,part,hA W,hv]
end
/-! #### numbers of 32 bits -/
abbrev u32 (x:BitVec 32):Value:=.int .u32 (x.toNat:Int)
theorem w32(x:BitVec 32):IntKind.u32.wrap (x.toNat:Int)=(x.toNat:Int):=by
 rw[YL];have:=x.isLt;omega
theorem xP(x:BitVec 32):BitVec.ofInt IntKind.u32.bits (x.toNat:Int)=x:=by
 show BitVec.ofInt 32 (x.toNat:Int)=x;rw[BitVec.ofInt_natCast,BitVec.ofNat_toNat,BitVec.setWidth_eq]
section
variable {C:Cx} {E:Env} {G:Gh} {L:List World} {H:ad} {T U:Nat} {x y:Operand} {a b:BitVec 32}
theorem qu(hx:ev E x=some (u32 a))(hy:ev E y=some (u32 b)):RV C G L H E (.binOp .add T x y U) (u32 (a+b)):=
 RV.re (lA hx hy) (congrArg (Value.int .u32) (by rw[YL,BitVec.toNat_add];omega))
theorem ug(hx:ev E x=some (u32 a))(hy:ev E y=some (u32 b)):RV C G L H E (.binOp .xor T x y U) (u32 (a^^^b)):=
 RV.re (uo hx hy) (congrArg (Value.int .u32) (by rw[xP,xP];exact w32 (a^^^b)))
theorem Ow(hx:ev E x=some (u32 a))(hy:ev E y=some (u32 b)):RV C G L H E (.binOp .and T x y U) (u32 (a&&&b)):=
 RV.re (ud hx hy) (congrArg (Value.int .u32) (by rw[xP,xP];exact w32 (a&&&b)))
theorem vn(hx:ev E x=some (u32 a))(hy:ev E y=some (u32 b)):RV C G L H E (.binOp .or T x y U) (u32 (a|||b)):=
 RV.re (vj hx hy) (congrArg (Value.int .u32) (by rw[xP,xP];exact w32 (a|||b)))
variable {K':IntKind}
theorem yY(j:Nat)(hj:j<=32){n:Int}(hn:n=(j:Int))(hx:ev E x=some (u32 a))(hy:ev E y=some (.int K' n)):RV C G L H E (.binOp .shl T x y U) (u32 (a<<<j)):=by
 subst hn;refine RV.re (mN hx hy (Int.natCast_nonneg _)) (congrArg (Value.int .u32) ?_);have e:min (Int.toNat (j:Int)) IntKind.u32.bits=j:=by simp[IntKind.bits];omega
 rw[e,YL,BitVec.toNat_shiftLeft,Nat.shiftLeft_eq];simp
theorem ue(j:Nat)(hj:j<=32){n:Int}(hn:n=(j:Int))(hx:ev E x=some (u32 a))(hy:ev E y=some (.int K' n)):RV C G L H E (.binOp .shr T x y U) (u32 (a>>>j)):=by
 subst hn;refine RV.re (iL hx hy (Int.natCast_nonneg _)) (congrArg (Value.int .u32) ?_);have e:min (Int.toNat (j:Int)) IntKind.u32.bits=j:=by simp[IntKind.bits];omega
 rw[e,Rk,BitVec.toNat_ushiftRight,Nat.shiftRight_eq_div_pow];simp
variable {K:IntKind}
theorem Ky{S T':Nat}{ds:TypeDesc}{m:Int}(C9:C.P.underlying S=some ds)(hT:C.P.underlying T'=some (.int .u32))(hx:ev E x=some (.int K m)):RV C G L H E (.convert S T' x) (u32 (BitVec.ofInt 32 m)):=
 RV.re (iN C9 hT hx) (congrArg (Value.int .u32) (by rw[YL,BitVec.toNat_ofInt];omega))
end
def vm (v:BitVec 32) (n:Nat):BitVec 32:=v>>>n|||v<<<(32-n)
/-! #### cells by a function -/
def cf (n:Nat) (f:Nat->Value):Array Value:=((List.range n).map f).toArray
theorem IG(n:Nat)(f:Nat->Value)(i:Nat)(h:i<n):(cf n f)[i]? =some (f i):=by simp[cf,h]
theorem y9(n:Nat)(f:Nat->Value):(cf n f).size=n:=by simp[cf]
def DG {α:Type} (f:Nat->α) (i:Nat) (v:α):Nat->α:=λj=>if j=i then v else f j
theorem QM(n:Nat)(f:Nat->Value)(i:Nat)(v:Value):setCells (cf n f) i [v]=cf n (DG f i v):=by
 apply Array.ext';rw[Pb];simp only[cf];apply vr;intro j;have key:∀(l:List Value) (k:Nat),gT l k [v]=l.set k v:=by
  intro l;induction l with
  |nil=>intro k;cases k<;>rfl
  |cons c l ih=>intro k;cases k with
   |zero=>simp[gT,nWh]
   |succ k=>simp[gT,ih]
 rw[key];by_cases hj:j=i
 ·subst hj;by_cases hn:j<n
  ·rw[J7 (by simpa using hn)];simp[hn,DG]
  rw[um kh,um kh]
 rw[HY (λe=>hj e.symm)];by_cases hn:j<n
 ·simp[hn,DG,hj]
 rw[um kh,um kh]
theorem O0{n:Nat}{f g:Nat->Value}(h:∀i,i<n->f i=g i):cf n f=cf n g:=by
 unfold cf;congr 1;apply List.map_congr_left;intro i hi;exact h i JH
/-! #### SHA-256, as_ numbers -/
def af5:List (BitVec 32):=[1116352408,1899447441,3049323471,3921009573,961987163,1508970993,2453635748,2870763221,3624381080,310598401,607225278,1426881987,1925078388,2162078206,2614888103,3248222580,3835390401,4022224774,264347078,604807628,770255983,1249150122,1555081692,1996064986,2554220882,2821834349,2952996808,3210313671,3336571891,3584528711,113926993,338241895,666307205,773529912,1294757372,1396182291,1695183700,1986661051,2177026350,2456956037,2730485921,2820302411,3259730800,3345764771,3516065817,3600352804,4094571909,275423344,430227734,506948616,659060556,883997877,958139571,1322822218,1537002063,1747873779,1955562222,2024104815,2227730452,2361852424,2428436474,2756734187,3204031479,3329325298]
def kk (i:Nat):BitVec 32:=af5.getD i 0
def af6:List (BitVec 32):=[1779033703,3144134277,1013904242,2773480762,1359893119,2600822924,528734635,1541459225]
def hh (i:Nat):BitVec 32:=af6.getD i 0
def OW (m:Nat->Int) (o:Nat):BitVec 32:=BitVec.ofInt 32 (m o)<<<24|||BitVec.ofInt 32 (m (o+1))<<<16|||BitVec.ofInt 32 (m (o+2))<<<8|||BitVec.ofInt 32 (m (o+3))
def s0 (x:BitVec 32):BitVec 32:=vm x 7^^^vm x 18^^^x>>>3
def s1 (x:BitVec 32):BitVec 32:=vm x 17^^^vm x 19^^^x>>>10
def eM (m:Nat->Int):Nat->Nat->BitVec 32
 |0=>λ_=>0
 |n+1=>DG (eM m n) n (if n<16 then OW m (4*n)else eM m n (n-16)+s0 (eM m n (n-15))+eM m n (n-7)+s1 (eM m n (n-2)))
structure S8 where
 a:BitVec 32
 b:BitVec 32
 c:BitVec 32
 d:BitVec 32
 e:BitVec 32
 f:BitVec 32
 g:BitVec 32
 h:BitVec 32
def chf (e f g:BitVec 32):BitVec 32:=(e&&&f)^^^((~~~ e)&&&g)
def maj (a b c:BitVec 32):BitVec 32:=(a&&&b)^^^(a&&&c)^^^(b&&&c)
theorem EO(e f g:BitVec 32):g^^^(e&&&(f^^^g))=chf e f g:=by
 unfold chf;apply BitVec.eq_of_getLsbD_eq;intro i hi;simp only[BitVec.getLsbD_xor,BitVec.getLsbD_and,BitVec.getLsbD_not,hi,decide_true,Bool.true_and];cases e.getLsbD i<;>cases f.getLsbD i<;>cases g.getLsbD i<;>rfl
theorem EP(a b c:BitVec 32):(a&&&b)|||(c&&&(a|||b))=maj a b c:=by
 unfold maj;apply BitVec.eq_of_getLsbD_eq;intro i hi;simp only[BitVec.getLsbD_xor,BitVec.getLsbD_and,BitVec.getLsbD_or];cases a.getLsbD i<;>cases b.getLsbD i<;>cases c.getLsbD i<;>rfl
def S8.P (s:S8) (k w:BitVec 32):BitVec 32:=s.h+(vm s.e 6^^^vm s.e 11^^^vm s.e 25)+chf s.e s.f s.g+k+w
def S8.Q (s:S8):BitVec 32:=(vm s.a 2^^^vm s.a 13^^^vm s.a 22)+maj s.a s.b s.c
def S8.step (s:S8) (k w:BitVec 32):S8:=⟨s.P k w+s.Q,s.a,s.b,s.c,s.d+s.P k w,s.e,s.f,s.g⟩
def S8.run (w:Nat->BitVec 32) (s:S8):Nat->S8
 |0=>s
 |n+1=>(S8.run w s n).step (kk n) (w n)
def S8.add (s t:S8):S8:=⟨s.a+t.a,s.b+t.b,s.c+t.c,s.d+t.d,s.e+t.e,s.f+t.f,s.g+t.g,s.h+t.h⟩
def S8.comp (s:S8) (m:Nat->Int):S8:=s.add (s.run (eM m 64) 64)
def S8.at (s:S8):Nat->BitVec 32
 |0=>s.a|1=>s.b|2=>s.c|3=>s.d|4=>s.e|5=>s.f|6=>s.g|_=>s.h
def S8.cells (s:S8):Array Value:=#[u32 s.a,u32 s.b,u32 s.c,u32 s.d,u32 s.e,u32 s.f,u32 s.g,u32 s.h]
def S8.init:S8:=⟨1779033703,3144134277,1013904242,2773480762,1359893119,2600822924,528734635,1541459225⟩
def eG (n:Nat):Nat:=(n+72)/64
def uj (n:Nat) (m:Nat->Int) (i:Nat):Int:=
 if i<n then m i else if i=n then 128 else if i<64*eG n-8 then 0 else((8*n/2^(8*(64*eG n-1-i)):Nat):Int)%256
def oU (n:Nat) (m:Nat->Int):Nat->S8
 |0=>S8.init
 |j+1=>(oU n m j).comp (λi=>uj n m (64*j+i))
def zc (s:S8) (i:Nat):Int:=((s.at (i/4)).toNat/2^(24-8*(i%4))%256:Nat)
def tv (n:Nat) (m:Nat->Int):Nat->Int:=zc (oU n m (eG n))
theorem EX(n:Nat)(m:Nat->Int):∀i,0<=tv n m i/\tv n m i<256:=λi=>by unfold tv zc;omega
theorem S8.cells_cf(s:S8):s.cells=cf 8 (λi=>u32 (s.at i)):=rfl
theorem S8.cells_at(s:S8)(i:Nat)(h:i<8):s.cells[i]? =some (u32 (s.at i)):=by rw[S8.cells_cf];exact IG 8 _ i h
theorem Ox{α:Type}:∀(H:List α) (i:Nat) (p:α),H[i]? =some p->H.Perm (p::H.eraseIdx i)
 | [],i,p,h=>by simp at h
 |q::H,0,p,h=>by simp at h;subst h;simp
 |q::H,i+1,p,h=>by
  simp only[zb]at h;simp only[rV];exact((Ox H i p h).cons q).trans (List.Perm.swap _ _ _)
theorem YW{α:Type}:∀(H:List α) (i:Nat) (q:α),i<H.length->(H.set i q).Perm (q::H.eraseIdx i)
 | [],i,q,h=>by simp at h
 |r::H,0,q,_=>by simp
 |r::H,i+1,q,h=>by
  simp only[fk,rV];exact((YW H i q rO).cons r).trans (List.Perm.swap _ _ _)
section
variable {G:Gh} {L:List World} {H:ad} {W:World}
variable {b i:Nat} {o:Obj}
theorem St.renew(h:St G L H W)(o':Obj)(hi:H[i]? =some (b,o))(ha:ab L b):St G L (H.set i (W.heap.size,o')) (W.alloc o'):=by
 have tG:=(gA.1 hi).1;have hp:H.Perm ((b,o)::H.eraseIdx i):=Ox H i _ hi;have h1:=(h.perm hp).drop ha;exact(h1.alloc o').perm (YW H i _ tG).symm
theorem St.dropAt(h:St G L H W)(hi:H[i]? =some (b,o))(ha:ab L b):St G L (H.eraseIdx i) W:=by
 have tG:=(gA.1 hi).1;have hp:H.Perm ((b,o)::H.eraseIdx i):=Ox H i _ hi;exact(h.perm hp).drop ha
end
def Rd (C:Cx) (G:Gh) (L:List World) (H:ad) (size n:Nat) (v:Value) (news:List Value):Prop:=
 ∀W,St G L H W->(Builtin.firstCells size n v).run C.P W= .ok news.toArray W
section
variable {C:Cx} {Q:aF} {E:Env} {D:List Deferred} {G:Gh} {L:List World} {H:ad} {ops:Array Oper} {l:List Oper}
variable {d T ty f:Nat} {pos:String} {aB:Array Edge} {g:Option (Nat×Bool)} {x y:Operand} {xs:List Operand} {vs:List Value} {dX:Array Nat}
variable {cs:Array Value} {b k size:Nat} {fr:Nat×Nat} {W:World}
theorem YX{P:Program}{off n c t:Nat}(h:W.heap[b]? =some (.cells cs t fr))(hn:off+n*size<=cs.size):(Builtin.firstCells size n (.slice (some ⟨b,off,none⟩) k c)).run P W= .ok (cut cs off (n*size)) W:=by
 simp only[Builtin.firstCells];rw[nwg h hn,nTh]
variable {news:List Value} {i:Nat}
theorem Rd.own{n off c t:Nat}(hi:H[i]? =some (b,.cells cs t fr))(hn:off+n*size<=cs.size)(he:(cs.toList.drop off).take (n*size)=news):Rd C G L H size n (.slice (some ⟨b,off,none⟩) k c) news:=λW hS=>by rw[YX (hS.own _ (cB hi)) hn];unfold cut;rw[he]
variable {w1:World}
theorem Rd.old{n off c t:Nat}(hm:w1∈L)(hb:w1.heap[b]? =some (.cells cs t fr))(hG:¬G.X b)(hO:bE H b)(hn:off+n*size<=cs.size)(he:(cs.toList.drop off).take (n*size)=news):Rd C G L H size n (.slice (some ⟨b,off,none⟩) k c) news:=λW hS=>by rw[YX (hS.old hm hb hG hO) hn];unfold cut;rw[he]
theorem Rd.str{s:ByteArray}:Rd C G L H 1 s.size (.string s) (byteCells s):=λW _=>firstCells_string s W
structure jP (C:Cx) (G:Gh) (L:List World) (H:ad) (size tx:Nat) (x:Value) (n:Nat) (news:List Value):Prop where
 kind:(∃e',C.P.underlying tx=some (.slice e'))\/C.P.underlying tx=some .string
 len:∀w':World,(Builtin.lenOf x).run C.P w'= .ok n w'
 rd:Rd C G L H size n x news
 newsLen:news.length=n*size
 one:∀u∈news,u.oneCell'=true
variable {tx:Nat} {v:Value}
theorem jP.src{n:Nat}(h:jP C G L H size tx v n news)(hS:St G L H W):Src C.P size tx v n news W:=
 ⟨h.kind,h.len,h.rd W hS,h.rd W.drew (hS.step (FT W _)),h.newsLen,h.one⟩
variable {a:Option Addr}
theorem jP.sl{e' n c:Nat}(hU:C.P.underlying tx=some (.slice e'))(hr:Rd C G L H size n (.slice a n c) news)(hl:news.length=n*size)(h1:∀u∈news,u.oneCell'=true):jP C G L H size tx (.slice a n c) n news:=⟨.inl ⟨e',hU⟩,λ_=>rfl,hr,hl,h1⟩
theorem n8d(b:Nat):∀(news:List Value) (o:Nat) (W:World) (cs:Array Value) (t:Nat),W.heap[b]? =some (.cells cs t (0,0))->aG (· =b) W (W.setCells b o news)/\(W.setCells b o news).heap[b]? =some (.cells (setCells cs o news) t (0,0))
 | [],o,W,cs,t,h=>⟨aG.refl _ _,h⟩
 |v::vs,o,W,cs,t,h=>by
  obtain⟨h1,h2⟩:=n8d b vs (o+1) (W.setCell ⟨b,o,none⟩ v) _ t (nKg v h);exact⟨(ndh W b o v).trans h1,h2⟩
variable {sp:List Value} {m:Nat} {sv:Value}
theorem QW{e n len cap t:Nat}{ti:TypeInfo}{z:Value}{ys:List Value}(hi:H[i]? =some (b,.cells (ys++sp).toArray e (0,0)))(hU:C.P.underlying t=some (.slice e))(qd:C.P.info? e=some ti)(hz:ti.zero=some z)(hm:ti.size=m)(Az:z.cells.size=m)(hw:np ops E g=some true)(hN:Nat.blt d C.N=true)(hx:ev E x=some (.slice (some ⟨b,0,none⟩) len cap))(hy:ev E y=some sv)(hs:jP C G L H m tx sv n news)(hlen:ys.length=len*m)(zE:sp.length=(cap-len)*m)(Z6:len<=cap)(ha:ab L b)(h63:len+n<=9223372036854775807)(oG:(len+n)*ti.bytes<=140737488355328)(k:∀(b' aU:Nat) (bK:List Value),ab L b'->len+n<=aU->bK.length=(aU-(len+n))*m->OJ C ops Q l ((d,.slice (some ⟨b',0,none⟩) (len+n) aU)::E) D G L (H.set i (b',.cells (ys++news++bK).toArray e (0,0)))):OJ C ops Q (⟨some d,.call ⟨.builtin .append,#[x,y],#[t,tx]⟩,ty,pos,aB,g⟩::l) E D G L H:=
 pC z1 hw hN λa W hF hS=>by
  subst hm;have tr:=hs.src hS;have hb:=hS.own _ (cB hi);have hex:∀{v W'},(Builtin.append_ #[t,tx] ty #[.slice (some ⟨b,0,none⟩) len cap,sv]).run C.P W= .ok v W'->(execOp a.eval ⟨some d,.call ⟨.builtin .append,#[x,y],#[t,tx]⟩,ty,pos,aB,g⟩).run C.P W= .ok (.value v) W':=by
   intro v W' hr;simp[execOp,hF.ev hx,hF.ev hy,resolve,invoke,Deferred.ofValue,builtin,hr]
  have L6:=hs.newsLen;by_cases jf:len+n<=cap
  ·have hle:(len+n)*ti.size<=cap*ti.size:=uR _ jf;have jF:(ys++sp).toArray.size=cap*ti.size:=by
    simp only[rU,cC,hlen,zE];rw[<-lK];congr 1;omega
   rw[lK]at hle;have hr:=run_append_room_src (P:=C.P) W t tx ty e ti hU qd b 0 len cap sv n news tr jf
    (λj hj=>by rw[DP hb];simp only[jg];rw[Ie zM];rfl)
    (λj hj=>by simp[World.frozen?,hb])
   obtain⟨h1,h2⟩:=n8d b news (0+len*ti.size) W _ _ hb;have ku:(sp.drop (n*ti.size)).length=(cap-(len+n))*ti.size:=by
    rw[AN,zE,<-Nat.sub_mul];congr 1;omega
   have hc:setCells (ys++sp).toArray (0+len*ti.size) news=(ys++news++sp.drop (n*ti.size)).toArray:=by
    exact zPj
   rw[hc]at h2;exact⟨_,_,_,_,hex hr,hS.put hi h1 h2,k b cap _ ha jf ku⟩
  have hold:(Builtin.firstCells ti.size len (.slice (some ⟨b,0,none⟩) len cap)).run C.P W.drew= .ok ys.toArray W.drew:=by
   exact zak
  have hr:=run_append_grow_src (P:=C.P) W t tx ty e ti z hU qd hz (some ⟨b,0,none⟩) len cap ys hold sv n news tr zM zM (growslice_fits zM oG);have hg:=grownCap_ge W (len+n) cap e;have fP:=(hS.step (FT W (W.drawn+1))).renew (.cells ((ys++news).toArray++Builtin.zeroCells z.cells (grownCap W (len+n) cap e-(len+n))) e (0,0)) hi ha;have Jf:(Builtin.zeroCells z.cells (grownCap W (len+n) cap e-(len+n))).toList.length=(grownCap W (len+n) cap e-(len+n))*ti.size:=by
   simp[Builtin.zeroCells,Az]
  have hc:(ys++news).toArray++Builtin.zeroCells z.cells (grownCap W (len+n) cap e-(len+n))=(ys++news++(Builtin.zeroCells z.cells (grownCap W (len+n) cap e-(len+n))).toList).toArray:=by
   apply Array.ext';simp
  rw[hc]at fP hr;exact⟨_,_,_,_,hex hr,fP,k W.heap.size _ _ hS.sizes hg Jf⟩
def BE (E:Env):Option Operand->Nat->Nat->Prop
 |none,d,l=>l=d
 |some o,_,l=>∃K i,ev E o=some (.int K i)/\i=(l:Int)
theorem BE.val{a:Act}(hF:Fits E a):∀{lo:Option Operand} {d' l:Nat},BE E lo d' l->(lo.map a.eval=none/\l=d')\/∃K,lo.map a.eval=some (.int K (l:Int))
 |none,_,_,h=>.inl ⟨rfl,h⟩
 |some o,_,_,h=>by obtain⟨K,i,h,rfl⟩:=h;exact .inr ⟨K,by simp[hF.ev h]⟩
variable {hi:Option Operand}
theorem nsl{P:Program}{a:Act}(hF:Fits E a)(s:Bool){n c l h:Nat}{lo:Option Operand}(hl:BE E lo 0 l)(hh:BE E hi n h)(h1:l<=h)(h2:h<=c):(Instr.sliceBounds s n c (lo.map a.eval) (hi.map a.eval) none).run P W= .ok (l,h,c) W:=by
 rcases hl.val hF with⟨e1,e2⟩|⟨K,e1⟩<;>rcases hh.val hF with⟨f1,f2⟩|⟨K',f1⟩<;>rw[e1,f1]
 ·subst e2;subst f2;simp[Instr.sliceBounds]
 ·subst e2;simp[Instr.sliceBounds,Instr.sliceBound,asIntOf,h2]
 ·subst f2;simp[Instr.sliceBounds,Instr.sliceBound,asIntOf,h1]
 simp[Instr.sliceBounds,Instr.sliceBound,asIntOf,h1,h2]
theorem iw{off n c e l h off':Nat}{lo:Option Operand}(hU:C.P.underlying T=some (.slice e))(hZ:nZ C.P e m)(hx:ev E x=some (.slice (some ⟨b,off,none⟩) n c))(hl:BE E lo 0 l)(hh:BE E hi n h)(h1:l<=h)(h2:h<=c)(ho:off'=if c=l then off else off+l*m):RV C G L H E (.slice T x lo hi none) (.slice (some ⟨b,off',none⟩) (h-l) (c-l)):=λd ty pos aB g a W hF _=>by
 subst ho;have:=nsl (P:=C.P) (W:=W) hF true hl hh h1 h2;simp[execOp,hF.ev hx,Instr.sliceAt,Instr.slice,run_underlying hU,this,hZ W,Kb];split<;>rfl
theorem y6{off n e l h off':Nat}{lo:Option Operand}(hU:C.P.underlying T=some (.array n e))(hZ:nZ C.P e m)(hx:ev E x=some (ptr b off))(hl:BE E lo 0 l)(hh:BE E hi n h)(h1:l<=h)(h2:h<=n)(ho:off'=if n=l then off else off+l*m):RV C G L H E (.slice T x lo hi none) (.slice (some ⟨b,off',none⟩) (h-l) (n-l)):=λd ty pos aB g a W hF _=>by
 subst ho;have:=nsl (P:=C.P) (W:=W) hF false hl hh h1 h2;simp[execOp,hF.ev hx,Instr.sliceAt,run_underlying hU,Instr.sureAddr,this,hZ W,Kb];split<;>rfl
theorem gn{off n c e h:Nat}(hU:C.P.underlying T=some (.slice e))(hZ:nZ C.P e m)(hx:ev E x=some (.slice (some ⟨b,off,none⟩) n c))(hh:BE E hi n h)(h2:h<=c):RV C G L H E (.slice T x none hi none) (.slice (some ⟨b,off,none⟩) h c):=iw (l:=0) hU hZ hx rfl hh (dx _) h2 (by split<;>omega)
theorem k9{off n e h:Nat}(hU:C.P.underlying T=some (.array n e))(hZ:nZ C.P e m)(hx:ev E x=some (ptr b off))(hh:BE E hi n h)(h2:h<=n):RV C G L H E (.slice T x none hi none) (.slice (some ⟨b,off,none⟩) h n):=y6 (l:=0) hU hZ hx rfl hh (dx _) h2 (by split<;>omega)
variable {us:List Value}
theorem Oy{fn:Fn}{fs xs:List Operand}(hf:il E fs=some us)(ha:il E xs=some vs):RV C G L H E (.makeFunc fn fs.toArray xs.toArray) (.func fn us.toArray vs.toArray):=λd ty pos aB g a W hF _=>by
 have h1:(fs.toArray).map a.eval=us.toArray:=by rw[yD,H3 hF fs us hf]
 have h2:(xs.toArray).map a.eval=vs.toArray:=by rw[yD,H3 hF xs vs ha]
 simp[execOp,Instr.makeFunc,h1,h2]
theorem Da{a:Addr}(hx:ev E x=some (.pointer (some a))):RV C G L H E (.nilCheck x) (.pointer (some a)):=λd ty pos aB g a' W hF _=>by
 simp[execOp,hF.ev hx]
theorem uf{m:Int}(hx:ev E x=some (.int .i64 m))(h0: -9223372036854775807<=m)(h1:m<=9223372036854775807):RV C G L H E (.unOp .neg T x) (.int .i64 (-m)):=λd ty pos aB g a W hF _=>by
 simp[execOp,hF.ev hx,Op.unary,Op.intArith,IE (n:= -m) zM zM]
theorem N4{base:Option Addr}{n c e t:Nat}(hU:C.P.underlying t=some (.slice e))(hx:ev E x=some (.slice base n c)):RV C G L H E (.call ⟨.builtin .cap,#[x],#[t]⟩) (.int .i64 (c:Int)):=λd ty pos aB g a W hF _=>by
 simp[execOp,hF.ev hx,resolve,invoke,Deferred.ofValue,builtin,Builtin.cap_,run_underlying hU,goInt]
theorem V8{t off n len cap e t':Nat}(hi:H[i]? =some (b,.cells cs t' (0,0)))(hU:C.P.underlying t=some (.slice e))(hZ:nZ C.P e m)(hw:np ops E g=some true)(hN:Nat.blt d C.N=true)(hx:ev E x=some (.slice (some ⟨b,off,none⟩) len cap))(hy:ev E y=some sv)(hlen:∀w':World,(Builtin.lenOf sv).run C.P w'= .ok k w')(hn:n=min k len)(hs:Rd C G L H m n sv news)(hl:off+news.length<=cs.size)(h1:nU news=true)(kk:OJ C ops Q l ((d,.int .i64 (n:Int))::E) D G L (H.set i (b,.cells (setCells cs off news) t' (0,0)))):OJ C ops Q (⟨some d,.call ⟨.builtin .copy,#[x,y],#[t,tx]⟩,ty,pos,aB,g⟩::l) E D G L H:=
 pC z1 hw hN λa W hF hS=>by
  have hb:=hS.own _ (cB hi);obtain⟨W',hr,hk,eJ⟩:=YO (P:=C.P) (off:=off) news 0 cs W hb zM h1;refine⟨_,W',_,_,?_,hS.put hi hk eJ,kk⟩;have sZ:=hs W hS;subst hn;simp[execOp,hF.ev hx,hF.ev hy,resolve,invoke,Deferred.ofValue,builtin,Builtin.copy_,run_underlying hU,hlen W,hZ W,Nat.min_def]at sZ ⊢;split<;>simp_all[goInt]
theorem QS{e t ln cp:Nat}{kl kc:IntKind}{ti:TypeInfo}{z:Value}(hU:C.P.underlying t=some (.slice e))(qd:C.P.info? e=some ti)(hz:ti.zero=some z)(h1:z.cells=#[z])(hm:ti.size=1)(hw:np ops E g=some true)(hN:Nat.blt d C.N=true)(hx:ev E x=some (.int kl (ln:Int)))(hy:ev E y=some (.int kc (cp:Int)))(Z6:ln<=cp)(hb:ti.bytes*cp<=281474976710656)(h63:cp<=9223372036854775807)(k:∀(b:Nat),ab L b->bE H b->OJ C ops Q l ((d,.slice (some ⟨b,0,none⟩) ln cp)::E) D G L ((b,.cells (cf cp (λ_=>z)) e (0,0))::H)):OJ C ops Q (⟨some d,.makeSlice t x y,ty,pos,aB,g⟩::l) E D G L H:=
 pC z1 hw hN λa W hF hS=>by
  have hr:=run_make (P:=C.P) W t e ti z hU qd hz kl kc ln cp (Int.natCast_nonneg _) zM (by
   have:((ti.bytes*cp:Nat):Int)<=281474976710656:=by omega
   rwa[Int.natCast_mul]at this) zM
  simp only[wK,hm,uk]at hr;have hc:madeCells z.cells cp=cf cp (λ_=>z):=by
   apply Array.ext';rw[h1];simp[madeCells,cf,Nat.mod_one]
  rw[hc]at hr;exact⟨_,_,_,_,by simp[execOp,hF.ev hx,hF.ev hy,hr],hS.alloc _,k W.heap.size hS.sizes hS.offNew⟩
variable {ps:List (Nat×Operand)}
theorem lj{n e:Nat}{z:Value}{vs:List (Nat×Value)}(hU:C.P.underlying T=some (.slice e))(hp:nZ C.P e m)(hz:vc C.P e z)(hw:np ops E g=some true)(hN:Nat.blt d C.N=true)(ha:Ij E ps=some vs)(Ov:Nat.ble (n*m) 16777216=true)(hs:vs=vh 0 (vs.map (·.2)))(hl:vs.length=n)(hm:Ou m (vs.map (·.2))=true)(k:∀(b:Nat),ab L b->bE H b->OJ C ops Q l ((d,.slice (some ⟨b,0,none⟩) n n)::E) D G L ((b,.cells (Ik (vs.map λp:Nat×Value=>p.2)++[]).toArray e (0,0))::H)):OJ C ops Q (⟨some d,.buildSlice T n ps.toArray,ty,pos,aB,g⟩::l) E D G L H:=
 pC z1 hw hN λa W hF hS=>⟨_,_,_,_,nUd hU hp hz (Oq hF ps vs ha) Ov (Ot (by
  have:=Vz m (vs.map (·.2)) 0 [] ((Array.range (n*m)).map (λj=>((if n*m=0 then #[]else z.cells)[j%(if n*m=0 then #[]else z.cells).size]!))).toList hm z1 (by rw[nTg,fy,hl]);rw[<-hs,eg,eg]at this;exact this)),hS.alloc _,by have:=k W.heap.size hS.sizes hS.offNew;rw[dN]at this;exact this⟩
variable {o:Obj}
theorem OJ.dropAt(hi:H[i]? =some (b,o))(ha:ab L b)(k:OJ C ops Q l E D G L (H.eraseIdx i)):OJ C ops Q l E D G L H:=λa W hN hD hF hS=>k a W hN hD hF (hS.dropAt hi ha)
theorem CJ.dropAt{c:Code}(hi:H[i]? =some (b,o))(ha:ab L b)(k:CJ C c Q E D G L (H.eraseIdx i)):CJ C c Q E D G L H:=λa W hN hD hF hS=>k a W hN hD hF (hS.dropAt hi ha)
theorem PJ.dropAt{e':Exit}(hi:H[i]? =some (b,o))(ha:ab L b)(k:PJ C Q e' E D G L (H.eraseIdx i)):PJ C Q e' E D G L H:=λa W hN hD hF hS=>k a W hN hD hF (hS.dropAt hi ha)
end
end Px
