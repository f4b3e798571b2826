/- Memory, operations, iterators, slices, maps. No condition beyond those stated. -/
import Derived.Test.YtpgobjebhigaoaaGreatDoorXa
import Derived.OrdersIn
import Derived.Deep.AppendSrc
import Derived.Laws.MakeOwn
set_option linter.unusedSimpArgs false
set_option linter.unusedVariables false
set_option linter.unusedSectionVars false
set_option linter.unnecessarySimpa false
set_option maxRecDepth 20000
set_option maxHeartbeats 8000000
namespace Px
open Go Go.RowKit
def X (C:Cx) (ops:Array Oper) (G:Gh) (L:List World) (H:ae) (E:Env) (Pre:World->Prop) (o:Oper) (Φ:Value->World->Prop):Prop:=
 ∀(a:Act) (W:World) (K:Act->World->Prop) (Q:aG),a.tmps.size=C.N->Fits E a->St G L H W->Pre W->
  (∀v W',Below W.heap.size W W'->Φ v W'->K (a.put o.dst v) W')->
  if Region.wanted o (yielded ops a.tmps)then o.wpIn (FW C.r) 0 C.P a W K Q else K (a.put o.dst undef) W
section
variable {C:Cx} {G:Gh} {L:List World} {H:ae} {E:Env} {Pre:World->Prop} {ops:Array Oper} {Φ:Value->World->Prop}
variable {d ty:Nat} {op:Op} {pos:String} {aD:Array Edge} {g:Option (Nat×Bool)}
variable {cs:Array Value} {H':ae} {K K':IntKind} {ps:List (Nat×Operand)} {D:List Deferred} {ch ds:List Nat} {rs:List ResultVar} {news sp us vs:List Value} {T b e i j k m size tx:Nat} {fr:Nat×Nat} {o:Obj} {a:Option Addr} {hi:Option Operand} {sv v:Value} {W w1:World}
theorem X.val(hnd:nth op=true)(hw:nq ops E g=some true)(hr:RV C G L H E op v)(hΦ:∀W,Pre W->Φ v W):X C ops G L H E Pre ⟨some d,op,ty,pos,aD,g⟩ Φ:=by
 intro a W K Q _ hF hS hP hk;rw[if_pos (uW hF hw)];refine⟨λ_ _=>trivial,?_⟩;rw[Oper.semAt_eq _ _ _ (CK hnd),hr d ty pos aD g a W hF hS,Oper.uponIn_value];exact hk v W (Below.refl _ _) (hΦ W hP)
theorem X.off(hw:nq ops E g=some false)(hΦ:∀W,Pre W->Φ undef W):X C ops G L H E Pre ⟨some d,op,ty,pos,aD,g⟩ Φ:=by
 intro a W K Q _ hF hS hP hk;rw[if_neg (by rw[uW hF hw];simp)];exact hk undef W (Below.refl _ _) (hΦ W hP)
variable {f:Nat} {xs:List Operand} {vs:List Value} {ea:Array Nat}
theorem X.call{R:World->Ending->World->Prop}(az:dR C.P f)(hw:nq ops E g=some true)(ha:iv E xs=some vs)(hc:∀W,St G L H W->Pre W->Calls C.P f vs.toArray W (R W))(hR:∀W e W',R W e W'->Pre W->∃v,e= .returned v/\Below W.heap.size W W'/\Φ v W'):X C ops G L H E Pre ⟨some d,.call ⟨.value (.func f),xs.toArray,ea⟩,ty,pos,aD,g⟩ Φ:=by
 intro a W K Q _ hF hS hP hk;rw[if_pos (uW hF hw)];refine⟨λ_ _=>trivial,?_⟩;have hr:(execOp a.eval ⟨some d,.call ⟨.value (.func f),xs.toArray,ea⟩,ty,pos,aD,g⟩).run C.P W= .ok (.enter f vs.toArray) W:=by
  have h2:(xs.toArray).map a.eval=vs.toArray:=by rw[yt,HN hF xs vs ha]
  simp only[execOp,resolve,Act.eval,Deferred.ofValue,h2];simp[invoke,az _ W]
 rw[Oper.semAt_eq _ _ _ z1,hr,Oper.uponIn_enter];refine⟨by simp,CG.2 ((hc W hS hP).mono ?_)⟩;intro e W' h;obtain⟨v,rfl,hb,hv⟩:=hR W e W' h hP;exact hk v W' hb hv
theorem nf(az:dR C.P f)(hw:nq ops E g=some true)(ha:iv E xs=some vs)(hc:∀W,St G L H W->Pre W->Calls C.P f vs.toArray W (av W v))(hΦ:∀W,Φ v W):X C ops G L H E Pre ⟨some d,.call ⟨.value (.func f),xs.toArray,ea⟩,ty,pos,aD,g⟩ Φ:=
 X.call az hw ha hc λ_ _ W' h _=>⟨v,h.1,h.2,hΦ W'⟩
end
theorem HQ(A B:Env)(t:Nat):look (A++B) t=(look A t).or (look B t):=by
 induction A with
 |nil=>simp[look]
 |cons p A ih=>
  obtain⟨k,v⟩:=p;simp only[eY,look];cases Nat.beq k t<;>simp[ih]
theorem PV{A B:Env}{a:Act}(h1:Fits A a)(h2:Fits B a):Fits (A++B) a:=by
 intro t v hv;rw[HQ]at hv;cases h:look A t with
 |some u=>simp[h]at hv;subst hv;exact h1 t u h
 |none=>simp[h]at hv;exact h2 t v hv
def nxn (o:Oper):List Nat:=(o.after.toList.filter (λe=>Region.binds .any e)).map (·.on)
def PW (acc:List Nat):List Nat->Nat
 | []=>0
 |j::js=>(1<<<j)|||acc.getD j 0|||PW acc js
def J2:List Oper->List Nat->List Nat
 | [],acc=>acc
 |o::l,acc=>J2 l (acc++[PW acc (nxn o)])
theorem nei(acc:List Nat)(b:Nat):∀js,(PW acc js).testBit b=true->∃d∈js,d=b\/(acc.getD d 0).testBit b=true
 | [],h=>by simp[PW]at h
 |j::js,h=>by
  simp only[PW,Nat.testBit_or,Bool.or_eq_true]at h;rcases h with(h|h)|h
  ·refine⟨j,by simp,.inl ?_⟩;rw[Nat.testBit_shiftLeft]at h;simp only[gb,decide_eq_true_eq]at h;obtain⟨h1,h2⟩:=h;have:b-j=0:=by
    rcases Nat.eq_zero_or_pos (b-j)with h0|h0
    ·exact h0
    rw[Nat.testBit_one_eq_true_iff_self_eq_zero]at h2;omega
   omega
  ·exact⟨j,by simp,.inr h⟩
  obtain⟨d,hd,h⟩:=nei acc b js h;exact⟨d,by simp[hd],h⟩
theorem nVf(ops:List Oper)(D:Nat->Prop)(hD:∀(k:Nat) (o':Oper),ops[k]? =some o'->D k->∀e∈o'.after,Region.binds .any e=true->D e.on)(hlt:∀(i:Nat) (o:Oper),ops[i]? =some o->∀e∈o.after,Region.binds .any e=true->e.on<i):∀(l:List Oper) (acc:List Nat),ops.drop acc.length=l->(∀(k:Nat) (o:Oper),ops[k]? =some o->k<acc.length->(∀e∈o.after,Region.binds .any e=true->D e.on)->∀j,(acc.getD k 0).testBit j=true->D j)->∀(k:Nat) (o:Oper),ops[k]? =some o->(∀e∈o.after,Region.binds .any e=true->D e.on)->∀j,((J2 l acc).getD k 0).testBit j=true->D j
 | [],acc,hl,hP=>by
  intro k o ho hr j hj;refine hP k o ho ?_ hr j hj;have h1:=(gD.1 ho).1;have h2:(ops.drop acc.length).length=0:=by rw[hl];rfl
  rw[Az]at h2;omega
 |o::l,acc,hl,hP=>by
  have ho0:ops[acc.length]? =some o:=by
   have:(ops.drop acc.length)[0]? =some o:=by rw[hl];rfl
   rw[wv]at this;simpa using this
  refine nVf ops D hD hlt l (acc++[PW acc (nxn o)]) ?_ ?_
  ·rw[cF,<-Pm,hl];rfl
  intro k o' jg hk hr j hj;simp only[cF,BH]at hk;by_cases e:k=acc.length
  ·subst e;rw[ho0]at jg;cases jg;rw[List.getD_eq_getElem?_getD,Dq (ao _)]at hj;simp only[Nat.sub_self,Ir,Option.getD_some]at hj;obtain⟨d,hd,h⟩:=nei acc j _ hj;obtain⟨e',NO,rfl⟩:=bU.1 hd;rw[vz]at NO;have hdd:=hr e' (by simpa using NO.1) NO.2;have fE:=hlt _ _ ho0 e' (by simpa using NO.1) NO.2;rcases h with rfl|h
   ·exact hdd
   have hlen:=(gD.1 ho0).1;obtain⟨o2,cX⟩:∃o2,ops[e'.on]? =some o2:=⟨ops[e'.on]'zM,gV _⟩;exact hP e'.on o2 cX fE (hD e'.on o2 cX hdd) j h
  rw[List.getD_eq_getElem?_getD,xP zM,<-List.getD_eq_getElem?_getD]at hj;exact hP k o' jg zM hr j hj
def HR (ops:Array Oper) (nA:Nat) (ds:List (List Nat)) (E:Env):Bool:=
 Nat.beq ds.length nA&&Nat.ble nA ops.size&&
 (List.range ops.size).all λi=>
  match ops[i]? with
  |none=>true
  |some o=>
   (o.after.toList.all λe=> !Region.binds .any e||Nat.blt e.on i)&&
   (if Nat.blt i nA then
    (match ds[i]? with|some js=>js.all (λj=>o.after.toList.any λe=>Nat.beq e.on j&&Region.binds .any e)|none=>true)&&
    (match o.dst with
     |none=>false
     |some d=>(look E d).isNone&&(List.range nA).all λj=>Nat.beq i j||match(ops[j]?).bind (·.dst)with|some d'=> !Nat.beq d d'|none=>true)
    else(List.range i).all λj=>((J2 ops.toList []).getD i 0).testBit j)
theorem nGg{p q:Nat->Bool}:∀(l:List Nat),(∀k∈l,q k=true->p k=true)->l.countP q<=l.countP p
 | [],_=>ao _
 |k::l,h=>by
  have ih:=nGg l λj hj=>h j (by simp[hj]);simp only[List.countP_cons];cases hq:q k with
  |false=>simp;omega
  |true=>simp[h k z1 hq];omega
theorem nrg{p q:Nat->Bool}:∀(l:List Nat),(∀k∈l,q k=true->p k=true)->(∃k∈l,p k=true/\q k=false)->l.countP q<l.countP p
 | [],_,h=>by obtain⟨k,hk,_⟩:=h;cases hk
 |k::l,h,hx=>by
  have Ua:=nGg (p:=p) (q:=q) l λj hj=>h j (by simp[hj]);simp only[List.countP_cons];obtain⟨j,hj,hp,hq⟩:=hx;rcases cP.1 hj with rfl|hj
  ·simp[hp,hq];omega
  have ih:=nrg l (λj hj=>h j (by simp[hj])) ⟨j,hj,hp,hq⟩;cases XU:q k with
  |false=>simp;omega
  |true=>simp[h k z1 XU];omega
def yw (N:Nat):List Oper->Bool
 | []=>true
 |o::l=>(match o.dst with|some d=>Nat.blt d N|none=>true)&&yw N l
theorem n6g{N:Nat}:∀{l:List Oper},yw N l=true->∀o∈l,∀d,o.dst=some d->d<N
 | [],_,o,ho=>by cases ho
 |o'::l,h,o,ho=>by
  simp only[yw,gb]at h;rcases cP.1 ho with rfl|ho
  ·intro d hd;have:=h.1;rw[hd]at this;exact nX this
  exact n6g h.2 o ho
abbrev OS:=List Nat×Option Value
abbrev OS.det (ds:List Nat) (v:Value):OS:=(ds,some v)
abbrev OS.deps (s:OS):List Nat:=s.1
/-! ### a region that draws its order: a chain of operations among others whose values are known -/
abbrev Sp:=List (List Nat×Option Value)
def HS:List Nat->Nat->Nat
 | [],_=>0
 |c::ch,j=>match Nat.beq c j with|true=>0|false=>HS ch j+1
def valOf (sp:Sp) (ch:List Nat) (cv:List Value) (j:Nat):Value:=
 match sp[j]? with
 |some (_,some u)=>u
 |_=>(cv[HS ch j]?).getD undef
def dx (ops:Array Oper) (sp:Sp) (ch:List Nat) (cv:List Value):List Nat->Env
 | []=>[]
 |j::js=>match(ops[j]?).bind (·.dst)with
  |some d=>(d,valOf sp ch cv j)::dx ops sp ch cv js
  |none=>dx ops sp ch cv js
theorem NS:∀(ch:List Nat) (k c:Nat),ch[k]? =some c->ch.Nodup->HS ch c=k
 | [],k,c,h,_=>by simp at h
 |d::ch,0,c,h,_=>by simp at h;subst h;simp[HS,yr]
 |d::ch,k+1,c,h,hn=>by
  simp only[yS]at h;obtain⟨h1,h2⟩:=List.nodup_cons.1 hn;have dc:¬d=c:=λe=>h1 (e▸cC h);simp only[HS,yq dc];rw[NS ch k c h h2]
def J3 (ops:List Oper):List Nat->Bool
 |c::c'::ch=>((J2 ops []).getD c' 0).testBit c&&J3 ops (c'::ch)
 |_=>true
def CQ:List Nat->Bool
 | []=>true
 |c::ch=>ch.all (λj=> !Nat.beq c j)&&CQ ch
theorem nal:∀{ch:List Nat},CQ ch=true->ch.Nodup
 | [],_=>List.nodup_nil
 |c::ch,h=>by
  simp only[CQ,gb,pP]at h;refine List.nodup_cons.2 ⟨λhm=>?_,nal h.2⟩;have:=h.1 c hm;simp[yr]at this
def pZ (ch:List Nat):Nat->Sp->Bool
 |_,[]=>true
 |i,(_,none)::sp=>ch.any (λc=>Nat.beq c i)&&pZ ch (i+1) sp
 |i,(_,some _)::sp=>ch.all (λc=> !Nat.beq c i)&&pZ ch (i+1) sp
theorem PY(ch:List Nat):∀(sp:Sp) (i:Nat),pZ ch i sp=true->∀j ds,(sp[j]? =some (ds,none)->i+j∈ch)/\(∀u,sp[j]? =some (ds,some u)->i+j∉ch)
 | [],i,_,j,ds=>by simp
 |(d,none)::sp,i,h,j,ds=>by
  simp only[pZ,gb,List.any_eq_true]at h;cases j with
  |zero=>
   refine⟨λ_=>?_,λu hu=>by simp at hu⟩;obtain⟨c,hc,hb⟩:=h.1;have:=NA hb;subst this;exact hc
  |succ j=>
   have:=PY ch sp (i+1) h.2 j ds;rw[show i+(j+1)=i+1+j by omega];simpa using this
 |(d,some v)::sp,i,h,j,ds=>by
  simp only[pZ,gb,pP]at h;cases j with
  |zero=>
   refine⟨λhu=>by simp at hu,λu _ hm=>?_⟩;have:=h.1 _ hm;simp[yr]at this
  |succ j=>
   have:=PY ch sp (i+1) h.2 j ds;rw[show i+(j+1)=i+1+j by omega];simpa using this
def NU (ch ds:List Nat) (n:Nat):Bool:=ds.all λj=> !(ch.any λc=>Nat.beq c j)||Nat.blt (HS ch j) n
theorem nSf{F:Fence}{n:Nat}{P:Program}{Q Q':aG}{o:Oper}{a:Act}{w:World}{K K':Act->World->Prop}(h:∀a w,K a w->K' a w)(hq:∀c a w,Q (.panic c) a w->Q' (.panic c) a w)(hl:LetsOut Q->LetsOut Q')(hh:o.wpIn F n P a w K Q):o.wpIn F n P a w K' Q':=by
 unfold Oper.wpIn at *;refine⟨hh.1,?_⟩;have hh:=hh.2;generalize (o.semAt F.round a.eval).run P w=r at *;cases r with
 |ok x w'=>
  cases x<;>simp only[Oper.uponIn]at hh ⊢ <;>
   first
    |exact h _ _ hh
    |exact⟨hh.1,CallsIn.mono hh.2 (λe w'' he=>by cases e<;>first|exact h _ _ he|exact hq _ _ _ he|exact hl he)⟩
    |exact⟨hh.1,RowsIn.mono hh.2 (λ_ _ he=>h _ _ he)⟩
    |exact⟨hh.1,RoundIn.mono hh.2 (λe w'' he=>by cases e<;>first|exact h _ _ he|exact hq _ _ _ he|exact hl he)⟩
 |halt x w'=>cases x<;>simp only[Oper.uponIn]at hh ⊢ <;>first|exact hh|exact hq _ _ _ hh
def Qn (Q:aG) (K:Act->World->Prop):aG:=λe a w=>match e with| .normal=>K a w|e=>Q e a w
/-! ### a region that draws its order: operations with unknown values, in whatever order they stand -/
def jw (sp:Sp) (ch:List Nat) (cv:List (Option Value)) (j:Nat):Value:=
 match sp[j]? with
 |some (_,some u)=>u
 |_=>((cv[HS ch j]?).join).getD undef
def bN (ops:Array Oper) (sp:Sp) (ch:List Nat) (cv:List (Option Value)):List Nat->Env
 | []=>[]
 |j::js=>match(ops[j]?).bind (·.dst)with
  |some d=>(d,jw sp ch cv j)::bN ops sp ch cv js
  |none=>bN ops sp ch cv js
theorem U3{ops:Array Oper}{sp:Sp}{ch:List Nat}{cv:List (Option Value)}{a:Act}:∀(js:List Nat),(∀j∈js,∀o d,ops[j]? =some o->o.dst=some d->a.eval (.tmp d)=jw sp ch cv j)->Fits (bN ops sp ch cv js) a
 | [],_=>by intro t v hv;simp[bN,look]at hv
 |j::js,h=>by
  have ih:=U3 (sp:=sp) (ch:=ch) (cv:=cv) js (λk hk=>h k (by simp[hk]));unfold bN;cases hd:(ops[j]?).bind (·.dst)with
  |none=>exact ih
  |some d=>
   obtain⟨o,ho,hod⟩:=U4.1 hd;have hv:=h j z1 o d ho hod;intro t v ht;simp only[look]at ht;by_cases e:d=t
   ·subst e;simp only[yr,rF]at ht;rw[hv,ht]
   simp only[yq e]at ht;exact ih t v ht
variable {ch:List Nat} {j k:Nat} {v:Value}
theorem nCl{sp:Sp}{cv:List (Option Value)}(h:(∃ds u,sp[j]? =some (ds,some u))\/HS ch j≠k):jw sp ch (cv.set k (some v)) j=jw sp ch cv j:=by
 unfold jw;rcases h with⟨ds,u,h⟩|h
 ·rw[h]
 split
 ·rfl
 rw[HK (λe=>h e.symm)]
def xE (rq:List Nat) (k:Nat) (cv:List (Option Value)):Bool:=
 ((cv[k]?).join).isNone&&rq.all λj=>((cv[j]?).join).isSome
def qT (ops:List Oper) (ch:List Nat):Nat->List (List Nat)->Bool
 |_,[]=>true
 |k,rq::eB=>(match ch[k]? with|some c=>rq.all (λj=>match ch[j]? with|some c'=>((J2 ops []).getD c 0).testBit c'|none=>false)|none=>false)&&qT ops ch (k+1) eB
theorem CR(ops:List Oper)(ch:List Nat):∀(eB:List (List Nat)) (n:Nat),qT ops ch n eB=true->∀(k c:Nat) (rq:List Nat),eB[k]? =some rq->ch[n+k]? =some c->∀j∈rq,∃c',ch[j]? =some c'/\((J2 ops []).getD c 0).testBit c'=true
 | [],_,_,k,c,rq,h,_=>by simp at h
 |r::eB,n,h,k,c,rq,hk,hc=>by
  simp only[qT,gb]at h;cases k with
  |zero=>
   simp at hk;subst hk;rw[Nat.add_zero]at hc;rw[hc]at h;intro j hj;have h1:=h.1;simp only[pP]at h1;have:=h1 j hj;split at this
   ·rename_i c' xF;exact⟨c',xF,this⟩
   cases this
  |succ k=>exact CR ops ch eB (n+1) h.2 k c rq NV (by rw[show n+1+k=n+(k+1) by omega];exact hc)
def HT (ch ds:List Nat) (cv:List (Option Value)):Bool:=ds.all λj=> !(ch.any λc=>Nat.beq c j)||((cv[HS ch j]?).join).isSome
def HU (C:Cx) (ops:Array Oper) (nA:Nat) (ch:List Nat) (sp:Sp) (Ph:List (Option Value)->List World->ae->Prop) (E:Env) (D:List Deferred) (G:Gh) (cd:Nat->Bool) (a:Act) (W:World):Prop:=
 ∃cv L' H',a.tmps.size=C.N/\a.defers=D/\Fits E a/\Ph cv L' H'/\St G L' H' W/\cv.length=ch.length/\(∀(k c:Nat),ch[k]? =some c->(cd c=true↔∃v,cv[k]? =some (some v)))/\
  (∀(i:Nat) (o:Oper) (d:Nat),i<nA->cd i=true->ops[i]? =some o->o.dst=some d->a.eval (.tmp d)=jw sp ch cv i)
structure we (ops:Array Oper) (nA:Nat) (sp:List OS) (E:Env):Prop where
 len:sp.length=nA
 le:nA<=ops.size
 back:∀(i:Nat) (o:Oper),ops[i]? =some o->∀e∈o.after,Region.binds .any e=true->e.on<i
 deps:∀(i:Nat) (o:Oper) (s:OS),ops[i]? =some o->sp[i]? =some s->∀j∈s.deps,∃e∈o.after,e.on=j/\Region.binds .any e=true
 last:∀(i:Nat) (o:Oper),nA<=i->ops[i]? =some o->∀(D:Nat->Prop),(∀(k:Nat) (o':Oper),ops[k]? =some o'->D k->∀e∈o'.after,Region.binds .any e=true->D e.on)->(∀e∈o.after,Region.binds .any e=true->D e.on)->∀j,j<i->D j
 uniq:∀(i j:Nat) (o o':Oper) (d:Nat),i<nA->j<nA->ops[i]? =some o->ops[j]? =some o'->o.dst=some d->o'.dst=some d->i=j
 apart:∀(i:Nat) (o:Oper) (d:Nat),i<nA->ops[i]? =some o->o.dst=some d->look E d=none
def HV (ops:Array Oper) (nA:Nat) (ds:List (List Nat)) (E:Env):Bool:=
 Nat.beq ds.length nA&&Nat.ble nA ops.size&&
 (List.range ops.size).all λi=>
  match ops[i]? with
  |none=>true
  |some o=>
   (o.after.toList.all λe=> !Region.binds .any e||Nat.blt e.on i)&&
   (if Nat.blt i nA then
    (match ds[i]? with|some js=>js.all (λj=>o.after.toList.any λe=>Nat.beq e.on j&&Region.binds .any e)|none=>true)&&
    (match o.dst with
     |none=>true
     |some d=>(look E d).isNone&&(List.range nA).all λj=>Nat.beq i j||match(ops[j]?).bind (·.dst)with|some d'=> !Nat.beq d d'|none=>true)
    else(List.range i).all λj=>((J2 ops.toList []).getD i 0).testBit j)
variable {ops:Array Oper} {E:Env}
theorem nTn{nA:Nat}{sp:List OS}(h:HV ops nA (sp.map (·.deps)) E=true):we ops nA sp E:=by
 unfold HV at h;simp only[gb,pP,pG]at h;obtain⟨⟨h1,h2⟩,h3⟩:=h;have hlen:sp.length=nA:=by simpa using NA h1
 have hle:=aV h2;have at_:∀(i:Nat) (o:Oper),ops[i]? =some o->i<ops.size:=λi o ho=>(aM.1 ho).1;refine⟨hlen,hle,?_,?_,?_,?_,?_⟩
 ·exact zgk
 ·intro i o s ho hs j hj;have hi:i<nA:=by rw[<-hlen];exact(gD.1 hs).1
  have:=h3 i (at_ i o ho);simp only[ho,gb]at this;have:=this.2;rw[if_pos YB]at this;simp only[ra,hs,wI,gb,pP]at this;have:=this.1 j hj;simp only[List.any_eq_true,gb]at this;obtain⟨e,he,aR,aH⟩:=this;exact⟨e,by simpa using he,NA aR,aH⟩
 ·intro i o hi ho D hD hr j hj;have U5:∀(i:Nat) (o:Oper),ops[i]? =some o->∀e∈o.after,Region.binds .any e=true->e.on<i:=by
   exact zgk
  have:=h3 i (at_ i o ho);simp only[ho,gb]at this;have:=this.2;rw[if_neg (by intro hb;have:=nX hb;omega)]at this;simp only[pP,pG]at this;exact nVf ops.toList D (λk o' hk=>hD k o' NV) (λk o' hk=>U5 k o' NV) ops.toList [] rfl (λ_ _ _ hk=>by simp at hk) i o (by simpa using ho) hr j (this j hj)
 ·intro i j o o' d hi hj ho jg hd ly;have:=h3 i (at_ i o ho);simp only[ho,gb]at this;have:=this.2;rw[if_pos YB]at this;simp only[hd,gb,pP,pG]at this;have:=this.2.2 j hj;simp only[jg,Option.bind_some,ly,Bool.or_eq_true,Bool.not_eq_true']at this;rcases this with h|h
  ·exact NA h
  rw[yr]at h;cases h
 intro i o d hi ho hd;have:=h3 i (at_ i o ho);simp only[ho,gb]at this;have:=this.2;rw[if_pos YB]at this;simp only[hd,gb]at this;simpa using this.2.1
def xG:List Oper->Sp->Bool
 |o::l,(_,some _)::sp=>o.dst.isSome&&xG l sp
 |_::l,_::sp=>xG l sp
 |_,[]=>true
 | [],_=>true
theorem nUm:∀(l:List Oper) (sp:Sp),xG l sp=true->∀(i:Nat) (o:Oper) (ds:List Nat) (u:Value),l[i]? =some o->sp[i]? =some (ds,some u)->∃d,o.dst=some d
 | [],sp,_,i,o,ds,u,h1,_=>by simp at h1
 |o'::l,[],_,i,o,ds,u,_,h2=>by simp at h2
 |o'::l,(sW,u')::sp,h,i,o,ds,u,h1,h2=>by
  cases i with
  |zero=>
   simp only[Ir,rF]at h1 h2;subst h1;obtain⟨rfl,rfl⟩:sW=ds/\u'=some u:=by simpa using h2
   simp only[xG,gb]at h;exact Option.isSome_iff_exists.1 h.1
  |succ i=>
   simp only[yS]at h1 h2;refine nUm l sp ?_ i o ds u h1 h2;cases u' with
   |none=>simpa[xG]using h
   |some u'=>simp only[xG,gb]at h;exact h.2
variable {C:Cx} {G:Gh} {H:ae} {D:List Deferred} {L:List World}
theorem nKj{Q:aG}{l:List Oper}{id:Nat}(nA:Nat)(ch:List Nat)(sp:Sp)(eB:List (List Nat))(Ph:List (Option Value)->List World->ae->Prop)(hm:C.P.follows .mixedOrders=true)(h0:Ph (ch.map λ_=>none) L H)(jf:HV l.toArray nA (sp.map (·.1)) E=true)(aJ:xG l sp=true)(hN:yw C.N l=true)(kN:qT l ch 0 eB=true)(hnd:CQ ch=true)(rA:pZ ch 0 sp=true)(fE:ch.all (λc=>Nat.blt c nA)=true)(pure:∀(i:Nat) (o:Oper) (ds:List Nat) (u:Value),l[i]? =some o->sp[i]? =some (ds,some u)->∀cv L' H',cv.length=ch.length->HT ch ds cv=true->Ph cv L' H'->X C l.toArray G L' H' (bN l.toArray sp ch cv ds++E) (λ_=>True) o (λv _=>v=u))(step:∀(k c:Nat) (rq:List Nat) (o:Oper) (ds:List Nat) (d:Nat),ch[k]? =some c->eB[k]? =some rq->l[c]? =some o->sp[c]? =some (ds,none)->o.dst=some d->∀cv L' H',cv.length=ch.length->xE rq k cv=true->Ph cv L' H'->∀(F:Env) (Q':aG),(∀v dB dC,Ph (cv.set k (some v)) dB dC->PJ C Q' .normal ((d,v)::(bN l.toArray sp ch cv ds++(E++F))) D G dB dC)->OJ C l.toArray Q' [o] (bN l.toArray sp ch cv ds++(E++F)) D G L' H')(CS:∀(k c:Nat) (rq:List Nat) (o:Oper) (ds:List Nat),ch[k]? =some c->eB[k]? =some rq->l[c]? =some o->sp[c]? =some (ds,none)->o.dst=none->∀cv L' H',cv.length=ch.length->xE rq k cv=true->Ph cv L' H'->∀(F:Env) (Q':aG),(∀v dB dC,Ph (cv.set k (some v)) dB dC->PJ C Q' .normal (bN l.toArray sp ch cv ds++(E++F)) D G dB dC)->OJ C l.toArray Q' [o] (bN l.toArray sp ch cv ds++(E++F)) D G L' H')(PZ:eB.length=ch.length)(fin:∀cv L' H',cv.length=ch.length->cv.all (λx=>x.isSome)=true->Ph cv L' H'->OJ C l.toArray Q (l.drop nA) (bN l.toArray sp ch cv (List.range nA)++E) D G L' H'):CJ C (.region id l.toArray true) Q E D G L H:=by
 have ok:we l.toArray nA (sp.map λp=>OS.det p.1 undef) E:=nTn (by
  rw[List.map_map];exact jf)
 have HW:sp.length=nA:=by have:=ok.len;simpa using this
 have U6:∀(i:Nat) (o:Oper) (ds:List Nat) (u:Option Value),l.toArray[i]? =some o->sp[i]? =some (ds,u)->∀j∈ds,∃e∈o.after,e.on=j/\Region.binds .any e=true:=by
  intro i o ds u ho hs j hj;exact ok.deps i o (.det ds undef) ho (by simp[hs]) j hj
 have lz:=nal hnd;have afG:∀k c,ch[k]? =some c->c<nA:=λk c h=>by
  rw[pP]at fE;exact nX (fE c (cC h))
 generalize U7:l.toArray=ops at *;have hl:∀i:Nat,l[i]? =ops[i]? :=λi=>by rw[<-U7,Dr]
 have jy:ops.size=l.length:=by rw[<-U7];simp
 intro a W U8 hD hF hS;refine wpIn_region_draw λt=>?_;simp only[Region.schedule,hm,Bool.true_or,if_true];have hlt:∀(i:Nat) (o:Oper),ops[i]? =some o->i<ops.size:=λi o ho=>(aM.1 ho).1
 let Inv:Array Bool->Act->World->Prop:=λcd a W=>cd.size=ops.size/\(∀(k:Nat) (o:Oper),ops[k]? =some o->cd.getD k false=true->∀e∈o.after,Region.binds .any e=true->cd.getD e.on false=true)/\
  (((∃i,i<nA/\cd.getD i false=false)/\(∀i,nA<=i->cd.getD i false=false)/\HU C ops nA ch sp Ph E D G (λi=>cd.getD i false) a W)\/
   (∃m,nA<=m/\(∀i,i<ops.size->(cd.getD i false=true↔i<m))/\wpListIn (FW C.r) 0 C.P ops Q (l.drop m) a W))
 have close:∀(cd:Array Bool) a W,cd.size=ops.size->(∀(k:Nat) (o:Oper),ops[k]? =some o->cd.getD k false=true->∀e∈o.after,Region.binds .any e=true->cd.getD e.on false=true)->(∀i,i<nA->cd.getD i false=true)->(∀i,nA<=i->cd.getD i false=false)->HU C ops nA ch sp Ph E D G (λi=>cd.getD i false) a W->Inv cd a W:=by
  rintro cd a W qU lG bW CT ⟨cv,L',H',h1,h2,h3,h4,h5,h6,h7,h8⟩;refine⟨qU,lG,.inr ⟨nA,ao _,λi hi=>⟨λh=>?_,λh=>bW i h⟩,?_⟩⟩
  ·exact Nat.lt_of_not_le λhle=>by rw[CT i hle]at h;cases h
  have Dp:cv.all (λx=>x.isSome)=true:=by
   rw[pP];intro x hx;obtain⟨k,hk⟩:=jL.1 hx;have lD:k<ch.length:=by rw[<-h6];exact(gD.1 hk).1
   have hc:ch[k]? =some (ch[k]'lD):=gV lD;obtain⟨v,hv⟩:=(h7 _ _ hc).1 (bW _ (afG _ _ hc));rw[hk]at hv;cases hv;rfl
  refine fin cv L' H' h6 Dp h4 a W h1 h2 (PV ?_ h3) h5;exact U3 _ (λj hj o d ho hd=>h8 j o d (pG.1 hj) (bW j (pG.1 hj)) ho hd)
 have dy:∀(cd:Array Bool) (i k:Nat),cd.size=ops.size->i<ops.size->(cd.setIfInBounds i true).getD k false=if k=i then true else cd.getD k false:=by
  intro cd i k qU hi;simp only[Array.getD_eq_getD_getElem?,Array.getElem?_setIfInBounds];by_cases e:i=k
  ·subst e;simp[qU,hi]
  simp[e,show ¬k=i from λh=>e h.symm]
 have U9:∀(cd:Array Bool) a W,Inv cd a W->∀(i:Nat) (o:Oper),ops[i]? =some o->cd.getD i false=false->(∀e∈o.after,Region.binds .any e=true->cd.getD e.on false=true)->
  wpOpIn (FW C.r) 0 C.P ops Q i (λa' W'=>Inv (cd.setIfInBounds i true) a' W') a W:=by
  rintro cd a W ⟨qU,lG,hI⟩ i o ho Em oi;have hi:=hlt i o ho;have NW:∀(k:Nat) (o':Oper),ops[k]? =some o'->(cd.setIfInBounds i true).getD k false=true->∀e∈o'.after,Region.binds .any e=true->(cd.setIfInBounds i true).getD e.on false=true:=by
   intro k o' jg hk e he hb;rw[dy cd i k qU hi]at hk;rw[dy cd i e.on qU hi];by_cases e1:e.on=i
   ·rw[if_pos e1]
   rw[if_neg e1];by_cases e2:k=i
   ·subst e2;rw[ho]at jg;cases jg;exact oi e he hb
   rw[if_neg e2]at hk;exact lG k o' jg hk e he hb
  rcases hI with⟨hex,CT,cv,L',H',h1,h2,h3,h4,h5,h6,h7,h8⟩|⟨m,hnm,CU,hw⟩
  ·have NY:i<nA:=Nat.lt_of_not_le λhle=>by
    obtain⟨k,hk,YC⟩:=hex;have:=ok.last i o hle ho (λk=>cd.getD k false=true) (λk o' h1 h2 e h3 h4=>lG k o' h1 h2 e h3 h4) oi k zM;rw[YC]at this;cases this
   obtain⟨⟨ds,u⟩,hs⟩:∃s,sp[i]? =some s:=⟨sp[i]'(by rw[HW];exact NY),gV _⟩;have px:∀j∈ds,cd.getD j false=true/\j<i:=λj hj=>by
    obtain⟨e,he,hon,hb⟩:=U6 i o ds u ho hs j hj;exact⟨hon▸oi e he hb,hon▸ok.back i o ho e he hb⟩
   have bT:Fits (bN ops sp ch cv ds) a:=U3 _ (λj hj o' d' jg ly=>h8 j o' d' (by have:=(px j hj).2;omega) (px j hj).1 jg ly);have Va:(cd.setIfInBounds i true).size=ops.size:=by simp[qU]
   have CV:∀k,nA<=k->(cd.setIfInBounds i true).getD k false=false:=λk hk=>by
    rw[dy cd i k qU hi,if_neg zM];exact CT k hk
   have bZ:∀a' W',HU C ops nA ch sp Ph E D G (λk=>(cd.setIfInBounds i true).getD k false) a' W'->Inv (cd.setIfInBounds i true) a' W':=by
    intro a' W' hA;by_cases bW:∀k,k<nA->(cd.setIfInBounds i true).getD k false=true
    ·exact close _ _ _ Va NW bW CV hA
    refine⟨Va,NW,.inl ⟨?_,CV,hA⟩⟩;obtain⟨k,hk⟩:=Classical.not_forall.1 bW;obtain⟨VB,X4⟩:=Classical.not_imp.1 hk;exact⟨k,VB,by simpa using X4⟩
   cases u with
   |some u=>
    -- its value is known
    obtain⟨d,hd⟩:=nUm l sp aJ i o ds u NZ hs;have hdN:d<C.N:=n6g hN o (cC NZ) d hd;have afH:i∉ch:=by have:=(PY ch sp 0 rA i ds).2 u hs;simpa using this
    have hdi:HT ch ds cv=true:=by
     simp only[HT,pP,Bool.or_eq_true,Bool.not_eq_true'];intro j hj;by_cases hc:(ch.any λc=>Nat.beq c j)=true
     ·right;obtain⟨c,hcm,hcb⟩:=List.any_eq_true.1 hc;have:=NA hcb;subst this;obtain⟨q,hq⟩:=jL.1 hcm;rw[NS ch q c hq lz];obtain⟨v,hv⟩:=(h7 q c hq).1 (px c hj).1;rw[hv];rfl
     left;exact Bool.eq_false_iff.2 hc
    have hx:=pure i o ds u NZ hs cv L' H' h6 hdi h4 a W (λa' W'=>Inv (cd.setIfInBounds i true) a' W') Q h1 (PV bT h3) h5 trivial (by
     rintro v W' hb rfl;refine bZ _ _ ⟨cv,L',H',by simp[Act.put,hd,h1],by simp[Act.put,hd,h2],?_,h4,h5.step hb,h6,?_,?_⟩
     ·intro t u' hu;have dc:d≠t:=λe=>by subst e;rw[ok.apart i o d NY ho hd]at hu;cases hu
      have:=h3 t u' hu;simp only[Act.eval,Act.put,hd]at this ⊢;rw[<-this];simp[anp dc]
     ·intro k c hc;show((cd.setIfInBounds i true).getD c false=true↔_);rw[dy cd i c qU hi,if_neg (show ¬c=i from λe=>afH (by rw[<-e];exact cC hc))];exact h7 k c hc
     intro k o' d' hk hlk jg ly;replace hlk:(cd.setIfInBounds i true).getD k false=true:=hlk;rw[dy cd i k qU hi]at hlk;by_cases e:k=i
     ·subst e;rw[ho]at jg;cases jg;rw[hd]at ly;cases ly;simp[Act.eval,Act.put,hd,h1,hdN,jw,hs]
     rw[if_neg e]at hlk;have dc:d≠d':=λe'=>e (ok.uniq k i o' o d hk NY jg ho (e'▸ly) hd);have:=h8 k o' d' hk hlk jg ly;simp only[Act.eval,Act.put,hd]at this ⊢;rw[<-this];simp[anp dc])
    unfold wpOpIn;simp only[ho];split
    ·rename_i hw;rw[if_pos hw]at hx;exact hx
    rename_i hw;rw[if_neg hw]at hx;exact⟨λ_ _=>trivial,hx⟩
   |none=>
    -- it is the next one of the chain
    have jO:i∈ch:=by have:=(PY ch sp 0 rA i ds).1 hs;simpa using this
    obtain⟨k,hk⟩:=jL.1 jO;have lD:k<ch.length:=(gD.1 hk).1;obtain⟨rq,MH⟩:∃rq,eB[k]? =some rq:=⟨eB[k]'zM,gV _⟩;have N0:cv[k]? =some none:=by
     have h9:cv[k]? =some (cv[k]'zM):=gV _;cases hx:cv[k]'zM with
     |none=>rw[h9,hx]
     |some v=>
      exfalso;have h':cd.getD i false=true:=(h7 k i hk).2 ⟨v,by rw[h9,hx]⟩;rw[Em]at h';cases h'
    have Vb:xE rq k cv=true:=by
     simp only[xE,gb,pP];refine⟨by rw[N0];rfl,λj hj=>?_⟩;obtain⟨c',xF,afI⟩:=CR l ch eB 0 kN k i rq MH (by rw[i6];exact hk) j hj;have hD':=nVf l (λj=>cd.getD j false=true) (λj o' hj=>lG j o' (by rw[<-hl];exact hj)) (λj o' hj=>ok.back j o' (by rw[<-hl];exact hj)) l [] rfl (λ_ _ _ hk=>by simp at hk) i o NZ oi _ afI;obtain⟨v,hv⟩:=(h7 j c' xF).1 hD';rw[hv];rfl
    cases hd:o.dst with
    |some d=>
     have hdN:d<C.N:=n6g hN o (cC NZ) d hd;have BZ:=step k i rq o ds d hk MH NZ hs hd cv L' H' h6 Vb h4 (bN ops sp ch cv ((List.range nA).filter λj=>cd.getD j false))
      (Qn Q (λa' W'=>Inv (cd.setIfInBounds i true) a' W')) (by
       intro v dB dC hP a' W' BJ hs2 P0 hs4;refine bZ _ _ ⟨cv.set k (some v),dB,dC,BJ,hs2,?_,hP,hs4,?_,?_,?_⟩
       ·intro t u' hu;have dc:d≠t:=λe=>by subst e;rw[ok.apart i o d NY ho hd]at hu;cases hu
        have da:Fits (bN ops sp ch cv ds++(E++bN ops sp ch cv ((List.range nA).filter λj=>cd.getD j false))) a':=λt' v' h'=>by
         by_cases e2:d=t'
         ·subst e2;exfalso;have fm:∀js,(∀j∈js,j<nA/\j≠i)->look (bN ops sp ch cv js) d=none:=by
           intro js;induction js with
           |nil=>intro _;rfl
           |cons j js ih=>
            intro gB;have u2:=ih λj' uX=>gB j' (by simp[uX]);unfold bN;cases N1:(ops[j]?).bind (·.dst)with
            |none=>exact u2
            |some d'=>
             obtain⟨oj,N2,u3⟩:=U4.1 N1;have u4:d'≠d:=λe'=>(gB j z1).2 (ok.uniq j i oj o d' (gB j z1).1 NY N2 ho u3 (e'▸hd));simp only[look,yq u4];exact u2
          rw[HQ,HQ,fm ds (λj hj=>⟨by have:=(px j hj).2;omega,by have:=(px j hj).2;omega⟩),ok.apart i o d NY ho hd,fm _ (λj hj=>by
           simp only[vz,pG]at hj;exact⟨hj.1,λe=>by subst e;rw[Em]at hj;cases hj.2⟩)]at h'
          cases h'
         exact P0 t' v' (by simp only[look,yq e2];exact h')
        have h9:look (bN ops sp ch cv ds++(E++bN ops sp ch cv ((List.range nA).filter λj=>cd.getD j false))) t=some u':=by
         exact zdj
        exact da t u' h9
       ·rw[G8];exact h6
       ·exact zrj
       intro q o' d' En hlk jg ly;replace hlk:(cd.setIfInBounds i true).getD q false=true:=hlk;rw[dy cd i q qU hi]at hlk;by_cases e:q=i
       ·subst e;rw[ho]at jg;cases jg;rw[hd]at ly;cases ly;have:=P0 d v (by simp[look,yr]);rw[this];unfold jw;rw[hs];simp only;rw[NS ch k q hk lz,JU zM];rfl
       rw[if_neg e]at hlk;have dc:d≠d':=λe'=>e (ok.uniq q i o' o d En NY jg ho (e'▸ly) hd);have hold:jw sp ch (cv.set k (some v)) q=jw sp ch cv q:=nCl (by
        obtain⟨⟨sW,u'⟩,Vc⟩:∃s,sp[q]? =some s:=⟨sp[q]'(by rw[HW];exact En),gV _⟩;cases u' with
        |some u'=>exact .inl ⟨sW,u',Vc⟩
        |none=>
         right;have CW:q∈ch:=by have:=(PY ch sp 0 rA q sW).1 Vc;simpa using this
         obtain⟨p,hp⟩:=jL.1 CW;rw[NS ch p q hp lz];exact λe'=>e (by subst e';rw[hk]at hp;cases hp;rfl))
       rw[hold]
       -- it N3 in F
       refine P0 d' _ ?_;simp only[look,yq dc];have hin:∀js,q∈js->(∀j∈js,j<nA)->look (bN ops sp ch cv js) d'=some (jw sp ch cv q):=by
        exact zej
       have hE:look E d'=none:=ok.apart q o' d' En jg ly;have J4:=hin ((List.range nA).filter λj=>cd.getD j false) (vz.2 ⟨pG.2 En,hlk⟩) (λj hj=>by
        simp only[vz,pG]at hj;exact hj.1)
       rw[HQ,HQ,hE,J4];by_cases Vd:q∈ds
       ·rw[hin ds Vd (λj hj=>by have:=(px j hj).2;omega)];rfl
       have fm:∀js,(∀j∈js,j<nA)->q∉js->look (bN ops sp ch cv js) d'=none:=by
        exact zij
       rw[fm ds (λj hj=>by have:=(px j hj).2;omega) Vd];rfl)
      a W h1 h2 (PV bT (PV h3 (U3 _ (λj hj o' d' jg ly=>by
       simp only[vz,pG]at hj;exact h8 j o' d' hj.1 hj.2 jg ly)))) h5
     exact zPj
    |none=>
     have BZ:=CS k i rq o ds hk MH NZ hs hd cv L' H' h6 Vb h4 (bN ops sp ch cv ((List.range nA).filter λj=>cd.getD j false))
      (Qn Q (λa' W'=>Inv (cd.setIfInBounds i true) a' W')) (by
       intro v dB dC hP a' W' BJ hs2 P0 hs4;refine bZ _ _ ⟨cv.set k (some v),dB,dC,BJ,hs2,?_,hP,hs4,?_,?_,?_⟩
       ·intro t u' hu;have h9:look (bN ops sp ch cv ds++(E++bN ops sp ch cv ((List.range nA).filter λj=>cd.getD j false))) t=some u':=by
         exact zdj
        exact P0 t u' h9
       ·rw[G8];exact h6
       ·exact zrj
       intro q o' d' En hlk jg ly;replace hlk:(cd.setIfInBounds i true).getD q false=true:=hlk;rw[dy cd i q qU hi]at hlk;by_cases e:q=i
       ·subst e;rw[ho]at jg;cases jg;rw[hd]at ly;cases ly
       rw[if_neg e]at hlk;have hold:jw sp ch (cv.set k (some v)) q=jw sp ch cv q:=nCl (by
        obtain⟨⟨sW,u'⟩,Vc⟩:∃s,sp[q]? =some s:=⟨sp[q]'(by rw[HW];exact En),gV _⟩;cases u' with
        |some u'=>exact .inl ⟨sW,u',Vc⟩
        |none=>
         right;have CW:q∈ch:=by have:=(PY ch sp 0 rA q sW).1 Vc;simpa using this
         obtain⟨p,hp⟩:=jL.1 CW;rw[NS ch p q hp lz];exact λe'=>e (by subst e';rw[hk]at hp;cases hp;rfl))
       rw[hold]
       -- it N3 in F
       refine P0 d' _ ?_;have hin:∀js,q∈js->(∀j∈js,j<nA)->look (bN ops sp ch cv js) d'=some (jw sp ch cv q):=by
        exact zej
       have hE:look E d'=none:=ok.apart q o' d' En jg ly;have J4:=hin ((List.range nA).filter λj=>cd.getD j false) (vz.2 ⟨pG.2 En,hlk⟩) (λj hj=>by
        simp only[vz,pG]at hj;exact hj.1)
       rw[HQ,HQ,hE,J4];by_cases Vd:q∈ds
       ·rw[hin ds Vd (λj hj=>by have:=(px j hj).2;omega)];rfl
       have fm:∀js,(∀j∈js,j<nA)->q∉js->look (bN ops sp ch cv js) d'=none:=by
        exact zij
       rw[fm ds (λj hj=>by have:=(px j hj).2;omega) Vd];rfl)
      a W h1 h2 (PV bT (PV h3 (U3 _ (λj hj o' d' jg ly=>by
       simp only[vz,pG]at hj;exact h8 j o' d' hj.1 hj.2 jg ly)))) h5
     exact zPj
  -- it is the next one
  have him:i=m:=by
   have h1:¬i<m:=λh=>by rw[(CU i hi).2 h]at Em;cases Em
   have h2:i<=m:=UT λh=>by
    have h3:=ok.last i o zM ho (λk=>cd.getD k false=true) (λk o' h1 h2 e h3 h4=>lG k o' h1 h2 e h3 h4) oi m h;have:=(CU m zM).1 h3;omega
   omega
  subst him;have Ve:l.drop i=o::l.drop (i+1):=by
   have:=hl i;rw[ho]at this;exact(List.drop_eq_getElem_cons (gD.1 this).1).trans (by rw[(gD.1 this).2])
  rw[Ve]at hw;have J5:∀a' W',wpListIn (FW C.r) 0 C.P ops Q (l.drop (i+1)) a' W'->Inv (cd.setIfInBounds i true) a' W':=λa' W' h=>by
   refine⟨by simp[qU],NW,.inr ⟨i+1,by omega,λk hk=>?_,h⟩⟩;rw[dy cd i k qU hi];by_cases e:k=i
   ·subst e;simp
   rw[if_neg e,CU k hk];omega
  unfold wpListIn at hw;unfold wpOpIn;simp only[ho];split
  ·rename_i CY;rw[if_pos CY]at hw;exact Oper.wpIn_mono J5 hw
  rename_i CY;rw[if_neg CY]at hw;exact⟨hw.1,J5 _ _ hw.2⟩
 -- the end
 have lA:∀(cd:Array Bool) (i:Nat),cd.size=ops.size->(i∈Region.ready .any ops cd↔∃o,ops[i]? =some o/\cd.getD i false=false/\∀e∈o.after,Region.binds .any e=true->cd.getD e.on false=true):=by
  intro cd i qU;simp only[Region.ready,vz,pG,gb,Bool.not_eq_true'];constructor
  ·rintro⟨hi,hf,hr⟩;refine⟨ops[i],HX hi,?_,?_⟩
   ·exact zYk
   rw[HX hi]at hr;simp only[wI,Option.getD_some,Array.all_eq_true_iff_forall_mem,Bool.or_eq_true,Bool.not_eq_true']at hr;intro e he hb;rcases hr e he with h|h
   ·rw[hb]at h;cases h
   exact h
  rintro⟨o,ho,hf,hr⟩;have hi:=hlt i o ho;refine⟨hi,?_,?_⟩
  ·exact zYk
  rw[ho];simp only[wI,Option.getD_some,Array.all_eq_true_iff_forall_mem,Bool.or_eq_true,Bool.not_eq_true'];intro e he;by_cases hb:Region.binds .any e=true
  ·exact .inr (hr e he hb)
  exact .inl (by simpa using hb)
 have last:∀(cd:Array Bool) a W,Inv cd a W->Region.ready .any ops cd=[]->Q .normal a W:=by
  rintro cd a W ⟨qU,lG,hI⟩ hr
  -- all are listed: else the least one ahJ is not is ready
  have bW:∀i,i<ops.size->cd.getD i false=true:=by
   intro i;induction i using Nat.strongRecOn with
   |_ i ih=>
    intro hi;cases hf:cd.getD i false with
    |true=>rfl
    |false=>
     have:i∈Region.ready .any ops cd:=(lA cd i qU).2 ⟨ops[i],HX hi,hf,λe he hb=>by
      have:=ok.back i ops[i] (HX hi) e he hb;exact ih e.on this zM⟩
     rw[hr]at this;cases this
  rcases hI with⟨⟨k,hk,YC⟩,_⟩|⟨m,hnm,CU,hw⟩
  ·rw[bW k (kJ hk ok.le)]at YC;cases YC
  have hm:ops.size<=m:=UT λh=>by
   have:=(CU m h).1 (bW m h);omega
  rw[List.drop_eq_nil_of_le zM]at hw;exact hw
 have any:∀(fuel:Nat) (cd:Array Bool) a W,Inv cd a W->(List.range ops.size).countP (λi=> !cd.getD i false)<=fuel->wpAnyIn (FW C.r) 0 C.P .any ops Q fuel cd a W:=by
  intro fuel;induction fuel with
  |zero=>
   intro cd a W hI hc;have hz:Region.ready .any ops cd=[]:=by
    apply List.eq_nil_iff_forall_not_mem.2;intro i hi;obtain⟨o,ho,hf,_⟩:=(lA cd i hI.1).1 hi;have:=List.countP_eq_zero.1 (Nat.le_zero.1 hc) i (pG.2 (hlt i o ho));simp[hf]at this
   exact⟨hz,last cd a W hI hz⟩
  |succ fuel ih=>
   intro cd a W hI hc;refine⟨last cd a W hI,λi hi=>?_⟩;obtain⟨o,ho,hf,hr⟩:=(lA cd i hI.1).1 hi;refine wpOpIn_mono (λa' W' YD=>ih _ a' W' YD ?_) (U9 cd a W hI i o ho hf hr);have fE:=hlt i o ho;have afK:(List.range ops.size).countP (λk=> !(cd.setIfInBounds i true).getD k false)<(List.range ops.size).countP (λk=> !cd.getD k false):=by
    refine nrg _ (λk _ hk=>?_) ⟨i,pG.2 fE,by simp[hf],?_⟩
    ·rw[dy cd i k hI.1 fE]at hk;by_cases e:k=i
     ·rw[if_pos e]at hk;cases hk
     rw[if_neg e]at hk;exact hk
    rw[dy cd i i hI.1 fE,if_pos rfl];rfl
   omega
 have xH:∀k,(Array.replicate ops.size false).getD k false=false:=λk=>by
  simp only[Array.getD_eq_getD_getElem?,Array.getElem?_replicate];split<;>rfl
 have hS0:St G L H {W with drawn:=W.drawn+1}:=hS.step (FE W _);have hA0:HU C ops nA ch sp Ph E D G (λi=>(Array.replicate ops.size false).getD i false) a {W with drawn:=W.drawn+1}:=
  ⟨_,L,H,U8,hD,hF,h0,hS0,fl _,λk c _=>⟨λh=>(Bool.false_ne_true ((xH c).symm.trans h)).elim,λ⟨v,h⟩=>by rw[ra]at h;cases hx:ch[k]?<;>rw[hx]at h<;>simp at h⟩,λi _ _ _ h=>(Bool.false_ne_true ((xH i).symm.trans h)).elim⟩
 refine wpAnyIn_sound ops.size t _ a _ (any ops.size (Array.replicate ops.size false) a _ ?_ ?_)
 ·have Vf:∀(k:Nat) (o:Oper),ops[k]? =some o->(Array.replicate ops.size false).getD k false=true->∀e∈o.after,Region.binds .any e=true->(Array.replicate ops.size false).getD e.on false=true:=λk o _ h=>by rw[xH k]at h;cases h
  by_cases hz:nA=0
  ·exact close _ _ _ z1 Vf (λi hi=>by omega) (λi _=>xH i) hA0
  exact⟨by simp,Vf,.inl ⟨⟨0,by omega,xH 0⟩,λi _=>xH i,hA0⟩⟩
 exact aS List.countP_le_length z1
def nv (n:Nat) (vs:List Value):List (Option Value):=vs.map some++List.replicate (n-vs.length) none
theorem wh(n k:Nat)(vs:List Value):((nv n vs)[k]?).join=vs[k]? :=by
 unfold nv;rcases Nat.lt_or_ge k vs.length with h|h
 ·rw[xP rB,ra];cases vs[k]?<;>rfl
 rw[Dq rB,List.getElem?_replicate,tY h];split<;>rfl
theorem N4(sp:Sp)(ch:List Nat)(n:Nat)(vs:List Value)(j:Nat):jw sp ch (nv n vs) j=valOf sp ch vs j:=by
 unfold jw valOf;rw[wh]
theorem Vg(ops:Array Oper)(sp:Sp)(ch:List Nat)(n:Nat)(vs:List Value):∀js,bN ops sp ch (nv n vs) js=dx ops sp ch vs js
 | []=>rfl
 |j::js=>by
  unfold bN dx;rw[Vg ops sp ch n vs js,N4]
theorem HY(ch ds:List Nat)(n:Nat)(vs:List Value):HT ch ds (nv n vs)=NU ch ds vs.length:=by
 unfold HT NU;congr 1;funext j;rw[wh];congr 1;rw[xM];simp[Nat.blt,Nat.succ_le_iff]
def YE:Nat->List Nat
 |0=>[]
 |m+1=>[m]
def yx:Nat->List Nat->List (List Nat)
 |_,[]=>[]
 |0,_::ch=>[]::yx 1 ch
 |k+1,_::ch=>[k]::yx (k+2) ch
theorem YF:∀(ch:List Nat) (k:Nat),(yx k ch).length=ch.length
 | [],k=>by cases k<;>rfl
 |_::ch,0=>by simp[yx,YF ch]
 |_::ch,k+1=>by simp[yx,YF ch]
theorem Vh:∀(ch:List Nat) (k i:Nat) (rq:List Nat),(yx k ch)[i]? =some rq->rq=YE (k+i)
 | [],k,i,rq,h=>by cases k<;>simp[yx]at h
 |_::ch,0,0,rq,h=>by simp[yx]at h;subst h;rfl
 |_::ch,0,i+1,rq,h=>by
  have:=Vh ch 1 i rq (by simpa[yx]using h);rw[show 0+(i+1)=i+1 by omega];rw[show 1+i=i+1 by omega]at this;exact this
 |_::ch,k+1,0,rq,h=>by simp[yx]at h;subst h;rfl
 |_::ch,k+1,i+1,rq,h=>by
  have:=Vh ch (k+2) i rq (by simpa[yx]using h);rw[show k+1+(i+1)=k+2+i by omega];exact this
theorem nol{l:List Oper}:∀(ch:List Nat),J3 l ch=true->∀(k c c':Nat),ch[k]? =some c->ch[k+1]? =some c'->((J2 l []).getD c' 0).testBit c=true
 | [],_,k,c,c',h1,_=>by simp at h1
 | [x],_,k,c,c',_,h2=>by simp at h2
 |x::y::ch,h,k,c,c',h1,h2=>by
  simp only[J3,gb]at h;cases k with
  |zero=>simp at h1 h2;subst h1;subst h2;exact h.1
  |succ k=>exact nol (y::ch) h.2 k c c' AI Ja
theorem nEn(l:List Oper)(ch:List Nat)(kN:J3 l ch=true):∀(eB:List (List Nat)) (n:Nat),n+eB.length=ch.length->(∀i rq,eB[i]? =some rq->rq=YE (n+i))->qT l ch n eB=true
 | [],_,_,_=>rfl
 |rq::eB,n,hn,h=>by
  simp only[dW]at hn;unfold qT;have h0:=h 0 rq rfl;have hlt:n<ch.length:=by omega
  rw[nEn l ch kN eB (n+1) zM (λi rq' hi=>by have:=h (i+1) rq' Jt;rw[show n+(i+1)=n+1+i by omega]at this;exact this),gV hlt,Bool.and_true,h0];simp only[Nat.add_zero];cases n with
  |zero=>rfl
  |succ m=>
   have hm:m<ch.length:=by omega
   simp only[Nat.add_zero,YE,List.all_cons,List.all_nil,Bool.and_true];rw[gV hm];exact nol ch kN m _ _ (gV hm) (gV hlt)
variable {vs:List Value}
theorem CZ{n:Nat}(h:vs.length<n):(nv n vs).set vs.length (some v)=nv n (vs++[v]):=by
 unfold nv;rw[List.set_append_right _ _ z1];simp only[fl,Nat.sub_self,gj,eE,iD,cF,dW,lC,i7];rw[show n-vs.length=(n-(vs.length+1))+1 by omega,List.replicate_succ];rfl
theorem nhm{n:Nat}{rq:List Nat}(hk:k<n)(hq:rq=YE k)(h:xE rq k (nv n vs)=true):vs.length=k:=by
 unfold xE at h;rw[wh]at h;simp only[gb,pP,Option.isNone_iff_eq_none,List.getElem?_eq_none_iff]at h;cases k with
 |zero=>omega
 |succ m=>
  have:=h.2 m (by rw[hq];exact .head _);rw[wh]at this;simp at this;omega
theorem n9j{Q:aG}{l:List Oper}{id:Nat}(nA:Nat)(ch:List Nat)(sp:Sp)(Ph:List Value->List World->ae->Prop)(hm:C.P.follows .mixedOrders=true)(h0:Ph [] L H)(jf:HV l.toArray nA (sp.map (·.1)) E=true)(aJ:xG l sp=true)(hN:yw C.N l=true)(kN:J3 l ch=true)(hnd:CQ ch=true)(rA:pZ ch 0 sp=true)(fE:ch.all (λc=>Nat.blt c nA)=true)(pure:∀(i:Nat) (o:Oper) (ds:List Nat) (u:Value),l[i]? =some o->sp[i]? =some (ds,some u)->∀cv L' H',NU ch ds cv.length=true->Ph cv L' H'->X C l.toArray G L' H' (dx l.toArray sp ch cv ds++E) (λ_=>True) o (λv _=>v=u))(step:∀(k c:Nat) (o:Oper) (ds:List Nat) (d:Nat),ch[k]? =some c->l[c]? =some o->sp[c]? =some (ds,none)->o.dst=some d->∀cv L' H',cv.length=k->Ph cv L' H'->∀(F:Env) (Q':aG),(∀v dB dC,Ph (cv++[v]) dB dC->PJ C Q' .normal ((d,v)::(dx l.toArray sp ch cv ds++(E++F))) D G dB dC)->OJ C l.toArray Q' [o] (dx l.toArray sp ch cv ds++(E++F)) D G L' H')(CS:∀(k c:Nat) (o:Oper) (ds:List Nat),ch[k]? =some c->l[c]? =some o->sp[c]? =some (ds,none)->o.dst=none->∀cv L' H',cv.length=k->Ph cv L' H'->∀(F:Env) (Q':aG),(∀v dB dC,Ph (cv++[v]) dB dC->PJ C Q' .normal (dx l.toArray sp ch cv ds++(E++F)) D G dB dC)->OJ C l.toArray Q' [o] (dx l.toArray sp ch cv ds++(E++F)) D G L' H')(fin:∀cv L' H',cv.length=ch.length->Ph cv L' H'->OJ C l.toArray Q (l.drop nA) (dx l.toArray sp ch cv (List.range nA)++E) D G L' H'):CJ C (.region id l.toArray true) Q E D G L H:=by
 refine nKj nA ch sp (yx 0 ch) (λcv L' H'=>∃vs:List Value,cv=nv ch.length vs/\vs.length<=ch.length/\Ph vs L' H') hm ⟨[],?_,cZ _,h0⟩ jf aJ hN (nEn l ch kN _ 0 (by rw[i6,YF]) (λi rq hi=>Vh ch 0 i rq hi)) hnd rA fE ?_ ?_ ?_ (YF ch 0) ?_
 ·unfold nv;simp[List.map_const']
 ·rintro i o ds u hl hs cv L' H' hlen hd ⟨vs,rfl,hle,hP⟩;rw[Vg];exact pure i o ds u hl hs vs L' H' (by rw[<-HY];exact hd) hP
 ·rintro k c rq o ds d hk hr hl hs hd cv L' H' hlen uS ⟨vs,rfl,hle,hP⟩ F Q' hc;have lD:k<ch.length:=(gD.1 hk).1;have hv:=nhm lD (by have:=Vh ch 0 k rq hr;rwa[i6]at this) uS;rw[Vg]at hc ⊢;refine step k c o ds d hk hl hs hd vs L' H' hv hP F Q' λv dB dC hP'=>hc v dB dC ⟨vs++[v],?_,by simp;omega,hP'⟩;rw[<-hv];exact CZ zM
 ·rintro k c rq o ds hk hr hl hs hd cv L' H' hlen uS ⟨vs,rfl,hle,hP⟩ F Q' hc;have lD:k<ch.length:=(gD.1 hk).1;have hv:=nhm lD (by have:=Vh ch 0 k rq hr;rwa[i6]at this) uS;rw[Vg]at hc ⊢;refine CS k c o ds hk hl hs hd vs L' H' hv hP F Q' λv dB dC hP'=>hc v dB dC ⟨vs++[v],?_,by simp;omega,hP'⟩;rw[<-hv];exact CZ zM
 rintro cv L' H' hlen bW ⟨vs,rfl,hle,hP⟩;rw[Vg];refine fin vs L' H' ?_ hP;rcases Nat.lt_or_ge vs.length ch.length with h|h
 ·have h1:(nv ch.length vs)[vs.length]? =some none:=by
   unfold nv;rw[Dq z1,List.getElem?_replicate,if_pos jZ]
  have:=pP.1 bW none (cC h1);cases this
 omega
theorem Vi{nA:Nat}{ds:List (List Nat)}(h:HR ops nA ds E=true):HV ops nA ds E=true/\∀(i:Nat) (o:Oper),i<nA->ops[i]? =some o->∃d,o.dst=some d:=by
 unfold HR at h;unfold HV;simp only[gb,pP,pG]at h ⊢;obtain⟨⟨h1,h2⟩,h3⟩:=h;refine⟨⟨⟨h1,h2⟩,λi hi=>?_⟩,λi o hi ho=>?_⟩
 ·have:=h3 i hi;cases ho:ops[i]? with
  |none=>rfl
  |some o=>
   simp only[ho,gb]at this ⊢;refine⟨this.1,?_⟩;have:=this.2;split at this
   ·rw[if_pos ‹_›];simp only[gb]at this ⊢;refine⟨this.1,?_⟩;have:=this.2;cases hd:o.dst with
    |none=>rfl
    |some d=>simp only[hd]at this ⊢;exact this
   rw[if_neg ‹_›];exact this
 have:=h3 i (aM.1 ho).1;simp only[ho,gb]at this;have:=this.2;rw[if_pos YB]at this;cases hd:o.dst with
 |none=>simp[hd]at this
 |some d=>exact⟨d,rfl⟩
theorem nnl:∀(l:List Oper) (sp:Sp),(∀(i:Nat) (o:Oper),i<sp.length->l[i]? =some o->∃d,o.dst=some d)->xG l sp=true
 | [],[],_=>rfl
 | [],_::_,_=>rfl
 |_::_,[],_=>rfl
 |o::l,(_,u)::sp,h=>by
  have ih:=nnl l sp λi o' hi ho=>h (i+1) o' Jt (by simpa using ho);obtain⟨d,hd⟩:=h 0 o z1 rfl;cases u<;>simp[xG,ih,hd]
theorem J6{l:List Oper}{nA:Nat}{sp:Sp}(h:HR l.toArray nA (sp.map (·.1)) E=true):HV l.toArray nA (sp.map (·.1)) E=true/\xG l sp=true/\∀(i:Nat) (o:Oper),i<nA->l[i]? =some o->∃d,o.dst=some d:=by
 obtain⟨h1,h2⟩:=Vi h;have hl:sp.length=nA:=by
  unfold HR at h;simp only[gb]at h;simpa using NA h.1.1
 exact⟨h1,nnl l sp λi o hi ho=>h2 i o zM (by simpa using ho),λi o hi ho=>h2 i o hi (by simpa using ho)⟩
theorem n1k{Q:aG}{l:List Oper}{id:Nat}(nA:Nat)(ch:List Nat)(sp:Sp)(Ph:List Value->List World->ae->Prop)(hm:C.P.follows .mixedOrders=true)(h0:Ph [] L H)(jf:HR l.toArray nA (sp.map (·.1)) E=true)(hN:yw C.N l=true)(kN:J3 l ch=true)(hnd:CQ ch=true)(rA:pZ ch 0 sp=true)(fE:ch.all (λc=>Nat.blt c nA)=true)(pure:∀(i:Nat) (o:Oper) (ds:List Nat) (u:Value),l[i]? =some o->sp[i]? =some (ds,some u)->∀cv L' H',NU ch ds cv.length=true->Ph cv L' H'->X C l.toArray G L' H' (dx l.toArray sp ch cv ds++E) (λ_=>True) o (λv _=>v=u))(step:∀(k c:Nat) (o:Oper) (ds:List Nat) (d:Nat),ch[k]? =some c->l[c]? =some o->sp[c]? =some (ds,none)->o.dst=some d->∀cv L' H',cv.length=k->Ph cv L' H'->∀(F:Env) (Q':aG),(∀v dB dC,Ph (cv++[v]) dB dC->PJ C Q' .normal ((d,v)::(dx l.toArray sp ch cv ds++(E++F))) D G dB dC)->OJ C l.toArray Q' [o] (dx l.toArray sp ch cv ds++(E++F)) D G L' H')(fin:∀cv L' H',cv.length=ch.length->Ph cv L' H'->OJ C l.toArray Q (l.drop nA) (dx l.toArray sp ch cv (List.range nA)++E) D G L' H'):CJ C (.region id l.toArray true) Q E D G L H:=by
 obtain⟨h1,h2,h3⟩:=J6 jf;refine n9j nA ch sp Ph hm h0 h1 h2 hN kN hnd rA fE pure step ?_ fin;intro k c o ds hk hl _ hd;exact z9k
theorem CJ.net{Q:aG}{l:List Oper}{id:Nat}(nA:Nat)(ch:List Nat)(sp:Sp)(eB:List (List Nat))(Ph:List (Option Value)->List World->ae->Prop)(hm:C.P.follows .mixedOrders=true)(h0:Ph (ch.map λ_=>none) L H)(jf:HR l.toArray nA (sp.map (·.1)) E=true)(hN:yw C.N l=true)(kN:qT l ch 0 eB=true)(hnd:CQ ch=true)(rA:pZ ch 0 sp=true)(fE:ch.all (λc=>Nat.blt c nA)=true)(pure:∀(i:Nat) (o:Oper) (ds:List Nat) (u:Value),l[i]? =some o->sp[i]? =some (ds,some u)->∀cv L' H',cv.length=ch.length->HT ch ds cv=true->Ph cv L' H'->X C l.toArray G L' H' (bN l.toArray sp ch cv ds++E) (λ_=>True) o (λv _=>v=u))(step:∀(k c:Nat) (rq:List Nat) (o:Oper) (ds:List Nat) (d:Nat),ch[k]? =some c->eB[k]? =some rq->l[c]? =some o->sp[c]? =some (ds,none)->o.dst=some d->∀cv L' H',cv.length=ch.length->xE rq k cv=true->Ph cv L' H'->∀(F:Env) (Q':aG),(∀v dB dC,Ph (cv.set k (some v)) dB dC->PJ C Q' .normal ((d,v)::(bN l.toArray sp ch cv ds++(E++F))) D G dB dC)->OJ C l.toArray Q' [o] (bN l.toArray sp ch cv ds++(E++F)) D G L' H')(PZ:eB.length=ch.length)(fin:∀cv L' H',cv.length=ch.length->cv.all (λx=>x.isSome)=true->Ph cv L' H'->OJ C l.toArray Q (l.drop nA) (bN l.toArray sp ch cv (List.range nA)++E) D G L' H'):CJ C (.region id l.toArray true) Q E D G L H:=by
 obtain⟨h1,h2,h3⟩:=J6 jf;refine nKj nA ch sp eB Ph hm h0 h1 h2 hN kN hnd rA fE pure step ?_ PZ fin;intro k c rq o ds hk _ hl _ hd;exact z9k
def P1 (C:Cx) (ops:Array Oper) (G:Gh) (L:List World) (H:ae) (E:Env) (sp:List OS):List Oper->List OS->Prop
 |o::l,(ds,some u)::ss=>(∀_:Nat->Value,X C ops G L H (dx ops sp [] [] ds++E) (λ_=>True) o (λv _=>v=u))/\P1 C ops G L H E sp l ss
 |_,_=>True
variable {ds:List Nat}
theorem xc{sp:List OS}{o:Oper}{l:List Oper}{u:Value}{ss:List OS}(h:∀_:Nat->Value,X C ops G L H (dx ops sp [] [] ds++E) (λ_=>True) o (λv _=>v=u))(t:P1 C ops G L H E sp l ss):P1 C ops G L H E sp (o::l) ((ds,some u)::ss):=⟨h,t⟩
theorem xn{sp:List OS}{l:List Oper}:P1 C ops G L H E sp l []:=by cases l<;>trivial
theorem C0(i:Nat):∀sp:Sp,pZ [] i sp=true↔∀p∈sp,p.2.isSome=true
 | []=>by simp[pZ]
 |(ds,none)::sp=>by simp[pZ]
 |(ds,some u)::sp=>by simp[pZ,C0 (i+1) sp]
theorem nWi{C:Cx}{ops:Array Oper}{G:Gh}{L:List World}{H:ae}{E:Env}{sp:List OS}:∀(l:List Oper) (ss:List OS),P1 C ops G L H E sp l ss->pZ [] 0 ss=true->∀(i:Nat) (o:Oper) (ds:List Nat) (u:Value),l[i]? =some o->ss[i]? =some (ds,some u)->X C ops G L H (dx ops sp [] [] ds++E) (λ_=>True) o (λv _=>v=u)
 | [],_,_,_,i,o,ds,u,hl,_=>by simp at hl
 |_::_,[],_,_,i,o,ds,u,_,hs=>by simp at hs
 |o'::l,(sW,none)::ss,h,hp,i,o,ds,u,hl,hs=>by simp[pZ]at hp
 |o'::l,(sW,some u')::ss,h,hp,i,o,ds,u,hl,hs=>by
  cases i with
  |zero=>simp at hl hs;obtain⟨rfl,rfl⟩:=hs;subst hl;exact h.1 λ_=>undef
  |succ i=>exact nWi l ss h.2 (by rw[C0]at hp ⊢;exact λp td=>hp p (.tail _ td)) i o ds u xZ (by simpa using hs)
theorem nl{Q:aG}{l:List Oper}{id:Nat}(nA:Nat)(sp:List OS)(hm:C.P.follows .mixedOrders=true)(exec:P1 C l.toArray G L H E sp l sp)(jf:HR l.toArray nA (sp.map (·.1)) E=true)(hN:yw C.N l=true)(hd:pZ [] 0 sp=true)(fin:∀(_:Nat->Value),OJ C l.toArray Q (l.drop nA) (dx l.toArray sp [] [] (List.range nA)++E) D G L H):CJ C (.region id l.toArray true) Q E D G L H:=by
 refine n1k nA [] sp (λcv L' H'=>cv=[]/\L'=L/\H'=H) hm ⟨rfl,rfl,rfl⟩ jf hN rfl rfl hd rfl ?_ (λk c o ds d hk=>by simp at hk) ?_
 ·rintro i o ds u hl hs cv L' H' _ ⟨rfl,rfl,rfl⟩;exact nWi l sp exec hd i o ds u hl hs
 rintro cv L' H' _ ⟨rfl,rfl,rfl⟩;exact fin λ_=>undef
end Px
namespace Px
/-! plain arithmetic: products and quotients of 128 bits -/
theorem C1(x y:Nat)(hx:x<2^64)(hy:y<2^64):(x/2^32)*(y/2^32)+((x/2^32)*(y%2^32)+(x%2^32)*(y%2^32)/2^32)/2^32+(((x/2^32)*(y%2^32)+(x%2^32)*(y%2^32)/2^32)%2^32+(x%2^32)*(y/2^32))/2^32=x*y/2^64:=by
 have h1:=wo x (2^32);have h2:=wo y (2^32);generalize x/2^32=x1 at *;generalize x%2^32=x0 at *;generalize y/2^32=y1 at *;generalize y%2^32=y0 at *;have e:x*y=2^64*(x1*y1)+2^32*(x1*y0)+2^32*(x0*y1)+x0*y0:=by
  rw[<-h1,<-h2];have:(2^64:Nat)=2^32*2^32:=by decide
  rw[this];simp only[lI,Nat.mul_add];have a1:2^32*x1*(2^32*y1)=2^32*2^32*(x1*y1):=by
   rw[Nat.mul_mul_mul_comm]
  have a2:2^32*x1*y0=2^32*(x1*y0):=Nat.mul_assoc _ _ _;have a3:x0*(2^32*y1)=2^32*(x0*y1):=Nat.mul_left_comm _ _ _;omega
 rw[e];generalize x1*y1=p at *;generalize x1*y0=q at *;generalize x0*y1=r at *;generalize x0*y0=s at *;omega
theorem n7o(u y1 y0 un q:Nat)(wj:2^31<=y1)(rD:y0<2^32)(Em:un<2^32)(hq:q=u/y1):(u*2^32+un)/(y1*2^32+y0)<=q:=by
 subst hq;apply Nat.le_of_lt_succ;rw[Nat.div_lt_iff_lt_mul zM];have h:=Nat.lt_succ_self (u/y1);have h2:=wo u y1;have h3:=Nat.mod_lt u (show 0<y1 by omega);have:u<y1*(u/y1+1):=by rw[Nat.mul_add];omega
 have h4:(u/y1).succ*(y1*2^32+y0)=(y1*(u/y1+1))*2^32+(u/y1+1)*y0:=by
  rw[Nat.succ_eq_add_one,Nat.mul_add,sY (u/y1+1) (y1*2^32),Nat.mul_right_comm]
 rw[h4];generalize y1*(u/y1+1)=z at *;have:(u+1)*2^32<=z*2^32:=uF _ this;omega
theorem nQf(u y1 y0 un q r:Nat)(hr:u=q*y1+r):(r*2^32+un<q*y0)↔u*2^32+un<q*(y1*2^32+y0):=by
 subst hr;rw[Nat.mul_add,lI,Nat.mul_assoc];omega
def cK (n:Nat):Nat:=if n=0 then 0 else Nat.log2 n+1
theorem nqo(n k:Nat)(h:2^k<=n):cK n=cK (n/2^k)+k:=by
 have hp:0<2^k:=Nat.two_pow_pos k;have hn:n≠0:=by omega
 have hq:n/2^k≠0:=by
  have:=Nat.div_pos h hp;omega
 unfold cK;rw[if_neg hn,if_neg hq];have:Nat.log2 n=Nat.log2 (n/2^k)+k:=by
  have h1:=Nat.log2_self_le hq;have h2:=Nat.lt_log2_self (n:=n/2^k);refine(Nat.log2_eq_iff hn).2 ⟨?_,?_⟩
  ·rw[Nat.pow_add];exact aS (uF _ h1) (Nat.div_mul_le_self n (2^k))
  rw[show Nat.log2 (n/2^k)+k+1=(Nat.log2 (n/2^k)+1)+k by omega,Nat.pow_add];exact(Nat.div_lt_iff_lt_mul hp).1 h2
 omega
theorem Qd(n k:Nat)(h:n<2^k):cK n<=k:=by
 unfold cK;split
 ·omega
 rename_i hn;have:=(Nat.log2_lt hn).2 h;omega
theorem nNk(n:Nat)(h:n≠0):2^(cK n-1)<=n/\n<2^cK n/\1<=cK n:=by
 unfold cK;rw[if_neg h];exact⟨by simpa using Nat.log2_self_le h,Nat.lt_log2_self,by omega⟩
/-! the quotient of 128 bits by 64 -/
theorem nmo(y:Nat)(hy:0<y)(wj:y<2^64):cK y<=64/\2^63<=y*2^(64-cK y)/\y*2^(64-cK y)<2^64:=by
 have hb:=Qd y 64 wj;obtain⟨h1,h2,h3⟩:=nNk y zM;refine⟨hb,?_,?_⟩
 ·have:2^(cK y-1)*2^(64-cK y)<=y*2^(64-cK y):=uF _ h1;rw[<-Nat.pow_add,show cK y-1+(64-cK y)=63 by omega]at this;exact this
 have:y*2^(64-cK y)<2^cK y*2^(64-cK y):=Nat.mul_lt_mul_of_pos_right h2 (Nat.two_pow_pos _);rw[<-Nat.pow_add,show cK y+(64-cK y)=64 by omega]at this;exact this
theorem nAm(lo s:Nat)(hs:s<=64):lo*2^s/2^64=lo/2^(64-s):=by
 have:(2:Nat)^64=2^(64-s)*2^s:=by
  have:=Nat.pow_add 2 (64-s) s;rwa[Nat.sub_add_cancel hs]at this
 rw[this,Nat.mul_div_mul_right _ _ (Nat.two_pow_pos s)]
theorem nko(hi lo y s:Nat)(hs:s<=64)(h:hi<y)(hlo:lo<2^64):(hi*2^s+lo/2^(64-s))*2^64+lo*2^s%2^64=(hi*2^64+lo)*2^s/\hi*2^s+lo/2^(64-s)<y*2^s:=by
 have h1:=wo (lo*2^s) (2^64);rw[nAm lo s hs]at h1;have e:(hi*2^s+lo/2^(64-s))*2^64+lo*2^s%2^64=(hi*2^64+lo)*2^s:=by
  have e1:(hi*2^64+lo)*2^s=hi*2^s*2^64+lo*2^s:=by
   rw[lI,Nat.mul_right_comm]
  rw[e1];generalize lo*2^s=z at *;generalize hi*2^s=z' at *;omega
 refine⟨e,?_⟩;have h2:(hi*2^64+lo)*2^s<(y*2^s)*2^64:=by
  have:hi*2^64+lo<y*2^64:=by
   have:(hi+1)*2^64<=y*2^64:=uF _ h;rw[lI]at this;omega
  rw[Nat.mul_right_comm];exact Nat.mul_lt_mul_of_pos_right this (Nat.two_pow_pos s)
 rw[<-e]at h2;clear e h1;generalize hi*2^s+lo/2^(64-s)=U at *;generalize y*2^s=Y at *;generalize lo*2^s%2^64=z at *;omega
theorem HZ(u v Y r1 B:Nat)(hr:(u*B+v/B)%Y=r1):u*(B*B)+v=((u*B+v/B)/Y*B+(r1*B+v%B)/Y)*Y+(r1*B+v%B)%Y:=by
 have h1:=wo (u*B+v/B) Y;have h2:=wo (r1*B+v%B) Y;have h3:=wo v B;rw[hr]at h1;clear hr;generalize (u*B+v/B)/Y=d1 at *;generalize (r1*B+v%B)/Y=d0 at *;generalize (r1*B+v%B)%Y=r0 at *;have e1:(d1*B+d0)*Y=Y*d1*B+Y*d0:=by
  rw[lI,Nat.mul_right_comm,sY d1 Y,sY d0 Y]
 rw[e1,Nat.add_assoc,h2];have e2:(Y*d1+r1)*B=(u*B+v/B)*B:=by rw[h1]
 rw[lI,lI,Nat.mul_assoc u B B,sY (v/B) B]at e2;omega
theorem n2b(u v Y r1:Nat)(hr:(u*2^32+v/2^32)%Y=r1):u*2^64+v=((u*2^32+v/2^32)/Y*2^32+(r1*2^32+v%2^32)/Y)*Y+(r1*2^32+v%2^32)%Y:=by
 have:=HZ u v Y r1 (2^32) hr;rw[<-this]
theorem n1b(hi lo y s Qn R:Nat)(hR:R<y*2^s)(h:(hi*2^64+lo)*2^s=Qn*(y*2^s)+R):(hi*2^64+lo)/y=Qn/\(hi*2^64+lo)%y=R/2^s:=by
 have hp:0<2^s:=Nat.two_pow_pos s;generalize hi*2^64+lo=N at *;generalize 2^s=p at *;have hy:0<y:=by
  rcases Nat.eq_zero_or_pos y with rfl|h
  ·simp at hR
  exact h
 have e:R=(N-Qn*y)*p:=by
  rw[Nat.sub_mul,Nat.mul_assoc];omega
 have hle:Qn*y<=N:=by
  apply Nat.le_of_mul_le_mul_right (c:=p) _ hp;rw[Nat.mul_assoc];omega
 have hlt:N-Qn*y<y:=by
  rw[e]at hR;exact Nat.lt_of_mul_lt_mul_right hR
 have hd:R/p=N-Qn*y:=by rw[e,Nat.mul_div_cancel _ hp]
 have hN:N=y*Qn+(N-Qn*y):=by rw[sY y Qn];omega
 rw[hd];constructor
 ·rw[hN,Nat.mul_add_div hy,Nat.div_eq_of_lt hlt];rfl
 have:(y*Qn+(N-Qn*y))%y=N-Qn*y:=by rw[Nat.mul_add_mod,Nat.mod_eq_of_lt hlt]
 rw[<-hN]at this;exact this
structure pz (u y1 y0 un q r:Nat):Prop where
 eq:q*y1+r=u
 lt:r<2^32
 ge:(u*2^32+un)/(y1*2^32+y0)<=q
 le:q<=2^32+1
section
variable {u y1 y0 un q r:Nat}
theorem pz.start(wj:2^31<=y1)(ahK:y1<2^32)(rD:y0<2^32)(Em:un<2^32)(hu:u<y1*2^32+y0):pz u y1 y0 un (u/y1) (u%y1):=by
 have h1:=Nat.mod_lt u (show 0<y1 by omega);refine⟨?_,by omega,n7o u y1 y0 un _ wj rD Em rfl,?_⟩
 ·rw[sY];exact wo u y1
 apply Nat.le_of_lt_succ;rw[Nat.div_lt_iff_lt_mul zM];rw[Nat.succ_eq_add_one];omega
theorem pz.small(wj:2^31<=y1)(hu:u<y1*2^32+y0)(Em:un<2^32):(u*2^32+un)/(y1*2^32+y0)<2^32:=by
 rw[Nat.div_lt_iff_lt_mul zM];omega
theorem pz.stop(h:pz u y1 y0 un q r)(wj:2^31<=y1)(ht:q*y0<=r*2^32+un):(u*2^32+un)/(y1*2^32+y0)=q:=by
 have h1:=nQf u y1 y0 un q r h.eq.symm;have h2:q*(y1*2^32+y0)<=u*2^32+un:=UT λhl=>by have:=h1.2 hl;omega
 have h3:=(Nat.le_div_iff_mul_le (show 0<y1*2^32+y0 by omega)).2 h2;have:=h.ge;omega
theorem pz.more(h:pz u y1 y0 un q r)(wj:2^31<=y1)(hu:u<y1*2^32+y0)(Em:un<2^32)(ht:2^32<=q\/r*2^32+un<q*y0):1<=q/\(q-1)*y1+(r+y1)=u/\(u*2^32+un)/(y1*2^32+y0)<=q-1:=by
 have hlt:(u*2^32+un)/(y1*2^32+y0)<q:=by
  rcases ht with ht|ht
  ·exact kJ (pz.small wj hu Em) ht
  have:=(nQf u y1 y0 un q r h.eq.symm).1 ht;rw[Nat.div_lt_iff_lt_mul zM];exact this
 have hq:1<=q:=Nat.succ_le_of_lt (Nat.lt_of_le_of_lt (cZ _) hlt);refine⟨hq,?_,Nat.le_sub_one_of_lt hlt⟩;have:=h.eq;rw[Nat.sub_mul,Nat.one_mul];have:y1<=q*y1:=Nat.le_mul_of_pos_left _ hq;omega
theorem Vw(hq:q<=2^32)(hr:2^32<=r)(he:q*y1+r=u)(lN:(u*2^32+un)/(y1*2^32+y0)<=q)(wj:2^31<=y1)(rD:y0<2^32):(u*2^32+un)/(y1*2^32+y0)=q:=by
 have h1:=nQf u y1 y0 un q r he.symm;have hb:q*y0<=2^32*(2^32-1):=Nat.mul_le_mul hq zM;have h2:q*(y1*2^32+y0)<=u*2^32+un:=UT λhl=>by have:=h1.2 hl;omega
 have h3:=(Nat.le_div_iff_mul_le (show 0<y1*2^32+y0 by omega)).2 h2;omega
end
theorem H2(a b i:Nat)(hb:b<2^i):a*2^i|||b=a*2^i+b:=by
 rw[sY];exact(Nat.two_pow_add_eq_or_of_lt hb a).symm
end Px
namespace Px
open Go
theorem Ic{a b A B:Int}(ha:0<=a)(eK:a<=A)(hb:0<=b)(aR:b<=B):0<=a*b/\a*b<=A*B:=
 ⟨Int.mul_nonneg ha hb,Int.mul_le_mul eK aR hb (Int.le_trans ha eK)⟩
theorem n0o(x y:Int)(hx:0<=x)(hy:0<=y)(Et:x<18446744073709551616)(wj:y<18446744073709551616):(x/4294967296)*(y/4294967296)+((x/4294967296)*(y%4294967296)+(x%4294967296)*(y%4294967296)/4294967296)/4294967296+(((x/4294967296)*(y%4294967296)+(x%4294967296)*(y%4294967296)/4294967296)%4294967296+(x%4294967296)*(y/4294967296))/4294967296=x*y/18446744073709551616:=by
 obtain⟨a,rfl⟩:=Df hx;obtain⟨b,rfl⟩:=Df hy;have:=C1 a b zM zM;have h2:((2^32:Nat):Int)=4294967296:=by decide
 have h3:((2^64:Nat):Int)=18446744073709551616:=by decide
 have:=congrArg (Nat.cast (R:=Int)) this;simp only[Int.natCast_add,Int.natCast_mul,Int.natCast_ediv,Int.natCast_emod,h2,h3]at this;exact this
def lO (x:Int):Int:=cK x.toNat
theorem V4(n k:Nat):((n:Int)/2^k)=((n/2^k:Nat):Int):=by
 rw[Int.natCast_ediv];simp
theorem nLm{x:Int}(k:Nat)(h:2^k<=x):lO x=lO (x/2^k)+k:=by
 have h0:0<=x:=Int.le_trans (Int.le_of_lt (Int.pow_pos zQ)) h;obtain⟨n,rfl⟩:=Df h0;unfold lO;have h':2^k<=n:=by
  have:((2^k:Nat):Int)<=n:=by simpa using h
  exact Int.ofNat_le.1 this
 rw[V4,wE,wE,nqo n k h'];simp
theorem nUl{x:Int}(k:Nat)(h0:0<=x)(h:x<2^k):0<=lO x/\lO x<=k:=by
 obtain⟨n,rfl⟩:=Df h0;have h':n<2^k:=by
  have:(n:Int)<((2^k:Nat):Int):=by simpa using h
  exact Int.ofNat_lt.1 this
 have:=Qd n k h';unfold lO;simp;omega
theorem yA(m s:Nat)(hs:s<=64)(h:m*2^s<18446744073709551616):IntKind.u64.wrap ((m:Int)*2^(min (Int.toNat (s:Int)) IntKind.u64.bits))=((m*2^s:Nat):Int):=by
 rw[show min (Int.toNat (s:Int)) IntKind.u64.bits=s by simp[IntKind.bits]<;>omega];have e:((m*2^s:Nat):Int)=(m:Int)*2^s:=by simp
 rw[<-e];exact JW zM zM
theorem Ew(m s:Nat)(hs:s<=64):IntKind.u64.wrap ((m:Int)*2^(min (Int.toNat (s:Int)) IntKind.u64.bits))=((m*2^s%2^64:Nat):Int):=by
 rw[show min (Int.toNat (s:Int)) IntKind.u64.bits=s by simp[IntKind.bits]<;>omega];have e:((m*2^s:Nat):Int)=(m:Int)*2^s:=by simp
 rw[<-e,nD];generalize m*2^s=z;omega
theorem Kd(m s:Nat)(k:Int)(hk:k=((64-s:Nat):Int)):(m:Int).fdiv (2^(min (Int.toNat k) IntKind.u64.bits))=((m/2^(64-s):Nat):Int):=by
 subst hk;rw[show min (Int.toNat ((64-s:Nat):Int)) IntKind.u64.bits=64-s by simp[IntKind.bits]<;>omega,QZ,V4]
theorem nvc(m s:Nat)(hs:s<=64):(m:Int).fdiv (2^(min (Int.toNat (s:Int)) IntKind.u64.bits))=((m/2^s:Nat):Int):=by
 rw[show min (Int.toNat (s:Int)) IntKind.u64.bits=s by simp[IntKind.bits]<;>omega,QZ,V4]
theorem Vj(k:Nat)(hk:k<18446744073709551616):(BitVec.ofInt IntKind.u64.bits (k:Int)).toNat=k:=by
 rw[BitVec.ofInt_natCast,BitVec.toNat_ofNat];exact Nat.mod_eq_of_lt hk
theorem Ig(a b i:Nat)(hb:b<2^i)(h:a*2^i+b<18446744073709551616):IntKind.u64.wrap ((BitVec.ofInt IntKind.u64.bits ((a*2^i:Nat):Int)|||BitVec.ofInt IntKind.u64.bits (b:Int)).toNat:Int)=((a*2^i+b:Nat):Int):=by
 rw[BitVec.toNat_or,Vj _ zM,Vj _ zM,H2 a b i hb];exact JW zM zM
theorem yB(lo s:Nat)(hs:s<=64)(h:lo<18446744073709551616):lo/2^(64-s)<2^s:=by
 rw[Nat.div_lt_iff_lt_mul (Nat.two_pow_pos _),<-Nat.pow_add,Nat.add_sub_cancel' hs];exact h
theorem Vu(a b:Nat):((a:Int)/(b:Int))=((a/b:Nat):Int):=(Int.natCast_ediv a b).symm
theorem yF(m i:Nat)(k:Int)(hk:k=(i:Int))(hi:i<=64):(m:Int).fdiv (2^(min (Int.toNat k) IntKind.u64.bits))=((m/2^i:Nat):Int):=by
 subst hk;exact nvc m i hi
end Px
namespace Px
open Go Go.RowKit
/-! #### own blocks that are forgotten -/
def Over (n:Nat):ae->Prop
 | []=>True
 |p::H=>n<=p.1/\Over n H
variable {H:ae}
theorem Over.mem{n:Nat}(h:Over n H):∀p∈H,n<=p.1:=by
 exact zrk
section
variable {G:Gh} {L:List World} {H:ae} {W:World}
theorem St.base(h:St Gh.no L H W){w:World}(hw:w∈L)(ho:Over w.heap.size H):Below w.heap.size w W:=
 (h.links w hw).below λk hk hx=>by
  rcases hx with hx|hx
  ·exact hx
  obtain⟨p,hp,rfl⟩:=bU.1 hx;have:=ho.mem p hp;omega
def Fr (G:Gh) (L:List World) (b:Nat):Prop:=G.X b\/ad L b
variable {b:Nat} {o:Obj}
theorem St.dropF(h:St G L ((b,o)::H) W)(ha:Fr G L b):St G L H W where
 ghost:=h.ghost
 vlt:=h.vlt
 xlt:=h.xlt
 links:=λw hw=>(h.links w hw).mono λk hk hx=>by
  rcases hx with hx|hx
  ·exact .inl hx
  simp only[eE,cP]at hx;rcases hx with rfl|hx
  ·rcases ha with ha|ha
   ·exact .inl ha
   have:=ha.mem w hw;omega
  exact .inr hx
 own:=λp hp=>h.own p (List.mem_cons_of_mem _ hp)
 nodup:=λi j p q hi hj e=>by
  have:=h.nodup (i+1) (j+1) p q Jt (by simpa using hj) e;omega
 apart:=λp hp=>h.apart p (List.mem_cons_of_mem _ hp)
theorem St.drop(h:St G L ((b,o)::H) W)(ha:ad L b):St G L H W:=h.dropF (.inr ha)
theorem St.adopt(h:St G L H W)(hb:W.heap[b]? =some o)(ha:bE H b)(hV:¬G.V b):St G L ((b,o)::H) W where
 ghost:=h.ghost
 vlt:=h.vlt
 xlt:=h.xlt
 links:=λw hw=>(h.links w hw).mono λk _ hx=>hx.imp id λhx=>by simp[hx]
 own:=λp hp=>by
  simp only[cP]at hp;rcases hp with rfl|hp
  ·exact hb
  exact h.own p hp
 nodup:=λi j p q hi hj e=>by
  cases i with
  |zero=>
   cases j with
   |zero=>rfl
   |succ j=>
    simp only[Ir,rF,yS]at hi hj;subst hi;exact absurd (bU.2 ⟨q,cC hj,e.symm⟩) ha.mem
  |succ i=>
   cases j with
   |zero=>
    simp only[Ir,rF,yS]at hi hj;subst hj;exact absurd (bU.2 ⟨p,cC hi,e⟩) ha.mem
   |succ j=>
    simp only[yS]at hi hj;rw[h.nodup i j p q hi hj e]
 apart:=λp hp=>by
  simp only[cP]at hp;rcases hp with rfl|hp
  ·exact hV
  exact h.apart p hp
end
/-! #### results -/
section
variable {C:Cx} {fn:Func} {R:Ending->World->Prop} {E:Env} {G:Gh} {L:List World} {H:ae}
def RS (C:Cx) (G:Gh) (L:List World) (H:ae) (E:Env):List ResultVar->List Value->Prop
 | [],vs=>vs=[]
 |r::rs,vs=>∃v us,vs=v::us/\(match r with
  | .tmp t=>look E t=some v
  | .cell t T=>∀a W,Fits E a->St G L H W->(do loadVar T (<-asAddr (a.tmps.getD t undef)):Sem Value).run C.P W= .ok v W)/\RS C G L H E rs us
theorem RS.run:∀{rs:List ResultVar} {vs:List Value},RS C G L H E rs vs->∀(a:Act) (W:World),Fits E a->St G L H W->(rs.mapM λr=>(match r with| .tmp t=>pure (a.tmps.getD t undef)| .cell b t=>do loadVar t (<-asAddr (a.tmps.getD b undef)):Sem Value)).run C.P W= .ok vs W
 | [],vs,h,a,W,_,_=>by cases h;simp
 |r::rs,vs,h,a,W,hF,hS=>by
  obtain⟨v,us,rfl,hr,h⟩:=h;have ih:=RS.run h a W hF hS;cases r with
  |tmp t=>
   have:=hF t v hr;simp only[Act.eval]at this;simp[-Array.getD_eq_getD_getElem?,List.mapM_cons,ih,this]
  |cell b T=>
   have:=hr a W hF hS;rw[List.mapM_cons,Sem.run_bind];simp only[this];simp[-Array.getD_eq_getD_getElem?,ih]
variable {rs:List ResultVar} {vs:List Value} {v:Value}
theorem RS.t{t:Nat}(h:look E t=some v)(k:RS C G L H E rs vs):RS C G L H E (.tmp t::rs) (v::vs):=⟨v,vs,rfl,h,k⟩
variable {cs:Array Value} {T b i:Nat} {fr:Nat×Nat}
theorem RS.w{t off ct:Nat}(hi:H[i]? =some (b,.cells cs ct fr))(hA:fq C.P T false)(hx:look E t=some (ptr b off))(hv:cs[off]? =some v)(k:RS C G L H E rs vs):RS C G L H E (.cell t T::rs) (v::vs):=
 ⟨v,vs,rfl,λa W hF hS=>by
  have:=hF t _ hx;simp only[Act.eval]at this;simp[-Array.getD_eq_getD_getElem?,this,asAddr,n7g hA (hS.own _ (cC hi)) hv],k⟩
theorem RS.wA{t off ct n:Nat}(hi:H[i]? =some (b,.cells cs ct fr))(hA:fq C.P T true)(hZ:n9 C.P T n)(hx:look E t=some (ptr b off))(hv:off+n<=cs.size)(k:RS C G L H E rs vs):RS C G L H E (.cell t T::rs) (.agg (cut cs off n)::vs):=
 ⟨_,vs,rfl,λa W hF hS=>by
  have:=hF t _ hx;simp only[Act.eval]at this;simp[-Array.getD_eq_getD_getElem?,this,asAddr,nPg hA hZ (hS.own _ (cC hi)) hv],k⟩
theorem RS.n:RS C G L H E [] []:=rfl
def J7:List Value->Value
 | [v]=>v
 |vs=>.tuple vs.toArray
variable {W:World}
theorem RS.res(h:RS C G L H E rs vs)(hr:fn.results=rs.toArray){a:Act}(hF:Fits E a)(hS:St G L H W):(results fn a.tmps).run C.P W= .ok (J7 vs) W:=by
 have:=h.run a W hF hS;unfold results;rw[hr,Sem.run_bind,List.mapM_toArray];simp only[Sem.run_map];refine(congrArg (λr=>Result.andThen (Result.andThen r _) _) this).trans ?_
 match vs with
 | []=>rfl
 | [v]=>rfl
 |v::u::vs=>simp[J7]
theorem bH{e:Exit}(he:e= .ret\/e= .normal)(hr:fn.results=rs.toArray)(h:RS C G L H E rs vs)(hR:∀W,St G L H W->R (.returned (J7 vs)) W):PJ C (bodyPost C.P fn R) e E [] G L H:=λa W _ hD hF hS=>by
 have:bodyPost C.P fn R .ret a W:=⟨hD,_,h.res hr hF hS,hR W hS⟩;rcases he with rfl|rfl<;>exact this
theorem bJ{w:World}{e:Exit}(he:e= .ret\/e= .normal)(hr:fn.results=rs.toArray)(h:RS C Gh.no L H E rs vs)(hw:w∈L)(ho:Over w.heap.size H)(hv:J7 vs=v):PJ C (bodyPost C.P fn (av w v)) e E [] Gh.no L H:=bH he hr h λ_ hS=>⟨by rw[hv],hS.base hw ho⟩
/-! #### a callee that writes a block -/
def yG (w:World) (v:Value) (b:Nat) (o:Obj):Ending->World->Prop:=λe w'=>e= .returned v/\aI (· =b) w w'/\w'.heap[b]? =some o
variable {o:Obj}
theorem VH{w:World}(h:w.heap[b]? =some o):St Gh.no [w] [(b,o)] w where
 ghost:=trivial
 vlt:=λ_ h=>h.elim
 xlt:=λ_ h=>h.elim
 links:=λw' hw=>by simp at hw;subst hw;exact aI.refl _ _
 own:=λp hp=>by simp at hp;subst hp;exact h
 nodup:=λi j p q hi hj _=>by
  have h1:=(gD.1 hi).1;have h2:=(gD.1 hj).1;simp at h1 h2;omega
 apart:=λ_ _ h=>h.elim
end
section
variable {C:Cx} {Q:aG} {E:Env} {D:List Deferred} {G:Gh} {L:List World} {H:ae} {ops:Array Oper} {l:List Oper}
variable {d T ty f:Nat} {pos:String} {aD:Array Edge} {g:Option (Nat×Bool)} {x y:Operand} {xs:List Operand} {vs:List Value} {ea:Array Nat}
variable {v:Value}
theorem nH{cap:List Value}(hx:ev E x=some (.func (.func f) #[] cap.toArray))(az:dR C.P f)(hw:nq ops E g=some true)(hN:Nat.blt d C.N=true)(ha:iv E xs=some vs)(hc:∀W,St G L H W->Calls C.P f (vs++cap).toArray W (av W v))(k:OJ C ops Q l ((d,v)::E) D G L H):OJ C ops Q (⟨some d,.call ⟨.value x,xs.toArray,ea⟩,ty,pos,aD,g⟩::l) E D G L H:=
 nZ rfl hw hx ha z1 az λa W iu hD hF hS=>(hc W hS).mono (by
  rintro e W' ⟨rfl,hb⟩;exact k (a.put (some d) v) W' kO jW (hF.put _ lM) (hS.step hb))
variable {b i:Nat} {o:Obj}
theorem Oy{first cap:List Value}{o':Obj}(hi:H[i]? =some (b,o))(hx:ev E x=some (.func (.func f) first.toArray cap.toArray))(az:dR C.P f)(hw:nq ops E g=some true)(hN:Nat.blt d C.N=true)(ha:iv E xs=some vs)(hc:∀W,St G L H W->W.heap[b]? =some o->Calls C.P f (first++vs++cap).toArray W (yG W v b o'))(k:OJ C ops Q l ((d,v)::E) D G L (H.set i (b,o'))):OJ C ops Q (⟨some d,.call ⟨.value x,xs.toArray,ea⟩,ty,pos,aD,g⟩::l) E D G L H:=
 nZ rfl hw hx ha z1 az λa W iu hD hF hS=>(hc W hS (hS.own _ (cC hi))).mono (by
  rintro e W' ⟨rfl,hk,hb⟩;exact k (a.put (some d) v) W' kO jW (hF.put _ lM) (hS.put hi hk hb))
variable {H':ae}
theorem OJ.reH(e:H=H')(k:OJ C ops Q l E D G L H'):OJ C ops Q l E D G L H:=by rw[e];exact k
theorem CJ.reH{c:Code}(e:H=H')(k:CJ C c Q E D G L H'):CJ C c Q E D G L H:=by rw[e];exact k
theorem PJ.reH{e':Exit}(e:H=H')(k:PJ C Q e' E D G L H'):PJ C Q e' E D G L H:=by rw[e];exact k
variable {e:Nat}
/-! #### values -/
theorem iK{base:Option Addr}{n c:Nat}{t:Nat}(hU:C.P.underlying t=some (.slice e))(hx:ev E x=some (.slice base n c)):RV C G L H E (.call ⟨.builtin .len,#[x],#[t]⟩) (.int .i64 (n:Int)):=λd ty pos aD g a W hF _=>by
 simp[execOp,hF.ev hx,resolve,invoke,Deferred.ofValue,builtin,Builtin.len_,run_underlying hU,goInt]
end
section
variable {C:Cx} {Q:aG} {E:Env} {D:List Deferred} {G:Gh} {L:List World} {H:ae} {ops:Array Oper} {l:List Oper}
variable {d T ty f:Nat} {pos:String} {aD:Array Edge} {g:Option (Nat×Bool)} {x y:Operand} {xs:List Operand} {vs:List Value} {ea:Array Nat}
def H3 (E:Env):List (Nat×Operand)->Option (List (Nat×Value))
 | []=>some []
 |(i,x)::ps=>match ev E x,H3 E ps with
  |some v,some vs=>some ((i,v)::vs)
  |_,_=>none
theorem N5{a:Act}(h:Fits E a):∀(ps:List (Nat×Operand)) (vs:List (Nat×Value)),H3 E ps=some vs->ps.map (λ(i,x)=>(i,a.eval x))=vs
 | [],vs,e=>by cases e;rfl
 |(i,x)::ps,vs,e=>by
  simp only[H3]at e;split at e
  ·rename_i v us hv hus;cases e
   simp[h.ev hv,N5 h ps us hus]
  cases e
theorem C2(xs:List Value):∀(cs:Array Value) (off k:Nat),(xs.zipIdx k).foldl (λcs (c,j)=>cs.setIfInBounds (off+j) c) cs=setCells cs (off+k) xs:=by
 induction xs with
 |nil=>intro cs off k;rfl
 |cons x xs ih=>intro cs off k;simp only[List.zipIdx_cons,List.foldl_cons,setCells];exact ih _ off (k+1)
theorem nZo(xs cs:Array Value)(off:Nat):xs.zipIdx.foldl (λcs (c,j)=>cs.setIfInBounds (off+j) c) cs=setCells cs off xs.toList:=by
 rw[<-Array.foldl_toList,Array.toList_zipIdx];exact C2 xs.toList cs off 0
def gX:List Value->Nat->List Value->List Value
 | [],_,_=>[]
 |c::cs,0,[]=>c::cs
 |_::cs,0,x::xs=>x::gX cs 0 xs
 |c::cs,n+1,xs=>c::gX cs n xs
theorem nTh(cs:List Value)(n:Nat):gX cs n []=cs:=by
 induction cs generalizing n with
 |nil=>cases n<;>rfl
 |cons c cs ih=>cases n with
  |zero=>rfl
  |succ n=>simp[gX,ih]
theorem C3(cs:List Value)(x:Value)(xs:List Value):∀n,gX (cs.set n x) (n+1) xs=gX cs n (x::xs):=by
 induction cs with
 |nil=>intro n;cases n<;>rfl
 |cons c cs ih=>intro n;cases n with
  |zero=>rfl
  |succ n=>simp only[fj,gX];rw[ih]
theorem OO(xs:List Value):∀(cs:Array Value) (off:Nat),(setCells cs off xs).toList=gX cs.toList off xs:=by
 induction xs with
 |nil=>intro cs off;rw[nTh];rfl
 |cons x xs ih=>intro cs off;rw[setCells,ih,Array.toList_setIfInBounds,C3]
theorem C4(cs xs:Array Value)(h:cs.size=xs.size):setCells cs 0 xs.toList=xs:=by
 apply Array.ext';rw[OO];have key:∀(l r:List Value),l.length=r.length->gX l 0 r=r:=by
  intro l;induction l with
  |nil=>intro r h;simp at h;have:=ja h.symm;subst this;rfl
  |cons c l ih=>intro r h;cases r with
   |nil=>simp at h
   |cons x r=>simp only[gX];rw[ih r rB]
 exact key _ _ rB
variable {cs:Array Value} {b i:Nat} {v:Value}
theorem aZ{t n:Nat}(hi:H[i]? =some (b,.cells cs t (0,0)))(hZ:n9 C.P T n)(hw:nq ops E g=some true)(hx:ev E x=some (ptr b 0))(hy:ev E y=some v)(hv:v.cells.size=n)(hn:cs.size=n)(h1:nV v.cells.toList=true)(k:OJ C ops Q l E D G L (H.set i (b,.cells v.cells t (0,0)))):OJ C ops Q (⟨none,.store T x y,ty,pos,aD,g⟩::l) E D G L H:=
 kS hi hZ hw hx hy hv zM h1 (by rw[C4 cs v.cells zM];exact k)
def J8 (pl:Nat->Option (Nat×Nat)):List Value->List (Nat×Value)->Option (List Value)
 |cs,[]=>some cs
 |cs,(i,v)::ps=>match pl i with
  |none=>none
  |some (off,n)=>match Nat.beq v.cells.size n&&Nat.ble (off+n) cs.length with
   |true=>J8 pl (gX cs off v.cells.toList) ps
   |false=>none
theorem N6{pl:Nat->Option (Nat×Nat)}:∀{ps:List (Nat×Value)} {cs:Array Value} {ds:List Value},J8 pl cs.toList ps=some ds->Instr.fill pl cs ps=some ds.toArray
 | [],cs,ds,h=>by simp only[J8,rF]at h;subst h;rfl
 |(i,v)::ps,cs,ds,h=>by
  simp only[J8]at h;unfold Instr.fill;cases hp:pl i with
  |none=>rw[hp]at h;simp at h
  |some q=>
   obtain⟨off,n⟩:=q;rw[hp]at h;simp only at h ⊢;split at h
   ·rename_i hb;simp only[gb,Nat.beq_eq,Nat.ble_eq]at hb;have h1:v.cells.size=n:=hb.1;have h2:off+n<=cs.size:=by simpa using hb.2
    rw[if_neg jZ,nZo];exact N6 (by rw[OO];exact h)
   simp at h
def u5:Nat->List Value->List (Nat×Value)
 |_,[]=>[]
 |k,v::vs=>(k,v)::u5 (k+1) vs
def H4:List Value->List Value
 | []=>[]
 |v::vs=>v.cells.toList++H4 vs
def N7 (m:Nat):List Value->Bool
 | []=>true
 |v::vs=>Nat.beq v.cells.size m&&N7 m vs
theorem Wa(a b c xs:List Value)(h:xs.length=b.length):gX (a++(b++c)) a.length xs=a++(xs++c):=by
 induction a with
 |nil=>
  simp only[dX,lC];induction b generalizing xs with
  |nil=>simp at h;subst h;simp[nTh]
  |cons y b ih=>
   cases xs with
   |nil=>simp at h
   |cons x xs=>simp only[eY,gX];rw[ih xs rB]
 |cons y a ih=>simp only[eY,dW,gX];rw[ih]
theorem Vk(m:Nat):∀(vs:List Value) (k:Nat) (a c:List Value),N7 m vs=true->a.length=k*m->c.length=vs.length*m->J8 (λi=>some (i*m,m)) (a++c) (u5 k vs)=some (a++H4 vs)
 | [],k,a,c,_,_,hc=>by
  have:c=[]:=ja (by simpa using hc);subst this;rfl
 |v::vs,k,a,c,hs,ha,hc=>by
  simp only[N7,gb,Nat.beq_eq]at hs;simp only[dW,lI,Nat.one_mul]at hc;simp only[u5,J8];have hv:v.cells.toList.length=m:=by simpa using hs.1
  obtain⟨b,c',rfl,hb⟩:∃b c',c=b++c'/\b.length=m:=⟨c.take m,c.drop m,(Dy m c).symm,by simp;omega⟩;have ht:(Nat.beq v.cells.size m&&Nat.ble (k*m+m) (a++(b++c')).length)=true:=by
   simp only[gb,Nat.beq_eq,Nat.ble_eq,cF]at *;omega
  rw[ht];simp only;rw[<-ha,Wa a b c' _ zM];simp only[cF]at hc;have:=Vk m vs (k+1) (a++v.cells.toList) c' hs.2 (by rw[cF,lI];omega) zM;rw[i7]at this;rw[this,H4,i7]
def bC (P:Program):List Field->List (Nat×Nat)->Prop
 | [],ps=>ps=[]
 |f::fs,ps=>∃n qs,ps=(f.offset,n)::qs/\n9 P f.type n/\bC P fs qs
theorem bC.n{P:Program}:bC P [] []:=rfl
theorem bC.c{P:Program}{fi:Field}{fs:List Field}{n:Nat}{qs:List (Nat×Nat)}(h:n9 P fi.type n)(k:bC P fs qs):bC P (fi::fs) ((fi.offset,n)::qs):=⟨n,qs,rfl,h,k⟩
theorem bC.run{P:Program}(W:World):∀{fs:List Field} {ps:List (Nat×Nat)},bC P fs ps->(fs.mapM λf=>Functor.map (Prod.mk f.offset) (sizeOf f.type):Sem _).run P W= .ok ps W
 | [],ps,h=>by cases h;simp
 |f::fs,ps,h=>by
  obtain⟨n,qs,rfl,hn,h⟩:=h;simp[List.mapM_cons,hn W,bC.run W h]
variable {ps:List (Nat×Operand)}
theorem bS{fs:List Field}{z:Value}{vs:List (Nat×Value)}{pl:List (Nat×Nat)}{cs:List Value}(hU:C.P.underlying T=some (.struct fs.toArray))(hz:uY C.P T z)(hp:bC C.P fs pl)(ha:H3 E ps=some vs)(hf':J8 (pl[·]?) z.cells.toList vs=some cs):RV C G L H E (.build T ps.toArray) (.agg cs.toArray):=λd ty pos aD g a W hF _=>by
 have hf:=N6 hf';have h2:(ps.toArray).map (λ(i,x)=>(i,a.eval x))=vs.toArray:=by rw[yt,N5 hF ps vs ha]
 have h3:=hp.run W;simp[execOp,h2,Instr.build,hz W,run_underlying hU,List.mapM_toArray,h3,hf]
variable {e m:Nat}
theorem qu{n:Nat}{z:Value}{vs:List (Nat×Value)}{cs:List Value}(hU:C.P.underlying T=some (.array n e))(hz:uY C.P T z)(hp:n9 C.P e m)(ha:H3 E ps=some vs)(hf':J8 (λi=>some (i*m,m)) z.cells.toList vs=some cs):RV C G L H E (.build T ps.toArray) (.agg cs.toArray):=λd ty pos aD g a W hF _=>by
 have hf:=N6 hf';have h2:(ps.toArray).map (λ(i,x)=>(i,a.eval x))=vs.toArray:=by rw[yt,N5 hF ps vs ha]
 simp[execOp,h2,Instr.build,hz W,run_underlying hU,hp W,hf]
variable {W:World}
theorem nEd{P:Program}{a:Act}{n:Nat}{z:Value}{vs:List (Nat×Value)}(hU:P.underlying T=some (.slice e))(hp:n9 P e m)(hz:uY P e z)(ha:ps.map (λ(i,x)=>(i,a.eval x))=vs)(N8:Nat.ble (n*m) 16777216=true)(hf:Instr.fill (λi=>some (i*m,m)) ((Array.range (n*m)).map (λj=>((if n*m=0 then #[]else z.cells)[j%(if n*m=0 then #[]else z.cells).size]!))) vs=some cs):(execOp a.eval ⟨some d,.buildSlice T n ps.toArray,ty,pos,aD,g⟩).run P W= .ok (.value (.slice (some ⟨W.heap.size,0,none⟩) n n)) (W.alloc (.cells cs e (0,0))):=by
 have h2:(ps.toArray).map (λ(i,x)=>(i,a.eval x))=vs.toArray:=by rw[yt,ha]
 have Vl:¬(n*m>2^24):=by have:=aV N8;omega
 by_cases h0:n*m=0
 ·rw[if_pos h0]at hf;simp[execOp,h2,Instr.buildSlice,run_underlying hU,hp W,newRow,newObj];rw[if_neg (by simpa using Vl)];simp[h0]at hf ⊢;simp[hf,Sem.run]
 rw[if_neg h0]at hf;simp only[execOp,h2,Instr.buildSlice,Sem.run_bind,run_underlying hU,hp W,Result.andThen,if_neg Vl,if_neg h0,hz W,Sem.run_pure,hf,newRow,newObj];simp[Sem.run]
theorem n8g{α:Type}(n:Nat)(f:Nat->α):((Array.range n).map f).toList.length=n:=by simp
theorem EK{n:Nat}{z:Value}{vs:List (Nat×Value)}(hU:C.P.underlying T=some (.slice e))(hp:n9 C.P e m)(hz:uY C.P e z)(hw:nq ops E g=some true)(hN:Nat.blt d C.N=true)(ha:H3 E ps=some vs)(N8:Nat.ble (n*m) 16777216=true)(hs:vs=u5 0 (vs.map (·.2)))(hl:vs.length=n)(hm:N7 m (vs.map (·.2))=true)(k:∀(b:Nat) (w1:World),w1.heap[b]? =some (.cells (H4 (vs.map (·.2))).toArray e (0,0))->ad L b->bE H b->¬G.X b->w1.heap.size=b+1->OJ C ops Q l ((d,.slice (some ⟨b,0,none⟩) n n)::E) D G (w1::L) H):OJ C ops Q (⟨some d,.buildSlice T n ps.toArray,ty,pos,aD,g⟩::l) E D G L H:=
 pw z1 hw hN λa W hF hS=>⟨_,_,_,_,nEd hU hp hz (N5 hF ps vs ha) N8 (N6 (by
  have:=Vk m (vs.map (·.2)) 0 [] ((Array.range (n*m)).map (λj=>((if n*m=0 then #[]else z.cells)[j%(if n*m=0 then #[]else z.cells).size]!))).toList hm z1 (by rw[n8g,fl,hl]);rw[<-hs,dX,dX]at this;exact this)),(hS.step (TI W _)).snap,
  k W.heap.size _ (heap_alloc_new W _) hS.sizes hS.offNew hS.mNew z1⟩
variable {K:IntKind}
theorem qe{n:Nat}{i:Int}(hU:C.P.underlying T=some (.array n e))(hA:fq C.P e false)(hZ:n9 C.P e m)(hx:ev E x=some (.agg cs))(hy:ev E y=some (.int K i))(h0:0<=i)(h1:i<n)(hv:cs[i.toNat*m]? =some v):RV C G L H E (.index T x y) v:=λd ty pos aD g a W hF _=>by
 simp[execOp,hF.ev hx,hF.ev hy,Instr.index,asIntOf,run_underlying hU,h0,h1,hZ W,part,hA W,hv]
end
/-! #### numbers of 32 bits -/
abbrev u32 (x:BitVec 32):Value:=.int .u32 (x.toNat:Int)
theorem w32(x:BitVec 32):IntKind.u32.wrap (x.toNat:Int)=(x.toNat:Int):=by
 rw[Yw];have:=x.isLt;omega
theorem xI(x:BitVec 32):BitVec.ofInt IntKind.u32.bits (x.toNat:Int)=x:=by
 show BitVec.ofInt 32 (x.toNat:Int)=x;rw[BitVec.ofInt_natCast,BitVec.ofNat_toNat,BitVec.setWidth_eq]
section
variable {C:Cx} {E:Env} {G:Gh} {L:List World} {H:ae} {T U:Nat} {x y:Operand} {a b:BitVec 32}
theorem qi(hx:ev E x=some (u32 a))(hy:ev E y=some (u32 b)):RV C G L H E (.binOp .add T x y U) (u32 (a+b)):=
 RV.re (lv hx hy) (congrArg (Value.int .u32) (by rw[Yw,BitVec.toNat_add];omega))
theorem tS(hx:ev E x=some (u32 a))(hy:ev E y=some (u32 b)):RV C G L H E (.binOp .xor T x y U) (u32 (a^^^b)):=
 RV.re (tZ hx hy) (congrArg (Value.int .u32) (by rw[xI,xI];exact w32 (a^^^b)))
theorem N9(hx:ev E x=some (u32 a))(hy:ev E y=some (u32 b)):RV C G L H E (.binOp .and T x y U) (u32 (a&&&b)):=
 RV.re (tP hx hy) (congrArg (Value.int .u32) (by rw[xI,xI];exact w32 (a&&&b)))
theorem vd(hx:ev E x=some (u32 a))(hy:ev E y=some (u32 b)):RV C G L H E (.binOp .or T x y U) (u32 (a|||b)):=
 RV.re (u6 hx hy) (congrArg (Value.int .u32) (by rw[xI,xI];exact w32 (a|||b)))
variable {K':IntKind}
theorem yM(j:Nat)(hj:j<=32){n:Int}(hn:n=(j:Int))(hx:ev E x=some (u32 a))(hy:ev E y=some (.int K' n)):RV C G L H E (.binOp .shl T x y U) (u32 (a<<<j)):=by
 subst hn;refine RV.re (mF hx hy (Int.natCast_nonneg _)) (congrArg (Value.int .u32) ?_);have e:min (Int.toNat (j:Int)) IntKind.u32.bits=j:=by simp[IntKind.bits];omega
 rw[e,Yw,BitVec.toNat_shiftLeft,Nat.shiftLeft_eq];simp
theorem tQ(j:Nat)(hj:j<=32){n:Int}(hn:n=(j:Int))(hx:ev E x=some (u32 a))(hy:ev E y=some (.int K' n)):RV C G L H E (.binOp .shr T x y U) (u32 (a>>>j)):=by
 subst hn;refine RV.re (iG hx hy (Int.natCast_nonneg _)) (congrArg (Value.int .u32) ?_);have e:min (Int.toNat (j:Int)) IntKind.u32.bits=j:=by simp[IntKind.bits];omega
 rw[e,QZ,BitVec.toNat_ushiftRight,Nat.shiftRight_eq_div_pow];simp
variable {K:IntKind}
theorem Kj{S T':Nat}{ds:TypeDesc}{m:Int}(CM:C.P.underlying S=some ds)(hT:C.P.underlying T'=some (.int .u32))(hx:ev E x=some (.int K m)):RV C G L H E (.convert S T' x) (u32 (BitVec.ofInt 32 m)):=
 RV.re (iI CM hT hx) (congrArg (Value.int .u32) (by rw[Yw,BitVec.toNat_ofInt];omega))
end
def vc (v:BitVec 32) (n:Nat):BitVec 32:=v>>>n|||v<<<(32-n)
/-! #### cells by a function -/
def cf (n:Nat) (f:Nat->Value):Array Value:=((List.range n).map f).toArray
theorem Iq(n:Nat)(f:Nat->Value)(i:Nat)(h:i<n):(cf n f)[i]? =some (f i):=by simp[cf,h]
theorem yQ(n:Nat)(f:Nat->Value):(cf n f).size=n:=by simp[cf]
def Dm {α:Type} (f:Nat->α) (i:Nat) (v:α):Nat->α:=λj=>if j=i then v else f j
theorem Qs(n:Nat)(f:Nat->Value)(i:Nat)(v:Value):setCells (cf n f) i [v]=cf n (Dm f i v):=by
 apply Array.ext';rw[OO];simp only[cf];apply vg;intro j;have key:∀(l:List Value) (k:Nat),gX l k [v]=l.set k v:=by
  intro l;induction l with
  |nil=>intro k;cases k<;>rfl
  |cons c l ih=>intro k;cases k with
   |zero=>simp[gX,nTh]
   |succ k=>simp[gX,ih]
 rw[key];by_cases hj:j=i
 ·subst hj;by_cases hn:j<n
  ·rw[JU (by simpa using hn)];simp[hn,Dm]
  rw[tY jZ,tY jZ]
 rw[HK (λe=>hj e.symm)];by_cases hn:j<n
 ·simp[hn,Dm,hj]
 rw[tY jZ,tY jZ]
theorem OE{n:Nat}{f g:Nat->Value}(h:∀i,i<n->f i=g i):cf n f=cf n g:=by
 unfold cf;congr 1;apply List.map_congr_left;intro i hi;exact h i Jt
/-! #### SHA-256, as_ numbers -/
def afT:List (BitVec 32):=[1116352408,1899447441,3049323471,3921009573,961987163,1508970993,2453635748,2870763221,3624381080,310598401,607225278,1426881987,1925078388,2162078206,2614888103,3248222580,3835390401,4022224774,264347078,604807628,770255983,1249150122,1555081692,1996064986,2554220882,2821834349,2952996808,3210313671,3336571891,3584528711,113926993,338241895,666307205,773529912,1294757372,1396182291,1695183700,1986661051,2177026350,2456956037,2730485921,2820302411,3259730800,3345764771,3516065817,3600352804,4094571909,275423344,430227734,506948616,659060556,883997877,958139571,1322822218,1537002063,1747873779,1955562222,2024104815,2227730452,2361852424,2428436474,2756734187,3204031479,3329325298]
def kk (i:Nat):BitVec 32:=afT.getD i 0
def afU:List (BitVec 32):=[1779033703,3144134277,1013904242,2773480762,1359893119,2600822924,528734635,1541459225]
def hh (i:Nat):BitVec 32:=afU.getD i 0
def OB (m:Nat->Int) (o:Nat):BitVec 32:=BitVec.ofInt 32 (m o)<<<24|||BitVec.ofInt 32 (m (o+1))<<<16|||BitVec.ofInt 32 (m (o+2))<<<8|||BitVec.ofInt 32 (m (o+3))
def s0 (x:BitVec 32):BitVec 32:=vc x 7^^^vc x 18^^^x>>>3
def s1 (x:BitVec 32):BitVec 32:=vc x 17^^^vc x 19^^^x>>>10
def eL (m:Nat->Int):Nat->Nat->BitVec 32
 |0=>λ_=>0
 |n+1=>Dm (eL m n) n (if n<16 then OB m (4*n)else eL m n (n-16)+s0 (eL m n (n-15))+eL m n (n-7)+s1 (eL m n (n-2)))
structure S8 where
 a:BitVec 32
 b:BitVec 32
 c:BitVec 32
 d:BitVec 32
 e:BitVec 32
 f:BitVec 32
 g:BitVec 32
 h:BitVec 32
def chf (e f g:BitVec 32):BitVec 32:=(e&&&f)^^^((~~~ e)&&&g)
def maj (a b c:BitVec 32):BitVec 32:=(a&&&b)^^^(a&&&c)^^^(b&&&c)
theorem EF(e f g:BitVec 32):g^^^(e&&&(f^^^g))=chf e f g:=by
 unfold chf;apply BitVec.eq_of_getLsbD_eq;intro i hi;simp only[BitVec.getLsbD_xor,BitVec.getLsbD_and,BitVec.getLsbD_not,hi,decide_true,Bool.true_and];cases e.getLsbD i<;>cases f.getLsbD i<;>cases g.getLsbD i<;>rfl
theorem EG(a b c:BitVec 32):(a&&&b)|||(c&&&(a|||b))=maj a b c:=by
 unfold maj;apply BitVec.eq_of_getLsbD_eq;intro i hi;simp only[BitVec.getLsbD_xor,BitVec.getLsbD_and,BitVec.getLsbD_or];cases a.getLsbD i<;>cases b.getLsbD i<;>cases c.getLsbD i<;>rfl
def S8.P (s:S8) (k w:BitVec 32):BitVec 32:=s.h+(vc s.e 6^^^vc s.e 11^^^vc s.e 25)+chf s.e s.f s.g+k+w
def S8.Q (s:S8):BitVec 32:=(vc s.a 2^^^vc s.a 13^^^vc s.a 22)+maj s.a s.b s.c
def S8.step (s:S8) (k w:BitVec 32):S8:=⟨s.P k w+s.Q,s.a,s.b,s.c,s.d+s.P k w,s.e,s.f,s.g⟩
def S8.run (w:Nat->BitVec 32) (s:S8):Nat->S8
 |0=>s
 |n+1=>(S8.run w s n).step (kk n) (w n)
def S8.add (s t:S8):S8:=⟨s.a+t.a,s.b+t.b,s.c+t.c,s.d+t.d,s.e+t.e,s.f+t.f,s.g+t.g,s.h+t.h⟩
def S8.comp (s:S8) (m:Nat->Int):S8:=s.add (s.run (eL m 64) 64)
def S8.at (s:S8):Nat->BitVec 32
 |0=>s.a|1=>s.b|2=>s.c|3=>s.d|4=>s.e|5=>s.f|6=>s.g|_=>s.h
def S8.cells (s:S8):Array Value:=#[u32 s.a,u32 s.b,u32 s.c,u32 s.d,u32 s.e,u32 s.f,u32 s.g,u32 s.h]
def S8.init:S8:=⟨1779033703,3144134277,1013904242,2773480762,1359893119,2600822924,528734635,1541459225⟩
def eF (n:Nat):Nat:=(n+72)/64
def tV (n:Nat) (m:Nat->Int) (i:Nat):Int:=
 if i<n then m i else if i=n then 128 else if i<64*eF n-8 then 0 else((8*n/2^(8*(64*eF n-1-i)):Nat):Int)%256
def oP (n:Nat) (m:Nat->Int):Nat->S8
 |0=>S8.init
 |j+1=>(oP n m j).comp (λi=>tV n m (64*j+i))
def yT (s:S8) (i:Nat):Int:=((s.at (i/4)).toNat/2^(24-8*(i%4))%256:Nat)
def s4 (n:Nat) (m:Nat->Int):Nat->Int:=yT (oP n m (eF n))
theorem EL(n:Nat)(m:Nat->Int):∀i,0<=s4 n m i/\s4 n m i<256:=λi=>by unfold s4 yT;omega
theorem S8.cells_cf(s:S8):s.cells=cf 8 (λi=>u32 (s.at i)):=rfl
theorem S8.cells_at(s:S8)(i:Nat)(h:i<8):s.cells[i]? =some (u32 (s.at i)):=by rw[S8.cells_cf];exact Iq 8 _ i h
theorem Oa{α:Type}:∀(H:List α) (i:Nat) (p:α),H[i]? =some p->H.Perm (p::H.eraseIdx i)
 | [],i,p,h=>by simp at h
 |q::H,0,p,h=>by simp at h;subst h;simp
 |q::H,i+1,p,h=>by
  simp only[yS]at h;simp only[rJ];exact((Oa H i p h).cons q).trans (List.Perm.swap _ _ _)
theorem YG{α:Type}:∀(H:List α) (i:Nat) (q:α),i<H.length->(H.set i q).Perm (q::H.eraseIdx i)
 | [],i,q,h=>by simp at h
 |r::H,0,q,_=>by simp
 |r::H,i+1,q,h=>by
  simp only[fj,rJ];exact((YG H i q rB).cons r).trans (List.Perm.swap _ _ _)
section
variable {G:Gh} {L:List World} {H:ae} {W:World}
variable {b i:Nat} {o:Obj}
theorem St.renew(h:St G L H W)(o':Obj)(hi:H[i]? =some (b,o))(ha:ad L b):St G L (H.set i (W.heap.size,o')) (W.alloc o'):=by
 have tw:=(gD.1 hi).1;have hp:H.Perm ((b,o)::H.eraseIdx i):=Oa H i _ hi;have h1:=(h.perm hp).drop ha;exact(h1.alloc o').perm (YG H i _ tw).symm
theorem St.dropAt(h:St G L H W)(hi:H[i]? =some (b,o))(ha:ad L b):St G L (H.eraseIdx i) W:=by
 have tw:=(gD.1 hi).1;have hp:H.Perm ((b,o)::H.eraseIdx i):=Oa H i _ hi;exact(h.perm hp).drop ha
end
def Rd (C:Cx) (G:Gh) (L:List World) (H:ae) (size n:Nat) (v:Value) (news:List Value):Prop:=
 ∀W,St G L H W->(Builtin.firstCells size n v).run C.P W= .ok news.toArray W
section
variable {C:Cx} {Q:aG} {E:Env} {D:List Deferred} {G:Gh} {L:List World} {H:ae} {ops:Array Oper} {l:List Oper}
variable {d T ty f:Nat} {pos:String} {aD:Array Edge} {g:Option (Nat×Bool)} {x y:Operand} {xs:List Operand} {vs:List Value} {ea:Array Nat}
variable {cs:Array Value} {b k size:Nat} {fr:Nat×Nat} {W:World}
theorem YH{P:Program}{off n c t:Nat}(h:W.heap[b]? =some (.cells cs t fr))(hn:off+n*size<=cs.size):(Builtin.firstCells size n (.slice (some ⟨b,off,none⟩) k c)).run P W= .ok (cut cs off (n*size)) W:=by
 simp only[Builtin.firstCells];rw[nqg h hn,nGh]
variable {news:List Value} {i:Nat}
theorem Rd.own{n off c t:Nat}(hi:H[i]? =some (b,.cells cs t fr))(hn:off+n*size<=cs.size)(he:(cs.toList.drop off).take (n*size)=news):Rd C G L H size n (.slice (some ⟨b,off,none⟩) k c) news:=λW hS=>by rw[YH (hS.own _ (cC hi)) hn];unfold cut;rw[he]
variable {w1:World}
theorem Rd.old{n off c t:Nat}(hm:w1∈L)(hb:w1.heap[b]? =some (.cells cs t fr))(hG:¬G.X b)(hO:bE H b)(hn:off+n*size<=cs.size)(he:(cs.toList.drop off).take (n*size)=news):Rd C G L H size n (.slice (some ⟨b,off,none⟩) k c) news:=λW hS=>by rw[YH (hS.old hm hb hG hO) hn];unfold cut;rw[he]
theorem Rd.str{s:ByteArray}:Rd C G L H 1 s.size (.string s) (byteCells s):=λW _=>firstCells_string s W
structure jJ (C:Cx) (G:Gh) (L:List World) (H:ae) (size tx:Nat) (x:Value) (n:Nat) (news:List Value):Prop where
 kind:(∃e',C.P.underlying tx=some (.slice e'))\/C.P.underlying tx=some .string
 len:∀w':World,(Builtin.lenOf x).run C.P w'= .ok n w'
 rd:Rd C G L H size n x news
 newsLen:news.length=n*size
 one:∀u∈news,u.oneCell'=true
variable {tx:Nat} {v:Value}
theorem jJ.src{n:Nat}(h:jJ C G L H size tx v n news)(hS:St G L H W):Src C.P size tx v n news W:=
 ⟨h.kind,h.len,h.rd W hS,h.rd W.drew (hS.step (FE W _)),h.newsLen,h.one⟩
variable {a:Option Addr}
theorem jJ.sl{e' n c:Nat}(hU:C.P.underlying tx=some (.slice e'))(hr:Rd C G L H size n (.slice a n c) news)(hl:news.length=n*size)(h1:∀u∈news,u.oneCell'=true):jJ C G L H size tx (.slice a n c) n news:=⟨.inl ⟨e',hU⟩,λ_=>rfl,hr,hl,h1⟩
theorem nae(b:Nat):∀(news:List Value) (o:Nat) (W:World) (cs:Array Value) (t:Nat),W.heap[b]? =some (.cells cs t (0,0))->aI (· =b) W (W.setCells b o news)/\(W.setCells b o news).heap[b]? =some (.cells (setCells cs o news) t (0,0))
 | [],o,W,cs,t,h=>⟨aI.refl _ _,h⟩
 |v::vs,o,W,cs,t,h=>by
  obtain⟨h1,h2⟩:=nae b vs (o+1) (W.setCell ⟨b,o,none⟩ v) _ t (nah v h);exact⟨(nCg W b o v).trans h1,h2⟩
variable {sp:List Value} {e m:Nat} {sv:Value}
theorem QC{n len cap t:Nat}{ti:TypeInfo}{z:Value}{ys:List Value}(hi:H[i]? =some (b,.cells (ys++sp).toArray e (0,0)))(hU:C.P.underlying t=some (.slice e))(p4:C.P.info? e=some ti)(hz:ti.zero=some z)(hm:ti.size=m)(Al:z.cells.size=m)(hw:nq ops E g=some true)(hN:Nat.blt d C.N=true)(hx:ev E x=some (.slice (some ⟨b,0,none⟩) len cap))(hy:ev E y=some sv)(hs:jJ C G L H m tx sv n news)(hlen:ys.length=len*m)(zu:sp.length=(cap-len)*m)(ZO:len<=cap)(ha:ad L b)(h63:len+n<=9223372036854775807)(ou:(len+n)*ti.bytes<=140737488355328)(k:∀(b' aT:Nat) (bK:List Value),ad L b'->len+n<=aT->bK.length=(aT-(len+n))*m->OJ C ops Q l ((d,.slice (some ⟨b',0,none⟩) (len+n) aT)::E) D G L (H.set i (b',.cells (ys++news++bK).toArray e (0,0)))):OJ C ops Q (⟨some d,.call ⟨.builtin .append,#[x,y],#[t,tx]⟩,ty,pos,aD,g⟩::l) E D G L H:=
 pw z1 hw hN λa W hF hS=>by
  subst hm;have sX:=hs.src hS;have hb:=hS.own _ (cC hi);have hex:∀{v W'},(Builtin.append_ #[t,tx] ty #[.slice (some ⟨b,0,none⟩) len cap,sv]).run C.P W= .ok v W'->(execOp a.eval ⟨some d,.call ⟨.builtin .append,#[x,y],#[t,tx]⟩,ty,pos,aD,g⟩).run C.P W= .ok (.value v) W':=by
   intro v W' hr;simp[execOp,hF.ev hx,hF.ev hy,resolve,invoke,Deferred.ofValue,builtin,hr]
  have LW:=hs.newsLen;by_cases iY:len+n<=cap
  ·have hle:(len+n)*ti.size<=cap*ti.size:=uF _ iY;have jy:(ys++sp).toArray.size=cap*ti.size:=by
    simp only[rH,cF,hlen,zu];rw[<-lI];congr 1;omega
   rw[lI]at hle;have hr:=run_append_room_src (P:=C.P) W t tx ty e ti hU p4 b 0 len cap sv n news sX iY
    (λj hj=>by rw[Dz hb];simp only[i6];rw[HX zM];rfl)
    (λj hj=>by simp[World.frozen?,hb])
   obtain⟨h1,h2⟩:=nae b news (0+len*ti.size) W _ _ hb;have ki:(sp.drop (n*ti.size)).length=(cap-(len+n))*ti.size:=by
    rw[Az,zu,<-Nat.sub_mul];congr 1;omega
   have hc:setCells (ys++sp).toArray (0+len*ti.size) news=(ys++news++sp.drop (n*ti.size)).toArray:=by
    exact zRj
   rw[hc]at h2;exact⟨_,_,_,_,hex hr,hS.put hi h1 h2,k b cap _ ha iY ki⟩
  have hold:(Builtin.firstCells ti.size len (.slice (some ⟨b,0,none⟩) len cap)).run C.P W.drew= .ok ys.toArray W.drew:=by
   exact zfk
  have hr:=run_append_grow_src (P:=C.P) W t tx ty e ti z hU p4 hz (some ⟨b,0,none⟩) len cap ys hold sv n news sX zM zM (growslice_fits zM ou);have hg:=grownCap_ge W (len+n) cap e;have fZ:=(hS.step (FE W (W.drawn+1))).renew (.cells ((ys++news).toArray++Builtin.zeroCells z.cells (grownCap W (len+n) cap e-(len+n))) e (0,0)) hi ha;have IZ:(Builtin.zeroCells z.cells (grownCap W (len+n) cap e-(len+n))).toList.length=(grownCap W (len+n) cap e-(len+n))*ti.size:=by
   simp[Builtin.zeroCells,Al]
  have hc:(ys++news).toArray++Builtin.zeroCells z.cells (grownCap W (len+n) cap e-(len+n))=(ys++news++(Builtin.zeroCells z.cells (grownCap W (len+n) cap e-(len+n))).toList).toArray:=by
   apply Array.ext';simp
  rw[hc]at fZ hr;exact⟨_,_,_,_,hex hr,fZ,k W.heap.size _ _ hS.sizes hg IZ⟩
def BE (E:Env):Option Operand->Nat->Nat->Prop
 |none,d,l=>l=d
 |some o,_,l=>∃K i,ev E o=some (.int K i)/\i=(l:Int)
theorem BE.val{a:Act}(hF:Fits E a):∀{lo:Option Operand} {d' l:Nat},BE E lo d' l->(lo.map a.eval=none/\l=d')\/∃K,lo.map a.eval=some (.int K (l:Int))
 |none,_,_,h=>.inl ⟨rfl,h⟩
 |some o,_,_,h=>by obtain⟨K,i,h,rfl⟩:=h;exact .inr ⟨K,by simp[hF.ev h]⟩
variable {hi:Option Operand}
theorem nLk{P:Program}{a:Act}(hF:Fits E a)(s:Bool){n c l h:Nat}{lo:Option Operand}(hl:BE E lo 0 l)(hh:BE E hi n h)(h1:l<=h)(h2:h<=c):(Instr.sliceBounds s n c (lo.map a.eval) (hi.map a.eval) none).run P W= .ok (l,h,c) W:=by
 rcases hl.val hF with⟨e1,e2⟩|⟨K,e1⟩<;>rcases hh.val hF with⟨f1,f2⟩|⟨K',f1⟩<;>rw[e1,f1]
 ·subst e2;subst f2;simp[Instr.sliceBounds]
 ·subst e2;simp[Instr.sliceBounds,Instr.sliceBound,asIntOf,h2]
 ·subst f2;simp[Instr.sliceBounds,Instr.sliceBound,asIntOf,h1]
 simp[Instr.sliceBounds,Instr.sliceBound,asIntOf,h1,h2]
theorem il{off n c l h off':Nat}{lo:Option Operand}(hU:C.P.underlying T=some (.slice e))(hZ:n9 C.P e m)(hx:ev E x=some (.slice (some ⟨b,off,none⟩) n c))(hl:BE E lo 0 l)(hh:BE E hi n h)(h1:l<=h)(h2:h<=c)(ho:off'=if c=l then off else off+l*m):RV C G L H E (.slice T x lo hi none) (.slice (some ⟨b,off',none⟩) (h-l) (c-l)):=λd ty pos aD g a W hF _=>by
 subst ho;have:=nLk (P:=C.P) (W:=W) hF true hl hh h1 h2;simp[execOp,hF.ev hx,Instr.sliceAt,Instr.slice,run_underlying hU,this,hZ W,JY];split<;>rfl
theorem yP{off n l h off':Nat}{lo:Option Operand}(hU:C.P.underlying T=some (.array n e))(hZ:n9 C.P e m)(hx:ev E x=some (ptr b off))(hl:BE E lo 0 l)(hh:BE E hi n h)(h1:l<=h)(h2:h<=n)(ho:off'=if n=l then off else off+l*m):RV C G L H E (.slice T x lo hi none) (.slice (some ⟨b,off',none⟩) (h-l) (n-l)):=λd ty pos aD g a W hF _=>by
 subst ho;have:=nLk (P:=C.P) (W:=W) hF false hl hh h1 h2;simp[execOp,hF.ev hx,Instr.sliceAt,run_underlying hU,Instr.sureAddr,this,hZ W,JY];split<;>rfl
theorem gq{off n c h:Nat}(hU:C.P.underlying T=some (.slice e))(hZ:n9 C.P e m)(hx:ev E x=some (.slice (some ⟨b,off,none⟩) n c))(hh:BE E hi n h)(h2:h<=c):RV C G L H E (.slice T x none hi none) (.slice (some ⟨b,off,none⟩) h c):=il (l:=0) hU hZ hx rfl hh (cZ _) h2 (by split<;>omega)
theorem kT{off n h:Nat}(hU:C.P.underlying T=some (.array n e))(hZ:n9 C.P e m)(hx:ev E x=some (ptr b off))(hh:BE E hi n h)(h2:h<=n):RV C G L H E (.slice T x none hi none) (.slice (some ⟨b,off,none⟩) h n):=yP (l:=0) hU hZ hx rfl hh (cZ _) h2 (by split<;>omega)
variable {us:List Value}
theorem Ob{fn:Fn}{fs xs:List Operand}(hf:iv E fs=some us)(ha:iv E xs=some vs):RV C G L H E (.makeFunc fn fs.toArray xs.toArray) (.func fn us.toArray vs.toArray):=λd ty pos aD g a W hF _=>by
 have h1:(fs.toArray).map a.eval=us.toArray:=by rw[yt,HN hF fs us hf]
 have h2:(xs.toArray).map a.eval=vs.toArray:=by rw[yt,HN hF xs vs ha]
 simp[execOp,Instr.makeFunc,h1,h2]
theorem CN{a:Addr}(hx:ev E x=some (.pointer (some a))):RV C G L H E (.nilCheck x) (.pointer (some a)):=λd ty pos aD g a' W hF _=>by
 simp[execOp,hF.ev hx]
theorem tR{m:Int}(hx:ev E x=some (.int .i64 m))(h0: -9223372036854775807<=m)(h1:m<=9223372036854775807):RV C G L H E (.unOp .neg T x) (.int .i64 (-m)):=λd ty pos aD g a W hF _=>by
 simp[execOp,hF.ev hx,Op.unary,Op.intArith,Io (n:= -m) zM zM]
theorem NG{base:Option Addr}{n c t:Nat}(hU:C.P.underlying t=some (.slice e))(hx:ev E x=some (.slice base n c)):RV C G L H E (.call ⟨.builtin .cap,#[x],#[t]⟩) (.int .i64 (c:Int)):=λd ty pos aD g a W hF _=>by
 simp[execOp,hF.ev hx,resolve,invoke,Deferred.ofValue,builtin,Builtin.cap_,run_underlying hU,goInt]
theorem VN{t off n len cap t':Nat}(hi:H[i]? =some (b,.cells cs t' (0,0)))(hU:C.P.underlying t=some (.slice e))(hZ:n9 C.P e m)(hw:nq ops E g=some true)(hN:Nat.blt d C.N=true)(hx:ev E x=some (.slice (some ⟨b,off,none⟩) len cap))(hy:ev E y=some sv)(hlen:∀w':World,(Builtin.lenOf sv).run C.P w'= .ok k w')(hn:n=min k len)(hs:Rd C G L H m n sv news)(hl:off+news.length<=cs.size)(h1:nV news=true)(kk:OJ C ops Q l ((d,.int .i64 (n:Int))::E) D G L (H.set i (b,.cells (setCells cs off news) t' (0,0)))):OJ C ops Q (⟨some d,.call ⟨.builtin .copy,#[x,y],#[t,tx]⟩,ty,pos,aD,g⟩::l) E D G L H:=
 pw z1 hw hN λa W hF hS=>by
  have hb:=hS.own _ (cC hi);obtain⟨W',hr,hk,eI⟩:=Yy (P:=C.P) (off:=off) news 0 cs W hb zM h1;refine⟨_,W',_,_,?_,hS.put hi hk eI,kk⟩;have uS:=hs W hS;subst hn;simp[execOp,hF.ev hx,hF.ev hy,resolve,invoke,Deferred.ofValue,builtin,Builtin.copy_,run_underlying hU,hlen W,hZ W,Nat.min_def]at uS ⊢;split<;>simp_all[goInt]
theorem Qz{t ln cp:Nat}{kl kc:IntKind}{ti:TypeInfo}{z:Value}(hU:C.P.underlying t=some (.slice e))(p4:C.P.info? e=some ti)(hz:ti.zero=some z)(h1:z.cells=#[z])(hm:ti.size=1)(hw:nq ops E g=some true)(hN:Nat.blt d C.N=true)(hx:ev E x=some (.int kl (ln:Int)))(hy:ev E y=some (.int kc (cp:Int)))(ZO:ln<=cp)(hb:ti.bytes*cp<=281474976710656)(h63:cp<=9223372036854775807)(k:∀(b:Nat),ad L b->bE H b->OJ C ops Q l ((d,.slice (some ⟨b,0,none⟩) ln cp)::E) D G L ((b,.cells (cf cp (λ_=>z)) e (0,0))::H)):OJ C ops Q (⟨some d,.makeSlice t x y,ty,pos,aD,g⟩::l) E D G L H:=
 pw z1 hw hN λa W hF hS=>by
  have hr:=run_make (P:=C.P) W t e ti z hU p4 hz kl kc ln cp (Int.natCast_nonneg _) zM (by
   have:((ti.bytes*cp:Nat):Int)<=281474976710656:=by omega
   rwa[Int.natCast_mul]at this) zM
  simp only[wE,hm,tX]at hr;have hc:madeCells z.cells cp=cf cp (λ_=>z):=by
   apply Array.ext';rw[h1];simp[madeCells,cf,Nat.mod_one]
  rw[hc]at hr;exact⟨_,_,_,_,by simp[execOp,hF.ev hx,hF.ev hy,hr],hS.alloc _,k W.heap.size hS.sizes hS.offNew⟩
variable {ps:List (Nat×Operand)}
theorem k9{n:Nat}{z:Value}{vs:List (Nat×Value)}(hU:C.P.underlying T=some (.slice e))(hp:n9 C.P e m)(hz:uY C.P e z)(hw:nq ops E g=some true)(hN:Nat.blt d C.N=true)(ha:H3 E ps=some vs)(N8:Nat.ble (n*m) 16777216=true)(hs:vs=u5 0 (vs.map (·.2)))(hl:vs.length=n)(hm:N7 m (vs.map (·.2))=true)(k:∀(b:Nat),ad L b->bE H b->OJ C ops Q l ((d,.slice (some ⟨b,0,none⟩) n n)::E) D G L ((b,.cells (H4 (vs.map λp:Nat×Value=>p.2)++[]).toArray e (0,0))::H)):OJ C ops Q (⟨some d,.buildSlice T n ps.toArray,ty,pos,aD,g⟩::l) E D G L H:=
 pw z1 hw hN λa W hF hS=>⟨_,_,_,_,nEd hU hp hz (N5 hF ps vs ha) N8 (N6 (by
  have:=Vk m (vs.map (·.2)) 0 [] ((Array.range (n*m)).map (λj=>((if n*m=0 then #[]else z.cells)[j%(if n*m=0 then #[]else z.cells).size]!))).toList hm z1 (by rw[n8g,fl,hl]);rw[<-hs,dX,dX]at this;exact this)),hS.alloc _,by have:=k W.heap.size hS.sizes hS.offNew;rw[dE]at this;exact this⟩
variable {o:Obj}
theorem OJ.dropAt(hi:H[i]? =some (b,o))(ha:ad L b)(k:OJ C ops Q l E D G L (H.eraseIdx i)):OJ C ops Q l E D G L H:=λa W hN hD hF hS=>k a W hN hD hF (hS.dropAt hi ha)
theorem CJ.dropAt{c:Code}(hi:H[i]? =some (b,o))(ha:ad L b)(k:CJ C c Q E D G L (H.eraseIdx i)):CJ C c Q E D G L H:=λa W hN hD hF hS=>k a W hN hD hF (hS.dropAt hi ha)
theorem PJ.dropAt{e':Exit}(hi:H[i]? =some (b,o))(ha:ad L b)(k:PJ C Q e' E D G L (H.eraseIdx i)):PJ C Q e' E D G L H:=λa W hN hD hF hS=>k a W hN hD hF (hS.dropAt hi ha)
end
end Px
