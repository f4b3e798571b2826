/- Memory, operations, iterators, slices, maps. No condition beyond those stated. -/
import Derived.Test.YtpgobjebhigaoaaGreatDoorXa
import Derived.OrdersIn
import Derived.Deep.AppendSrc
import Derived.Laws.MakeOwn
set_option linter.unusedSimpArgs false
set_option linter.unusedVariables false
set_option linter.unusedSectionVars false
set_option linter.unnecessarySimpa false
set_option maxRecDepth 20000
set_option maxHeartbeats 8000000
namespace Px
open Go Go.RowKit
def X (C:Cx) (ops:Array Oper) (G:Gh) (L:List World) (H:ab) (E:Env) (Pre:World->Prop) (o:Oper) (Φ:Value->World->Prop):Prop:=
 ∀(a:Act) (W:World) (K:Act->World->Prop) (Q:aC),a.tmps.size=C.N->Fits E a->St G L H W->Pre W->
  (∀v W',Below W.heap.size W W'->Φ v W'->K (a.put o.dst v) W')->
  if Region.wanted o (yielded ops a.tmps)then o.wpIn (FW C.r) 0 C.P a W K Q else K (a.put o.dst undef) W
section
variable {C:Cx} {G:Gh} {L:List World} {H:ab} {E:Env} {Pre:World->Prop} {ops:Array Oper} {Φ:Value->World->Prop}
variable {d ty:Nat} {op:Op} {pos:String} {aA:Array Edge} {g:Option (Nat×Bool)}
variable {cs:Array Value} {H':ab} {K K':IntKind} {ps:List (Nat×Operand)} {D:List Deferred} {ch ds:List Nat} {rs:List ResultVar} {news sp us vs:List Value} {T b e i j k m size tx:Nat} {fr:Nat×Nat} {o:Obj} {a:Option Addr} {hi:Option Operand} {sv v:Value} {W w1:World}
theorem X.val(hnd:L1 op=true)(hw:np ops E g=some true)(hr:RV C G L H E op v)(hΦ:∀W,Pre W->Φ v W):X C ops G L H E Pre ⟨some d,op,ty,pos,aA,g⟩ Φ:=by
 intro a W K Q _ hF hS hP hk;rw[if_pos (tD hF hw)];refine⟨λ_ _=>trivial,?_⟩;rw[Oper.semAt_eq _ _ _ (Bs hnd),hr d ty pos aA g a W hF hS,Oper.uponIn_value];exact hk v W (Below.refl _ _) (hΦ W hP)
theorem X.off(hw:np ops E g=some false)(hΦ:∀W,Pre W->Φ undef W):X C ops G L H E Pre ⟨some d,op,ty,pos,aA,g⟩ Φ:=by
 intro a W K Q _ hF hS hP hk;rw[if_neg (by rw[tD hF hw];simp)];exact hk undef W (Below.refl _ _) (hΦ W hP)
variable {f:Nat} {xs:List Operand} {vs:List Value} {dJ:Array Nat}
theorem X.call{R:World->Ending->World->Prop}(az:dP C.P f)(hw:np ops E g=some true)(ha:gR E xs=some vs)(hc:∀W,St G L H W->Pre W->Calls C.P f vs.toArray W (R W))(hR:∀W e W',R W e W'->Pre W->∃v,e= .returned v/\Below W.heap.size W W'/\Φ v W'):X C ops G L H E Pre ⟨some d,.call ⟨.value (.func f),xs.toArray,dJ⟩,ty,pos,aA,g⟩ Φ:=by
 intro a W K Q _ hF hS hP hk;rw[if_pos (tD hF hw)];refine⟨λ_ _=>trivial,?_⟩;have hr:(execOp a.eval ⟨some d,.call ⟨.value (.func f),xs.toArray,dJ⟩,ty,pos,aA,g⟩).run C.P W= .ok (.enter f vs.toArray) W:=by
  have h2:(xs.toArray).map a.eval=vs.toArray:=by rw[wK,Gb hF xs vs ha]
  simp only[execOp,resolve,Act.eval,Deferred.ofValue,h2];simp[invoke,az _ W]
 rw[Oper.semAt_eq _ _ _ zX,hr,Oper.uponIn_enter];refine⟨by simp,Bp.2 ((hc W hS hP).mono ?_)⟩;intro e W' h;obtain⟨v,rfl,hb,hv⟩:=hR W e W' h hP;exact hk v W' hb hv
theorem nf(az:dP C.P f)(hw:np ops E g=some true)(ha:gR E xs=some vs)(hc:∀W,St G L H W->Pre W->Calls C.P f vs.toArray W (ay W v))(hΦ:∀W,Φ v W):X C ops G L H E Pre ⟨some d,.call ⟨.value (.func f),xs.toArray,dJ⟩,ty,pos,aA,g⟩ Φ:=
 X.call az hw ha hc λ_ _ W' h _=>⟨v,h.1,h.2,hΦ W'⟩
end
theorem Ge(A B:Env)(t:Nat):look (A++B) t=(look A t).or (look B t):=by
 induction A with
 |nil=>simp[look]
 |cons p A ih=>
  obtain⟨k,v⟩:=p;simp only[eP,look];cases Nat.beq k t<;>simp[ih]
theorem Oi{A B:Env}{a:Act}(h1:Fits A a)(h2:Fits B a):Fits (A++B) a:=by
 intro t v hv;rw[Ge]at hv;cases h:look A t with
 |some u=>simp[h]at hv;subst hv;exact h1 t u h
 |none=>simp[h]at hv;exact h2 t v hv
def nKm (o:Oper):List Nat:=(o.after.toList.filter (λe=>Region.binds .any e)).map (·.on)
def Oj (acc:List Nat):List Nat->Nat
 | []=>0
 |j::js=>(1<<<j)|||acc.getD j 0|||Oj acc js
def IC:List Oper->List Nat->List Nat
 | [],acc=>acc
 |o::l,acc=>IC l (acc++[Oj acc (nKm o)])
theorem nri(acc:List Nat)(b:Nat):∀js,(Oj acc js).testBit b=true->∃d∈js,d=b\/(acc.getD d 0).testBit b=true
 | [],h=>by simp[Oj]at h
 |j::js,h=>by
  simp only[Oj,Nat.testBit_or,Bool.or_eq_true]at h;rcases h with(h|h)|h
  ·refine⟨j,by simp,.inl ?_⟩;rw[Nat.testBit_shiftLeft]at h;simp only[fm,decide_eq_true_eq]at h;obtain⟨h1,h2⟩:=h;have:b-j=0:=by
    rcases Nat.eq_zero_or_pos (b-j)with h0|h0
    ·exact h0
    rw[Nat.testBit_one_eq_true_iff_self_eq_zero]at h2;omega
   omega
  ·exact⟨j,by simp,.inr h⟩
  obtain⟨d,hd,h⟩:=nri acc b js h;exact⟨d,by simp[hd],h⟩
theorem nJf(ops:List Oper)(D:Nat->Prop)(hD:∀(k:Nat) (o':Oper),ops[k]? =some o'->D k->∀e∈o'.after,Region.binds .any e=true->D e.on)(hlt:∀(i:Nat) (o:Oper),ops[i]? =some o->∀e∈o.after,Region.binds .any e=true->e.on<i):∀(l:List Oper) (acc:List Nat),ops.drop acc.length=l->(∀(k:Nat) (o:Oper),ops[k]? =some o->k<acc.length->(∀e∈o.after,Region.binds .any e=true->D e.on)->∀j,(acc.getD k 0).testBit j=true->D j)->∀(k:Nat) (o:Oper),ops[k]? =some o->(∀e∈o.after,Region.binds .any e=true->D e.on)->∀j,((IC l acc).getD k 0).testBit j=true->D j
 | [],acc,hl,hP=>by
  intro k o ho hr j hj;refine hP k o ho ?_ hr j hj;have h1:=(gi.1 ho).1;have h2:(ops.drop acc.length).length=0:=by rw[hl];rfl
  rw[yT]at h2;omega
 |o::l,acc,hl,hP=>by
  have ho0:ops[acc.length]? =some o:=by
   have:(ops.drop acc.length)[0]? =some o:=by rw[hl];rfl
   rw[uL]at this;simpa using this
  refine nJf ops D hD hlt l (acc++[Oj acc (nKm o)]) ?_ ?_
  ·rw[cK,<-List.drop_drop,hl];rfl
  intro k o' iG hk hr j hj;simp only[cK,HV]at hk;by_cases e:k=acc.length
  ·subst e;rw[ho0]at iG;cases iG;rw[List.getD_eq_getElem?_getD,B6 (ao _)]at hj;simp only[Nat.sub_self,GS,Option.getD_some]at hj;obtain⟨d,hd,h⟩:=nri acc j _ hj;obtain⟨e',Mc,rfl⟩:=bW.1 hd;rw[sP]at Mc;have hdd:=hr e' (by simpa using Mc.1) Mc.2;have eU:=hlt _ _ ho0 e' (by simpa using Mc.1) Mc.2;rcases h with rfl|h
   ·exact hdd
   have hlen:=(gi.1 ho0).1;obtain⟨o2,cX⟩:∃o2,ops[e'.on]? =some o2:=⟨ops[e'.on]'zJ,gB _⟩;exact hP e'.on o2 cX eU (hD e'.on o2 cX hdd) j h
  rw[List.getD_eq_getElem?_getD,vZ zJ,<-List.getD_eq_getElem?_getD]at hj;exact hP k o' iG zJ hr j hj
def Gf (ops:Array Oper) (nA:Nat) (ds:List (List Nat)) (E:Env):Bool:=
 Nat.beq ds.length nA&&Nat.ble nA ops.size&&
 (List.range ops.size).all λi=>
  match ops[i]? with
  |none=>true
  |some o=>
   (o.after.toList.all λe=> !Region.binds .any e||Nat.blt e.on i)&&
   (if Nat.blt i nA then
    (match ds[i]? with|some js=>js.all (λj=>o.after.toList.any λe=>Nat.beq e.on j&&Region.binds .any e)|none=>true)&&
    (match o.dst with
     |none=>false
     |some d=>(look E d).isNone&&(List.range nA).all λj=>Nat.beq i j||match(ops[j]?).bind (·.dst)with|some d'=> !Nat.beq d d'|none=>true)
    else(List.range i).all λj=>((IC ops.toList []).getD i 0).testBit j)
theorem nEg{p q:Nat->Bool}:∀(l:List Nat),(∀k∈l,q k=true->p k=true)->l.countP q<=l.countP p
 | [],_=>ao _
 |k::l,h=>by
  have ih:=nEg l λj hj=>h j (by simp[hj]);simp only[List.countP_cons];cases hq:q k with
  |false=>simp;omega
  |true=>simp[h k zX hq];omega
theorem nag{p q:Nat->Bool}:∀(l:List Nat),(∀k∈l,q k=true->p k=true)->(∃k∈l,p k=true/\q k=false)->l.countP q<l.countP p
 | [],_,h=>by obtain⟨k,hk,_⟩:=h;cases hk
 |k::l,h,hx=>by
  have SE:=nEg (p:=p) (q:=q) l λj hj=>h j (by simp[hj]);simp only[List.countP_cons];obtain⟨j,hj,hp,hq⟩:=hx;rcases cI.1 hj with rfl|hj
  ·simp[hp,hq];omega
  have ih:=nag l (λj hj=>h j (by simp[hj])) ⟨j,hj,hp,hq⟩;cases V6:q k with
  |false=>simp;omega
  |true=>simp[h k zX V6];omega
def wM (N:Nat):List Oper->Bool
 | []=>true
 |o::l=>(match o.dst with|some d=>Nat.blt d N|none=>true)&&wM N l
theorem nGg{N:Nat}:∀{l:List Oper},wM N l=true->∀o∈l,∀d,o.dst=some d->d<N
 | [],_,o,ho=>by cases ho
 |o'::l,h,o,ho=>by
  simp only[wM,fm]at h;rcases cI.1 ho with rfl|ho
  ·intro d hd;have:=h.1;rw[hd]at this;exact nV this
  exact nGg h.2 o ho
abbrev OS:=List Nat×Option Value
abbrev OS.det (ds:List Nat) (v:Value):OS:=(ds,some v)
abbrev OS.deps (s:OS):List Nat:=s.1
/-! ### a region that draws its order: a chain of operations among others whose values are known -/
abbrev Sp:=List (List Nat×Option Value)
def Gg:List Nat->Nat->Nat
 | [],_=>0
 |c::ch,j=>match Nat.beq c j with|true=>0|false=>Gg ch j+1
def valOf (sp:Sp) (ch:List Nat) (cv:List Value) (j:Nat):Value:=
 match sp[j]? with
 |some (_,some u)=>u
 |_=>(cv[Gg ch j]?).getD undef
def dh (ops:Array Oper) (sp:Sp) (ch:List Nat) (cv:List Value):List Nat->Env
 | []=>[]
 |j::js=>match(ops[j]?).bind (·.dst)with
  |some d=>(d,valOf sp ch cv j)::dh ops sp ch cv js
  |none=>dh ops sp ch cv js
theorem Md:∀(ch:List Nat) (k c:Nat),ch[k]? =some c->ch.Nodup->Gg ch c=k
 | [],k,c,h,_=>by simp at h
 |d::ch,0,c,h,_=>by simp at h;subst h;simp[Gg,wJ]
 |d::ch,k+1,c,h,hn=>by
  simp only[xm]at h;obtain⟨h1,h2⟩:=List.nodup_cons.1 hn;have dn:¬d=c:=λe=>h1 (e▸cb h);simp only[Gg,wI dn];rw[Md ch k c h h2]
def ID (ops:List Oper):List Nat->Bool
 |c::c'::ch=>((IC ops []).getD c' 0).testBit c&&ID ops (c'::ch)
 |_=>true
def By:List Nat->Bool
 | []=>true
 |c::ch=>ch.all (λj=> !Nat.beq c j)&&By ch
theorem n0l:∀{ch:List Nat},By ch=true->ch.Nodup
 | [],_=>List.nodup_nil
 |c::ch,h=>by
  simp only[By,fm,o4]at h;refine List.nodup_cons.2 ⟨λhm=>?_,n0l h.2⟩;have:=h.1 c hm;simp[wJ]at this
def ph (ch:List Nat):Nat->Sp->Bool
 |_,[]=>true
 |i,(_,none)::sp=>ch.any (λc=>Nat.beq c i)&&ph ch (i+1) sp
 |i,(_,some _)::sp=>ch.all (λc=> !Nat.beq c i)&&ph ch (i+1) sp
theorem Ol(ch:List Nat):∀(sp:Sp) (i:Nat),ph ch i sp=true->∀j ds,(sp[j]? =some (ds,none)->i+j∈ch)/\(∀u,sp[j]? =some (ds,some u)->i+j∉ch)
 | [],i,_,j,ds=>by simp
 |(d,none)::sp,i,h,j,ds=>by
  simp only[ph,fm,List.any_eq_true]at h;cases j with
  |zero=>
   refine⟨λ_=>?_,λu hu=>by simp at hu⟩;obtain⟨c,hc,hb⟩:=h.1;have:=LW hb;subst this;exact hc
  |succ j=>
   have:=Ol ch sp (i+1) h.2 j ds;rw[show i+(j+1)=i+1+j by omega];simpa using this
 |(d,some v)::sp,i,h,j,ds=>by
  simp only[ph,fm,o4]at h;cases j with
  |zero=>
   refine⟨λhu=>by simp at hu,λu _ hm=>?_⟩;have:=h.1 _ hm;simp[wJ]at this
  |succ j=>
   have:=Ol ch sp (i+1) h.2 j ds;rw[show i+(j+1)=i+1+j by omega];simpa using this
def Me (ch ds:List Nat) (n:Nat):Bool:=ds.all λj=> !(ch.any λc=>Nat.beq c j)||Nat.blt (Gg ch j) n
theorem n2f{F:Fence}{n:Nat}{P:Program}{Q Q':aC}{o:Oper}{a:Act}{w:World}{K K':Act->World->Prop}(h:∀a w,K a w->K' a w)(hq:∀c a w,Q (.panic c) a w->Q' (.panic c) a w)(hl:LetsOut Q->LetsOut Q')(hh:o.wpIn F n P a w K Q):o.wpIn F n P a w K' Q':=by
 unfold Oper.wpIn at *;refine⟨hh.1,?_⟩;have hh:=hh.2;generalize (o.semAt F.round a.eval).run P w=r at *;cases r with
 |ok x w'=>
  cases x<;>simp only[Oper.uponIn]at hh ⊢ <;>
   first
    |exact h _ _ hh
    |exact⟨hh.1,CallsIn.mono hh.2 (λe w'' he=>by cases e<;>first|exact h _ _ he|exact hq _ _ _ he|exact hl he)⟩
    |exact⟨hh.1,RowsIn.mono hh.2 (λ_ _ he=>h _ _ he)⟩
    |exact⟨hh.1,RoundIn.mono hh.2 (λe w'' he=>by cases e<;>first|exact h _ _ he|exact hq _ _ _ he|exact hl he)⟩
 |halt x w'=>cases x<;>simp only[Oper.uponIn]at hh ⊢ <;>first|exact hh|exact hq _ _ _ hh
def Qn (Q:aC) (K:Act->World->Prop):aC:=λe a w=>match e with| .normal=>K a w|e=>Q e a w
/-! ### a region that draws its order: operations with unknown values, in whatever order they stand -/
def iT (sp:Sp) (ch:List Nat) (cv:List (Option Value)) (j:Nat):Value:=
 match sp[j]? with
 |some (_,some u)=>u
 |_=>((cv[Gg ch j]?).join).getD undef
def bK (ops:Array Oper) (sp:Sp) (ch:List Nat) (cv:List (Option Value)):List Nat->Env
 | []=>[]
 |j::js=>match(ops[j]?).bind (·.dst)with
  |some d=>(d,iT sp ch cv j)::bK ops sp ch cv js
  |none=>bK ops sp ch cv js
theorem Tu{ops:Array Oper}{sp:Sp}{ch:List Nat}{cv:List (Option Value)}{a:Act}:∀(js:List Nat),(∀j∈js,∀o d,ops[j]? =some o->o.dst=some d->a.eval (.tmp d)=iT sp ch cv j)->Fits (bK ops sp ch cv js) a
 | [],_=>by intro t v hv;simp[bK,look]at hv
 |j::js,h=>by
  have ih:=Tu (sp:=sp) (ch:=ch) (cv:=cv) js (λk hk=>h k (by simp[hk]));unfold bK;cases hd:(ops[j]?).bind (·.dst)with
  |none=>exact ih
  |some d=>
   obtain⟨o,ho,hod⟩:=Tv.1 hd;have hv:=h j zX o d ho hod;intro t v ht;simp only[look]at ht;by_cases e:d=t
   ·subst e;simp only[wJ,qE]at ht;rw[hv,ht]
   simp only[wI e]at ht;exact ih t v ht
variable {ch:List Nat} {j k:Nat} {v:Value}
theorem nbl{sp:Sp}{cv:List (Option Value)}(h:(∃ds u,sp[j]? =some (ds,some u))\/Gg ch j≠k):iT sp ch (cv.set k (some v)) j=iT sp ch cv j:=by
 unfold iT;rcases h with⟨ds,u,h⟩|h
 ·rw[h]
 split
 ·rfl
 rw[F8 (λe=>h e.symm)]
def vN (rq:List Nat) (k:Nat) (cv:List (Option Value)):Bool:=
 ((cv[k]?).join).isNone&&rq.all λj=>((cv[j]?).join).isSome
def qb (ops:List Oper) (ch:List Nat):Nat->List (List Nat)->Bool
 |_,[]=>true
 |k,rq::dX=>(match ch[k]? with|some c=>rq.all (λj=>match ch[j]? with|some c'=>((IC ops []).getD c 0).testBit c'|none=>false)|none=>false)&&qb ops ch (k+1) dX
theorem Bz(ops:List Oper)(ch:List Nat):∀(dX:List (List Nat)) (n:Nat),qb ops ch n dX=true->∀(k c:Nat) (rq:List Nat),dX[k]? =some rq->ch[n+k]? =some c->∀j∈rq,∃c',ch[j]? =some c'/\((IC ops []).getD c 0).testBit c'=true
 | [],_,_,k,c,rq,h,_=>by simp at h
 |r::dX,n,h,k,c,rq,hk,hc=>by
  simp only[qb,fm]at h;cases k with
  |zero=>
   simp at hk;subst hk;rw[Nat.add_zero]at hc;rw[hc]at h;intro j hj;have h1:=h.1;simp only[o4]at h1;have:=h1 j hj;split at this
   ·rename_i c' vO;exact⟨c',vO,this⟩
   cases this
  |succ k=>exact Bz ops ch dX (n+1) h.2 k c rq Mf (by rw[show n+1+k=n+(k+1) by omega];exact hc)
def Gj (ch ds:List Nat) (cv:List (Option Value)):Bool:=ds.all λj=> !(ch.any λc=>Nat.beq c j)||((cv[Gg ch j]?).join).isSome
def Gk (C:Cx) (ops:Array Oper) (nA:Nat) (ch:List Nat) (sp:Sp) (Ph:List (Option Value)->List World->ab->Prop) (E:Env) (D:List Deferred) (G:Gh) (bU:Nat->Bool) (a:Act) (W:World):Prop:=
 ∃cv L' H',a.tmps.size=C.N/\a.defers=D/\Fits E a/\Ph cv L' H'/\St G L' H' W/\cv.length=ch.length/\(∀(k c:Nat),ch[k]? =some c->(bU c=true↔∃v,cv[k]? =some (some v)))/\
  (∀(i:Nat) (o:Oper) (d:Nat),i<nA->bU i=true->ops[i]? =some o->o.dst=some d->a.eval (.tmp d)=iT sp ch cv i)
structure uG (ops:Array Oper) (nA:Nat) (sp:List OS) (E:Env):Prop where
 len:sp.length=nA
 le:nA<=ops.size
 back:∀(i:Nat) (o:Oper),ops[i]? =some o->∀e∈o.after,Region.binds .any e=true->e.on<i
 deps:∀(i:Nat) (o:Oper) (s:OS),ops[i]? =some o->sp[i]? =some s->∀j∈s.deps,∃e∈o.after,e.on=j/\Region.binds .any e=true
 last:∀(i:Nat) (o:Oper),nA<=i->ops[i]? =some o->∀(D:Nat->Prop),(∀(k:Nat) (o':Oper),ops[k]? =some o'->D k->∀e∈o'.after,Region.binds .any e=true->D e.on)->(∀e∈o.after,Region.binds .any e=true->D e.on)->∀j,j<i->D j
 uniq:∀(i j:Nat) (o o':Oper) (d:Nat),i<nA->j<nA->ops[i]? =some o->ops[j]? =some o'->o.dst=some d->o'.dst=some d->i=j
 apart:∀(i:Nat) (o:Oper) (d:Nat),i<nA->ops[i]? =some o->o.dst=some d->look E d=none
def Gl (ops:Array Oper) (nA:Nat) (ds:List (List Nat)) (E:Env):Bool:=
 Nat.beq ds.length nA&&Nat.ble nA ops.size&&
 (List.range ops.size).all λi=>
  match ops[i]? with
  |none=>true
  |some o=>
   (o.after.toList.all λe=> !Region.binds .any e||Nat.blt e.on i)&&
   (if Nat.blt i nA then
    (match ds[i]? with|some js=>js.all (λj=>o.after.toList.any λe=>Nat.beq e.on j&&Region.binds .any e)|none=>true)&&
    (match o.dst with
     |none=>true
     |some d=>(look E d).isNone&&(List.range nA).all λj=>Nat.beq i j||match(ops[j]?).bind (·.dst)with|some d'=> !Nat.beq d d'|none=>true)
    else(List.range i).all λj=>((IC ops.toList []).getD i 0).testBit j)
variable {ops:Array Oper} {E:Env}
theorem nHn{nA:Nat}{sp:List OS}(h:Gl ops nA (sp.map (·.deps)) E=true):uG ops nA sp E:=by
 unfold Gl at h;simp only[fm,o4,oT]at h;obtain⟨⟨h1,h2⟩,h3⟩:=h;have hlen:sp.length=nA:=by simpa using LW h1
 have hle:=bj h2;have at_:∀(i:Nat) (o:Oper),ops[i]? =some o->i<ops.size:=λi o ho=>(aT.1 ho).1;refine⟨hlen,hle,?_,?_,?_,?_,?_⟩
 ·exact zoj
 ·intro i o s ho hs j hj;have hi:i<nA:=by rw[<-hlen];exact(gi.1 hs).1
  have:=h3 i (at_ i o ho);simp only[ho,fm]at this;have:=this.2;rw[if_pos WW]at this;simp only[qp,hs,uW,fm,o4]at this;have:=this.1 j hj;simp only[List.any_eq_true,fm]at this;obtain⟨e,he,aQ,aU⟩:=this;exact⟨e,by simpa using he,LW aQ,aU⟩
 ·intro i o hi ho D hD hr j hj;have Tw:∀(i:Nat) (o:Oper),ops[i]? =some o->∀e∈o.after,Region.binds .any e=true->e.on<i:=by
   exact zoj
  have:=h3 i (at_ i o ho);simp only[ho,fm]at this;have:=this.2;rw[if_neg (by intro hb;have:=nV hb;omega)]at this;simp only[o4,oT]at this;exact nJf ops.toList D (λk o' hk=>hD k o' Mf) (λk o' hk=>Tw k o' Mf) ops.toList [] rfl (λ_ _ _ hk=>by simp at hk) i o (by simpa using ho) hr j (this j hj)
 ·intro i j o o' d hi hj ho iG hd kE;have:=h3 i (at_ i o ho);simp only[ho,fm]at this;have:=this.2;rw[if_pos WW]at this;simp only[hd,fm,o4,oT]at this;have:=this.2.2 j hj;simp only[iG,Option.bind_some,kE,Bool.or_eq_true,Bool.not_eq_true']at this;rcases this with h|h
  ·exact LW h
  rw[wJ]at h;cases h
 intro i o d hi ho hd;have:=h3 i (at_ i o ho);simp only[ho,fm]at this;have:=this.2;rw[if_pos WW]at this;simp only[hd,fm]at this;simpa using this.2.1
def vP:List Oper->Sp->Bool
 |o::l,(_,some _)::sp=>o.dst.isSome&&vP l sp
 |_::l,_::sp=>vP l sp
 |_,[]=>true
 | [],_=>true
theorem nnn:∀(l:List Oper) (sp:Sp),vP l sp=true->∀(i:Nat) (o:Oper) (ds:List Nat) (u:Value),l[i]? =some o->sp[i]? =some (ds,some u)->∃d,o.dst=some d
 | [],sp,_,i,o,ds,u,h1,_=>by simp at h1
 |o'::l,[],_,i,o,ds,u,_,h2=>by simp at h2
 |o'::l,(rC,u')::sp,h,i,o,ds,u,h1,h2=>by
  cases i with
  |zero=>
   simp only[GS,qE]at h1 h2;subst h1;obtain⟨rfl,rfl⟩:rC=ds/\u'=some u:=by simpa using h2
   simp only[vP,fm]at h;exact Option.isSome_iff_exists.1 h.1
  |succ i=>
   simp only[xm]at h1 h2;refine nnn l sp ?_ i o ds u h1 h2;cases u' with
   |none=>simpa[vP]using h
   |some u'=>simp only[vP,fm]at h;exact h.2
variable {C:Cx} {G:Gh} {H:ab} {D:List Deferred} {L:List World}
theorem nnj{Q:aC}{l:List Oper}{id:Nat}(nA:Nat)(ch:List Nat)(sp:Sp)(dX:List (List Nat))(Ph:List (Option Value)->List World->ab->Prop)(hm:C.P.follows .mixedOrders=true)(h0:Ph (ch.map λ_=>none) L H)(iF:Gl l.toArray nA (sp.map (·.1)) E=true)(aH:vP l sp=true)(hN:wM C.N l=true)(jX:qb l ch 0 dX=true)(hnd:By ch=true)(qy:ph ch 0 sp=true)(eU:ch.all (λc=>Nat.blt c nA)=true)(pure:∀(i:Nat) (o:Oper) (ds:List Nat) (u:Value),l[i]? =some o->sp[i]? =some (ds,some u)->∀cv L' H',cv.length=ch.length->Gj ch ds cv=true->Ph cv L' H'->X C l.toArray G L' H' (bK l.toArray sp ch cv ds++E) (λ_=>True) o (λv _=>v=u))(step:∀(k c:Nat) (rq:List Nat) (o:Oper) (ds:List Nat) (d:Nat),ch[k]? =some c->dX[k]? =some rq->l[c]? =some o->sp[c]? =some (ds,none)->o.dst=some d->∀cv L' H',cv.length=ch.length->vN rq k cv=true->Ph cv L' H'->∀(F:Env) (Q':aC),(∀v dq dr,Ph (cv.set k (some v)) dq dr->PJ C Q' .normal ((d,v)::(bK l.toArray sp ch cv ds++(E++F))) D G dq dr)->OJ C l.toArray Q' [o] (bK l.toArray sp ch cv ds++(E++F)) D G L' H')(BA:∀(k c:Nat) (rq:List Nat) (o:Oper) (ds:List Nat),ch[k]? =some c->dX[k]? =some rq->l[c]? =some o->sp[c]? =some (ds,none)->o.dst=none->∀cv L' H',cv.length=ch.length->vN rq k cv=true->Ph cv L' H'->∀(F:Env) (Q':aC),(∀v dq dr,Ph (cv.set k (some v)) dq dr->PJ C Q' .normal (bK l.toArray sp ch cv ds++(E++F)) D G dq dr)->OJ C l.toArray Q' [o] (bK l.toArray sp ch cv ds++(E++F)) D G L' H')(Om:dX.length=ch.length)(fin:∀cv L' H',cv.length=ch.length->cv.all (λx=>x.isSome)=true->Ph cv L' H'->OJ C l.toArray Q (l.drop nA) (bK l.toArray sp ch cv (List.range nA)++E) D G L' H'):CJ C (.region id l.toArray true) Q E D G L H:=by
 have ok:uG l.toArray nA (sp.map λp=>OS.det p.1 undef) E:=nHn (by
  rw[List.map_map];exact iF)
 have Gm:sp.length=nA:=by have:=ok.len;simpa using this
 have Tx:∀(i:Nat) (o:Oper) (ds:List Nat) (u:Option Value),l.toArray[i]? =some o->sp[i]? =some (ds,u)->∀j∈ds,∃e∈o.after,e.on=j/\Region.binds .any e=true:=by
  intro i o ds u ho hs j hj;exact ok.deps i o (.det ds undef) ho (by simp[hs]) j hj
 have kF:=n0l hnd;have adE:∀k c,ch[k]? =some c->c<nA:=λk c h=>by
  rw[o4]at eU;exact nV (eU c (cb h))
 generalize Ty:l.toArray=ops at *;have hl:∀i:Nat,l[i]? =ops[i]? :=λi=>by rw[<-Ty,B7]
 have iW:ops.size=l.length:=by rw[<-Ty];simp
 intro a W Tz hD hF hS;refine wpIn_region_draw λt=>?_;simp only[Region.schedule,hm,Bool.true_or,if_true];have hlt:∀(i:Nat) (o:Oper),ops[i]? =some o->i<ops.size:=λi o ho=>(aT.1 ho).1
 let Inv:Array Bool->Act->World->Prop:=λbU a W=>bU.size=ops.size/\(∀(k:Nat) (o:Oper),ops[k]? =some o->bU.getD k false=true->∀e∈o.after,Region.binds .any e=true->bU.getD e.on false=true)/\
  (((∃i,i<nA/\bU.getD i false=false)/\(∀i,nA<=i->bU.getD i false=false)/\Gk C ops nA ch sp Ph E D G (λi=>bU.getD i false) a W)\/
   (∃m,nA<=m/\(∀i,i<ops.size->(bU.getD i false=true↔i<m))/\wpListIn (FW C.r) 0 C.P ops Q (l.drop m) a W))
 have close:∀(bU:Array Bool) a W,bU.size=ops.size->(∀(k:Nat) (o:Oper),ops[k]? =some o->bU.getD k false=true->∀e∈o.after,Region.binds .any e=true->bU.getD e.on false=true)->(∀i,i<nA->bU.getD i false=true)->(∀i,nA<=i->bU.getD i false=false)->Gk C ops nA ch sp Ph E D G (λi=>bU.getD i false) a W->Inv bU a W:=by
  rintro bU a W qd ll bP BB ⟨cv,L',H',h1,h2,h3,h4,h5,h6,h7,h8⟩;refine⟨qd,ll,.inr ⟨nA,ao _,λi hi=>⟨λh=>?_,λh=>bP i h⟩,?_⟩⟩
  ·exact Nat.lt_of_not_le λhle=>by rw[BB i hle]at h;cases h
  have B5:cv.all (λx=>x.isSome)=true:=by
   rw[o4];intro x hx;obtain⟨k,hk⟩:=ju.1 hx;have kK:k<ch.length:=by rw[<-h6];exact(gi.1 hk).1
   have hc:ch[k]? =some (ch[k]'kK):=gB kK;obtain⟨v,hv⟩:=(h7 _ _ hc).1 (bP _ (adE _ _ hc));rw[hk]at hv;cases hv;rfl
  refine fin cv L' H' h6 B5 h4 a W h1 h2 (Oi ?_ h3) h5;exact Tu _ (λj hj o d ho hd=>h8 j o d (oT.1 hj) (bP j (oT.1 hj)) ho hd)
 have di:∀(bU:Array Bool) (i k:Nat),bU.size=ops.size->i<ops.size->(bU.setIfInBounds i true).getD k false=if k=i then true else bU.getD k false:=by
  intro bU i k qd hi;simp only[Array.getD_eq_getD_getElem?,Array.getElem?_setIfInBounds];by_cases e:i=k
  ·subst e;simp[qd,hi]
  simp[e,show ¬k=i from λh=>e h.symm]
 have TA:∀(bU:Array Bool) a W,Inv bU a W->∀(i:Nat) (o:Oper),ops[i]? =some o->bU.getD i false=false->(∀e∈o.after,Region.binds .any e=true->bU.getD e.on false=true)->
  wpOpIn (FW C.r) 0 C.P ops Q i (λa' W'=>Inv (bU.setIfInBounds i true) a' W') a W:=by
  rintro bU a W ⟨qd,ll,hI⟩ i o ho CV mC;have hi:=hlt i o ho;have Mg:∀(k:Nat) (o':Oper),ops[k]? =some o'->(bU.setIfInBounds i true).getD k false=true->∀e∈o'.after,Region.binds .any e=true->(bU.setIfInBounds i true).getD e.on false=true:=by
   intro k o' iG hk e he hb;rw[di bU i k qd hi]at hk;rw[di bU i e.on qd hi];by_cases e1:e.on=i
   ·rw[if_pos e1]
   rw[if_neg e1];by_cases e2:k=i
   ·subst e2;rw[ho]at iG;cases iG;exact mC e he hb
   rw[if_neg e2]at hk;exact ll k o' iG hk e he hb
  rcases hI with⟨hex,BB,cv,L',H',h1,h2,h3,h4,h5,h6,h7,h8⟩|⟨m,hnm,BC,hw⟩
  ·have Mh:i<nA:=Nat.lt_of_not_le λhle=>by
    obtain⟨k,hk,WX⟩:=hex;have:=ok.last i o hle ho (λk=>bU.getD k false=true) (λk o' h1 h2 e h3 h4=>ll k o' h1 h2 e h3 h4) mC k zJ;rw[WX]at this;cases this
   obtain⟨⟨ds,u⟩,hs⟩:∃s,sp[i]? =some s:=⟨sp[i]'(by rw[Gm];exact Mh),gB _⟩;have oH:∀j∈ds,bU.getD j false=true/\j<i:=λj hj=>by
    obtain⟨e,he,hon,hb⟩:=Tx i o ds u ho hs j hj;exact⟨hon▸mC e he hb,hon▸ok.back i o ho e he hb⟩
   have bN:Fits (bK ops sp ch cv ds) a:=Tu _ (λj hj o' d' iG kE=>h8 j o' d' (by have:=(oH j hj).2;omega) (oH j hj).1 iG kE);have TB:(bU.setIfInBounds i true).size=ops.size:=by simp[qd]
   have BD:∀k,nA<=k->(bU.setIfInBounds i true).getD k false=false:=λk hk=>by
    rw[di bU i k qd hi,if_neg zJ];exact BB k hk
   have cB:∀a' W',Gk C ops nA ch sp Ph E D G (λk=>(bU.setIfInBounds i true).getD k false) a' W'->Inv (bU.setIfInBounds i true) a' W':=by
    intro a' W' hA;by_cases bP:∀k,k<nA->(bU.setIfInBounds i true).getD k false=true
    ·exact close _ _ _ TB Mg bP BD hA
    refine⟨TB,Mg,.inl ⟨?_,BD,hA⟩⟩;obtain⟨k,hk⟩:=Classical.not_forall.1 bP;obtain⟨T8,Wg⟩:=Classical.not_imp.1 hk;exact⟨k,T8,by simpa using Wg⟩
   cases u with
   |some u=>
    -- its value is known
    obtain⟨d,hd⟩:=nnn l sp aH i o ds u Mi hs;have hdN:d<C.N:=nGg hN o (cb Mi) d hd;have adF:i∉ch:=by have:=(Ol ch sp 0 qy i ds).2 u hs;simpa using this
    have hdi:Gj ch ds cv=true:=by
     simp only[Gj,o4,Bool.or_eq_true,Bool.not_eq_true'];intro j hj;by_cases hc:(ch.any λc=>Nat.beq c j)=true
     ·right;obtain⟨c,hcm,hcb⟩:=List.any_eq_true.1 hc;have:=LW hcb;subst this;obtain⟨q,hq⟩:=ju.1 hcm;rw[Md ch q c hq kF];obtain⟨v,hv⟩:=(h7 q c hq).1 (oH c hj).1;rw[hv];rfl
     left;exact Bool.eq_false_iff.2 hc
    have hx:=pure i o ds u Mi hs cv L' H' h6 hdi h4 a W (λa' W'=>Inv (bU.setIfInBounds i true) a' W') Q h1 (Oi bN h3) h5 trivial (by
     rintro v W' hb rfl;refine cB _ _ ⟨cv,L',H',by simp[Act.put,hd,h1],by simp[Act.put,hd,h2],?_,h4,h5.step hb,h6,?_,?_⟩
     ·intro t u' hu;have dn:d≠t:=λe=>by subst e;rw[ok.apart i o d Mh ho hd]at hu;cases hu
      have:=h3 t u' hu;simp only[Act.eval,Act.put,hd]at this ⊢;rw[<-this];simp[aRo dn]
     ·intro k c hc;show((bU.setIfInBounds i true).getD c false=true↔_);rw[di bU i c qd hi,if_neg (show ¬c=i from λe=>adF (by rw[<-e];exact cb hc))];exact h7 k c hc
     intro k o' d' hk hlk iG kE;replace hlk:(bU.setIfInBounds i true).getD k false=true:=hlk;rw[di bU i k qd hi]at hlk;by_cases e:k=i
     ·subst e;rw[ho]at iG;cases iG;rw[hd]at kE;cases kE;simp[Act.eval,Act.put,hd,h1,hdN,iT,hs]
     rw[if_neg e]at hlk;have dn:d≠d':=λe'=>e (ok.uniq k i o' o d hk Mh iG ho (e'▸kE) hd);have:=h8 k o' d' hk hlk iG kE;simp only[Act.eval,Act.put,hd]at this ⊢;rw[<-this];simp[aRo dn])
    unfold wpOpIn;simp only[ho];split
    ·rename_i hw;rw[if_pos hw]at hx;exact hx
    rename_i hw;rw[if_neg hw]at hx;exact⟨λ_ _=>trivial,hx⟩
   |none=>
    -- it is the next one of the chain
    have jj:i∈ch:=by have:=(Ol ch sp 0 qy i ds).1 hs;simpa using this
    obtain⟨k,hk⟩:=ju.1 jj;have kK:k<ch.length:=(gi.1 hk).1;obtain⟨rq,Lg⟩:∃rq,dX[k]? =some rq:=⟨dX[k]'zJ,gB _⟩;have Mj:cv[k]? =some none:=by
     have h9:cv[k]? =some (cv[k]'zJ):=gB _;cases hx:cv[k]'zJ with
     |none=>rw[h9,hx]
     |some v=>
      exfalso;have h':bU.getD i false=true:=(h7 k i hk).2 ⟨v,by rw[h9,hx]⟩;rw[CV]at h';cases h'
    have TC:vN rq k cv=true:=by
     simp only[vN,fm,o4];refine⟨by rw[Mj];rfl,λj hj=>?_⟩;obtain⟨c',vO,adG⟩:=Bz l ch dX 0 jX k i rq Lg (by rw[iC];exact hk) j hj;have hD':=nJf l (λj=>bU.getD j false=true) (λj o' hj=>ll j o' (by rw[<-hl];exact hj)) (λj o' hj=>ok.back j o' (by rw[<-hl];exact hj)) l [] rfl (λ_ _ _ hk=>by simp at hk) i o Mi mC _ adG;obtain⟨v,hv⟩:=(h7 j c' vO).1 hD';rw[hv];rfl
    cases hd:o.dst with
    |some d=>
     have hdN:d<C.N:=nGg hN o (cb Mi) d hd;have AK:=step k i rq o ds d hk Lg Mi hs hd cv L' H' h6 TC h4 (bK ops sp ch cv ((List.range nA).filter λj=>bU.getD j false))
      (Qn Q (λa' W'=>Inv (bU.setIfInBounds i true) a' W')) (by
       intro v dq dr hP a' W' Ff hs2 On hs4;refine cB _ _ ⟨cv.set k (some v),dq,dr,Ff,hs2,?_,hP,hs4,?_,?_,?_⟩
       ·intro t u' hu;have dn:d≠t:=λe=>by subst e;rw[ok.apart i o d Mh ho hd]at hu;cases hu
        have cN:Fits (bK ops sp ch cv ds++(E++bK ops sp ch cv ((List.range nA).filter λj=>bU.getD j false))) a':=λt' v' h'=>by
         by_cases e2:d=t'
         ·subst e2;exfalso;have fN:∀js,(∀j∈js,j<nA/\j≠i)->look (bK ops sp ch cv js) d=none:=by
           intro js;induction js with
           |nil=>intro _;rfl
           |cons j js ih=>
            intro gf;have tH:=ih λj' tE=>gf j' (by simp[tE]);unfold bK;cases Ml:(ops[j]?).bind (·.dst)with
            |none=>exact tH
            |some d'=>
             obtain⟨oj,Mm,tI⟩:=Tv.1 Ml;have tJ:d'≠d:=λe'=>(gf j zX).2 (ok.uniq j i oj o d' (gf j zX).1 Mh Mm ho tI (e'▸hd));simp only[look,wI tJ];exact tH
          rw[Ge,Ge,fN ds (λj hj=>⟨by have:=(oH j hj).2;omega,by have:=(oH j hj).2;omega⟩),ok.apart i o d Mh ho hd,fN _ (λj hj=>by
           simp only[sP,oT]at hj;exact⟨hj.1,λe=>by subst e;rw[CV]at hj;cases hj.2⟩)]at h'
          cases h'
         exact On t' v' (by simp only[look,wI e2];exact h')
        have h9:look (bK ops sp ch cv ds++(E++bK ops sp ch cv ((List.range nA).filter λj=>bU.getD j false))) t=some u':=by
         exact zsi
        exact cN t u' h9
       ·rw[FD];exact h6
       ·exact zFi
       intro q o' d' CW hlk iG kE;replace hlk:(bU.setIfInBounds i true).getD q false=true:=hlk;rw[di bU i q qd hi]at hlk;by_cases e:q=i
       ·subst e;rw[ho]at iG;cases iG;rw[hd]at kE;cases kE;have:=On d v (by simp[look,wJ]);rw[this];unfold iT;rw[hs];simp only;rw[Md ch k q hk kF,Iu zJ];rfl
       rw[if_neg e]at hlk;have dn:d≠d':=λe'=>e (ok.uniq q i o' o d CW Mh iG ho (e'▸kE) hd);have hold:iT sp ch (cv.set k (some v)) q=iT sp ch cv q:=nbl (by
        obtain⟨⟨rC,u'⟩,TD⟩:∃s,sp[q]? =some s:=⟨sp[q]'(by rw[Gm];exact CW),gB _⟩;cases u' with
        |some u'=>exact .inl ⟨rC,u',TD⟩
        |none=>
         right;have BF:q∈ch:=by have:=(Ol ch sp 0 qy q rC).1 TD;simpa using this
         obtain⟨p,hp⟩:=ju.1 BF;rw[Md ch p q hp kF];exact λe'=>e (by subst e';rw[hk]at hp;cases hp;rfl))
       rw[hold]
       -- it Mn in F
       refine On d' _ ?_;simp only[look,wI dn];have hin:∀js,q∈js->(∀j∈js,j<nA)->look (bK ops sp ch cv js) d'=some (iT sp ch cv q):=by
        exact zti
       have hE:look E d'=none:=ok.apart q o' d' CW iG kE;have IE:=hin ((List.range nA).filter λj=>bU.getD j false) (sP.2 ⟨oT.2 CW,hlk⟩) (λj hj=>by
        simp only[sP,oT]at hj;exact hj.1)
       rw[Ge,Ge,hE,IE];by_cases TE:q∈ds
       ·rw[hin ds TE (λj hj=>by have:=(oH j hj).2;omega)];rfl
       have fN:∀js,(∀j∈js,j<nA)->q∉js->look (bK ops sp ch cv js) d'=none:=by
        exact zxi
       rw[fN ds (λj hj=>by have:=(oH j hj).2;omega) TE];rfl)
      a W h1 h2 (Oi bN (Oi h3 (Tu _ (λj hj o' d' iG kE=>by
       simp only[sP,oT]at hj;exact h8 j o' d' hj.1 hj.2 iG kE)))) h5
     exact z2i
    |none=>
     have AK:=BA k i rq o ds hk Lg Mi hs hd cv L' H' h6 TC h4 (bK ops sp ch cv ((List.range nA).filter λj=>bU.getD j false))
      (Qn Q (λa' W'=>Inv (bU.setIfInBounds i true) a' W')) (by
       intro v dq dr hP a' W' Ff hs2 On hs4;refine cB _ _ ⟨cv.set k (some v),dq,dr,Ff,hs2,?_,hP,hs4,?_,?_,?_⟩
       ·intro t u' hu;have h9:look (bK ops sp ch cv ds++(E++bK ops sp ch cv ((List.range nA).filter λj=>bU.getD j false))) t=some u':=by
         exact zsi
        exact On t u' h9
       ·rw[FD];exact h6
       ·exact zFi
       intro q o' d' CW hlk iG kE;replace hlk:(bU.setIfInBounds i true).getD q false=true:=hlk;rw[di bU i q qd hi]at hlk;by_cases e:q=i
       ·subst e;rw[ho]at iG;cases iG;rw[hd]at kE;cases kE
       rw[if_neg e]at hlk;have hold:iT sp ch (cv.set k (some v)) q=iT sp ch cv q:=nbl (by
        obtain⟨⟨rC,u'⟩,TD⟩:∃s,sp[q]? =some s:=⟨sp[q]'(by rw[Gm];exact CW),gB _⟩;cases u' with
        |some u'=>exact .inl ⟨rC,u',TD⟩
        |none=>
         right;have BF:q∈ch:=by have:=(Ol ch sp 0 qy q rC).1 TD;simpa using this
         obtain⟨p,hp⟩:=ju.1 BF;rw[Md ch p q hp kF];exact λe'=>e (by subst e';rw[hk]at hp;cases hp;rfl))
       rw[hold]
       -- it Mn in F
       refine On d' _ ?_;have hin:∀js,q∈js->(∀j∈js,j<nA)->look (bK ops sp ch cv js) d'=some (iT sp ch cv q):=by
        exact zti
       have hE:look E d'=none:=ok.apart q o' d' CW iG kE;have IE:=hin ((List.range nA).filter λj=>bU.getD j false) (sP.2 ⟨oT.2 CW,hlk⟩) (λj hj=>by
        simp only[sP,oT]at hj;exact hj.1)
       rw[Ge,Ge,hE,IE];by_cases TE:q∈ds
       ·rw[hin ds TE (λj hj=>by have:=(oH j hj).2;omega)];rfl
       have fN:∀js,(∀j∈js,j<nA)->q∉js->look (bK ops sp ch cv js) d'=none:=by
        exact zxi
       rw[fN ds (λj hj=>by have:=(oH j hj).2;omega) TE];rfl)
      a W h1 h2 (Oi bN (Oi h3 (Tu _ (λj hj o' d' iG kE=>by
       simp only[sP,oT]at hj;exact h8 j o' d' hj.1 hj.2 iG kE)))) h5
     exact z2i
  -- it is the next one
  have him:i=m:=by
   have h1:¬i<m:=λh=>by rw[(BC i hi).2 h]at CV;cases CV
   have h2:i<=m:=Tl λh=>by
    have h3:=ok.last i o zJ ho (λk=>bU.getD k false=true) (λk o' h1 h2 e h3 h4=>ll k o' h1 h2 e h3 h4) mC m h;have:=(BC m zJ).1 h3;omega
   omega
  subst him;have TF:l.drop i=o::l.drop (i+1):=by
   have:=hl i;rw[ho]at this;exact(List.drop_eq_getElem_cons (gi.1 this).1).trans (by rw[(gi.1 this).2])
  rw[TF]at hw;have IF:∀a' W',wpListIn (FW C.r) 0 C.P ops Q (l.drop (i+1)) a' W'->Inv (bU.setIfInBounds i true) a' W':=λa' W' h=>by
   refine⟨by simp[qd],Mg,.inr ⟨i+1,by omega,λk hk=>?_,h⟩⟩;rw[di bU i k qd hi];by_cases e:k=i
   ·subst e;simp
   rw[if_neg e,BC k hk];omega
  unfold wpListIn at hw;unfold wpOpIn;simp only[ho];split
  ·rename_i BG;rw[if_pos BG]at hw;exact Oper.wpIn_mono IF hw
  rename_i BG;rw[if_neg BG]at hw;exact⟨hw.1,IF _ _ hw.2⟩
 -- the end
 have kG:∀(bU:Array Bool) (i:Nat),bU.size=ops.size->(i∈Region.ready .any ops bU↔∃o,ops[i]? =some o/\bU.getD i false=false/\∀e∈o.after,Region.binds .any e=true->bU.getD e.on false=true):=by
  intro bU i qd;simp only[Region.ready,sP,oT,fm,Bool.not_eq_true'];constructor
  ·rintro⟨hi,hf,hr⟩;refine⟨ops[i],Gn hi,?_,?_⟩
   ·exact z1j
   rw[Gn hi]at hr;simp only[uW,Option.getD_some,Array.all_eq_true_iff_forall_mem,Bool.or_eq_true,Bool.not_eq_true']at hr;intro e he hb;rcases hr e he with h|h
   ·rw[hb]at h;cases h
   exact h
  rintro⟨o,ho,hf,hr⟩;have hi:=hlt i o ho;refine⟨hi,?_,?_⟩
  ·exact z1j
  rw[ho];simp only[uW,Option.getD_some,Array.all_eq_true_iff_forall_mem,Bool.or_eq_true,Bool.not_eq_true'];intro e he;by_cases hb:Region.binds .any e=true
  ·exact .inr (hr e he hb)
  exact .inl (by simpa using hb)
 have last:∀(bU:Array Bool) a W,Inv bU a W->Region.ready .any ops bU=[]->Q .normal a W:=by
  rintro bU a W ⟨qd,ll,hI⟩ hr
  -- all are listed: else the least one afO is not is ready
  have bP:∀i,i<ops.size->bU.getD i false=true:=by
   intro i;induction i using Nat.strongRecOn with
   |_ i ih=>
    intro hi;cases hf:bU.getD i false with
    |true=>rfl
    |false=>
     have:i∈Region.ready .any ops bU:=(kG bU i qd).2 ⟨ops[i],Gn hi,hf,λe he hb=>by
      have:=ok.back i ops[i] (Gn hi) e he hb;exact ih e.on this zJ⟩
     rw[hr]at this;cases this
  rcases hI with⟨⟨k,hk,WX⟩,_⟩|⟨m,hnm,BC,hw⟩
  ·rw[bP k (jT hk ok.le)]at WX;cases WX
  have hm:ops.size<=m:=Tl λh=>by
   have:=(BC m h).1 (bP m h);omega
  rw[List.drop_eq_nil_of_le zJ]at hw;exact hw
 have any:∀(fuel:Nat) (bU:Array Bool) a W,Inv bU a W->(List.range ops.size).countP (λi=> !bU.getD i false)<=fuel->wpAnyIn (FW C.r) 0 C.P .any ops Q fuel bU a W:=by
  intro fuel;induction fuel with
  |zero=>
   intro bU a W hI hc;have hz:Region.ready .any ops bU=[]:=by
    apply List.eq_nil_iff_forall_not_mem.2;intro i hi;obtain⟨o,ho,hf,_⟩:=(kG bU i hI.1).1 hi;have:=List.countP_eq_zero.1 (Nat.le_zero.1 hc) i (oT.2 (hlt i o ho));simp[hf]at this
   exact⟨hz,last bU a W hI hz⟩
  |succ fuel ih=>
   intro bU a W hI hc;refine⟨last bU a W hI,λi hi=>?_⟩;obtain⟨o,ho,hf,hr⟩:=(kG bU i hI.1).1 hi;refine wpOpIn_mono (λa' W' WY=>ih _ a' W' WY ?_) (TA bU a W hI i o ho hf hr);have eU:=hlt i o ho;have adI:(List.range ops.size).countP (λk=> !(bU.setIfInBounds i true).getD k false)<(List.range ops.size).countP (λk=> !bU.getD k false):=by
    refine nag _ (λk _ hk=>?_) ⟨i,oT.2 eU,by simp[hf],?_⟩
    ·rw[di bU i k hI.1 eU]at hk;by_cases e:k=i
     ·rw[if_pos e]at hk;cases hk
     rw[if_neg e]at hk;exact hk
    rw[di bU i i hI.1 eU,if_pos rfl];rfl
   omega
 have vQ:∀k,(Array.replicate ops.size false).getD k false=false:=λk=>by
  simp only[Array.getD_eq_getD_getElem?,Array.getElem?_replicate];split<;>rfl
 have hS0:St G L H {W with drawn:=W.drawn+1}:=hS.step (Eb W _);have hA0:Gk C ops nA ch sp Ph E D G (λi=>(Array.replicate ops.size false).getD i false) a {W with drawn:=W.drawn+1}:=
  ⟨_,L,H,Tz,hD,hF,h0,hS0,fp _,λk c _=>⟨λh=>(Bool.false_ne_true ((vQ c).symm.trans h)).elim,λ⟨v,h⟩=>by rw[qp]at h;cases hx:ch[k]?<;>rw[hx]at h<;>simp at h⟩,λi _ _ _ h=>(Bool.false_ne_true ((vQ i).symm.trans h)).elim⟩
 refine wpAnyIn_sound ops.size t _ a _ (any ops.size (Array.replicate ops.size false) a _ ?_ ?_)
 ·have TG:∀(k:Nat) (o:Oper),ops[k]? =some o->(Array.replicate ops.size false).getD k false=true->∀e∈o.after,Region.binds .any e=true->(Array.replicate ops.size false).getD e.on false=true:=λk o _ h=>by rw[vQ k]at h;cases h
  by_cases hz:nA=0
  ·exact close _ _ _ zX TG (λi hi=>by omega) (λi _=>vQ i) hA0
  exact⟨by simp,TG,.inl ⟨⟨0,by omega,vQ 0⟩,λi _=>vQ i,hA0⟩⟩
 exact aR List.countP_le_length zX
def nv (n:Nat) (vs:List Value):List (Option Value):=vs.map some++List.replicate (n-vs.length) none
theorem uH(n k:Nat)(vs:List Value):((nv n vs)[k]?).join=vs[k]? :=by
 unfold nv;rcases Nat.lt_or_ge k vs.length with h|h
 ·rw[vZ qz,qp];cases vs[k]?<;>rfl
 rw[B6 qz,List.getElem?_replicate,so h];split<;>rfl
theorem Mo(sp:Sp)(ch:List Nat)(n:Nat)(vs:List Value)(j:Nat):iT sp ch (nv n vs) j=valOf sp ch vs j:=by
 unfold iT valOf;rw[uH]
theorem TH(ops:Array Oper)(sp:Sp)(ch:List Nat)(n:Nat)(vs:List Value):∀js,bK ops sp ch (nv n vs) js=dh ops sp ch vs js
 | []=>rfl
 |j::js=>by
  unfold bK dh;rw[TH ops sp ch n vs js,Mo]
theorem Gq(ch ds:List Nat)(n:Nat)(vs:List Value):Gj ch ds (nv n vs)=Me ch ds vs.length:=by
 unfold Gj Me;congr 1;funext j;rw[uH];congr 1;rw[vW];simp[Nat.blt,Nat.succ_le_iff]
def WZ:Nat->List Nat
 |0=>[]
 |m+1=>[m]
def wN:Nat->List Nat->List (List Nat)
 |_,[]=>[]
 |0,_::ch=>[]::wN 1 ch
 |k+1,_::ch=>[k]::wN (k+2) ch
theorem W4:∀(ch:List Nat) (k:Nat),(wN k ch).length=ch.length
 | [],k=>by cases k<;>rfl
 |_::ch,0=>by simp[wN,W4 ch]
 |_::ch,k+1=>by simp[wN,W4 ch]
theorem TI:∀(ch:List Nat) (k i:Nat) (rq:List Nat),(wN k ch)[i]? =some rq->rq=WZ (k+i)
 | [],k,i,rq,h=>by cases k<;>simp[wN]at h
 |_::ch,0,0,rq,h=>by simp[wN]at h;subst h;rfl
 |_::ch,0,i+1,rq,h=>by
  have:=TI ch 1 i rq (by simpa[wN]using h);rw[show 0+(i+1)=i+1 by omega];rw[show 1+i=i+1 by omega]at this;exact this
 |_::ch,k+1,0,rq,h=>by simp[wN]at h;subst h;rfl
 |_::ch,k+1,i+1,rq,h=>by
  have:=TI ch (k+2) i rq (by simpa[wN]using h);rw[show k+1+(i+1)=k+2+i by omega];exact this
theorem ncl{l:List Oper}:∀(ch:List Nat),ID l ch=true->∀(k c c':Nat),ch[k]? =some c->ch[k+1]? =some c'->((IC l []).getD c' 0).testBit c=true
 | [],_,k,c,c',h1,_=>by simp at h1
 | [x],_,k,c,c',_,h2=>by simp at h2
 |x::y::ch,h,k,c,c',h1,h2=>by
  simp only[ID,fm]at h;cases k with
  |zero=>simp at h1 h2;subst h1;subst h2;exact h.1
  |succ k=>exact ncl (y::ch) h.2 k c c' zc HG
theorem ngn(l:List Oper)(ch:List Nat)(jX:ID l ch=true):∀(dX:List (List Nat)) (n:Nat),n+dX.length=ch.length->(∀i rq,dX[i]? =some rq->rq=WZ (n+i))->qb l ch n dX=true
 | [],_,_,_=>rfl
 |rq::dX,n,hn,h=>by
  simp only[dQ]at hn;unfold qb;have h0:=h 0 rq rfl;have hlt:n<ch.length:=by omega
  rw[ngn l ch jX dX (n+1) zJ (λi rq' hi=>by have:=h (i+1) rq' HY;rw[show n+(i+1)=n+1+i by omega]at this;exact this),gB hlt,Bool.and_true,h0];simp only[Nat.add_zero];cases n with
  |zero=>rfl
  |succ m=>
   have hm:m<ch.length:=by omega
   simp only[Nat.add_zero,WZ,List.all_cons,List.all_nil,Bool.and_true];rw[gB hm];exact ncl ch jX m _ _ (gB hm) (gB hlt)
variable {vs:List Value}
theorem BH{n:Nat}(h:vs.length<n):(nv n vs).set vs.length (some v)=nv n (vs++[v]):=by
 unfold nv;rw[List.set_append_right _ _ zX];simp only[fp,Nat.sub_self,gP,eh,iB,cK,dQ,mT,iX];rw[show n-vs.length=(n-(vs.length+1))+1 by omega,List.replicate_succ];rfl
theorem nxl{n:Nat}{rq:List Nat}(hk:k<n)(hq:rq=WZ k)(h:vN rq k (nv n vs)=true):vs.length=k:=by
 unfold vN at h;rw[uH]at h;simp only[fm,o4,Option.isNone_iff_eq_none,List.getElem?_eq_none_iff]at h;cases k with
 |zero=>omega
 |succ m=>
  have:=h.2 m (by rw[hq];exact .head _);rw[uH]at this;simp at this;omega
theorem nNj{Q:aC}{l:List Oper}{id:Nat}(nA:Nat)(ch:List Nat)(sp:Sp)(Ph:List Value->List World->ab->Prop)(hm:C.P.follows .mixedOrders=true)(h0:Ph [] L H)(iF:Gl l.toArray nA (sp.map (·.1)) E=true)(aH:vP l sp=true)(hN:wM C.N l=true)(jX:ID l ch=true)(hnd:By ch=true)(qy:ph ch 0 sp=true)(eU:ch.all (λc=>Nat.blt c nA)=true)(pure:∀(i:Nat) (o:Oper) (ds:List Nat) (u:Value),l[i]? =some o->sp[i]? =some (ds,some u)->∀cv L' H',Me ch ds cv.length=true->Ph cv L' H'->X C l.toArray G L' H' (dh l.toArray sp ch cv ds++E) (λ_=>True) o (λv _=>v=u))(step:∀(k c:Nat) (o:Oper) (ds:List Nat) (d:Nat),ch[k]? =some c->l[c]? =some o->sp[c]? =some (ds,none)->o.dst=some d->∀cv L' H',cv.length=k->Ph cv L' H'->∀(F:Env) (Q':aC),(∀v dq dr,Ph (cv++[v]) dq dr->PJ C Q' .normal ((d,v)::(dh l.toArray sp ch cv ds++(E++F))) D G dq dr)->OJ C l.toArray Q' [o] (dh l.toArray sp ch cv ds++(E++F)) D G L' H')(BA:∀(k c:Nat) (o:Oper) (ds:List Nat),ch[k]? =some c->l[c]? =some o->sp[c]? =some (ds,none)->o.dst=none->∀cv L' H',cv.length=k->Ph cv L' H'->∀(F:Env) (Q':aC),(∀v dq dr,Ph (cv++[v]) dq dr->PJ C Q' .normal (dh l.toArray sp ch cv ds++(E++F)) D G dq dr)->OJ C l.toArray Q' [o] (dh l.toArray sp ch cv ds++(E++F)) D G L' H')(fin:∀cv L' H',cv.length=ch.length->Ph cv L' H'->OJ C l.toArray Q (l.drop nA) (dh l.toArray sp ch cv (List.range nA)++E) D G L' H'):CJ C (.region id l.toArray true) Q E D G L H:=by
 refine nnj nA ch sp (wN 0 ch) (λcv L' H'=>∃vs:List Value,cv=nv ch.length vs/\vs.length<=ch.length/\Ph vs L' H') hm ⟨[],?_,db _,h0⟩ iF aH hN (ngn l ch jX _ 0 (by rw[iC,W4]) (λi rq hi=>TI ch 0 i rq hi)) hnd qy eU ?_ ?_ ?_ (W4 ch 0) ?_
 ·unfold nv;simp[List.map_const']
 ·rintro i o ds u hl hs cv L' H' hlen hd ⟨vs,rfl,hle,hP⟩;rw[TH];exact pure i o ds u hl hs vs L' H' (by rw[<-Gq];exact hd) hP
 ·rintro k c rq o ds d hk hr hl hs hd cv L' H' hlen BI ⟨vs,rfl,hle,hP⟩ F Q' hc;have kK:k<ch.length:=(gi.1 hk).1;have hv:=nxl kK (by have:=TI ch 0 k rq hr;rwa[iC]at this) BI;rw[TH]at hc ⊢;refine step k c o ds d hk hl hs hd vs L' H' hv hP F Q' λv dq dr hP'=>hc v dq dr ⟨vs++[v],?_,by simp;omega,hP'⟩;rw[<-hv];exact BH zJ
 ·rintro k c rq o ds hk hr hl hs hd cv L' H' hlen BI ⟨vs,rfl,hle,hP⟩ F Q' hc;have kK:k<ch.length:=(gi.1 hk).1;have hv:=nxl kK (by have:=TI ch 0 k rq hr;rwa[iC]at this) BI;rw[TH]at hc ⊢;refine BA k c o ds hk hl hs hd vs L' H' hv hP F Q' λv dq dr hP'=>hc v dq dr ⟨vs++[v],?_,by simp;omega,hP'⟩;rw[<-hv];exact BH zJ
 rintro cv L' H' hlen bP ⟨vs,rfl,hle,hP⟩;rw[TH];refine fin vs L' H' ?_ hP;rcases Nat.lt_or_ge vs.length ch.length with h|h
 ·have h1:(nv ch.length vs)[vs.length]? =some none:=by
   unfold nv;rw[B6 zX,List.getElem?_replicate,if_pos jB]
  have:=o4.1 bP none (cb h1);cases this
 omega
theorem TJ{nA:Nat}{ds:List (List Nat)}(h:Gf ops nA ds E=true):Gl ops nA ds E=true/\∀(i:Nat) (o:Oper),i<nA->ops[i]? =some o->∃d,o.dst=some d:=by
 unfold Gf at h;unfold Gl;simp only[fm,o4,oT]at h ⊢;obtain⟨⟨h1,h2⟩,h3⟩:=h;refine⟨⟨⟨h1,h2⟩,λi hi=>?_⟩,λi o hi ho=>?_⟩
 ·have:=h3 i hi;cases ho:ops[i]? with
  |none=>rfl
  |some o=>
   simp only[ho,fm]at this ⊢;refine⟨this.1,?_⟩;have:=this.2;split at this
   ·rw[if_pos ‹_›];simp only[fm]at this ⊢;refine⟨this.1,?_⟩;have:=this.2;cases hd:o.dst with
    |none=>rfl
    |some d=>simp only[hd]at this ⊢;exact this
   rw[if_neg ‹_›];exact this
 have:=h3 i (aT.1 ho).1;simp only[ho,fm]at this;have:=this.2;rw[if_pos WW]at this;cases hd:o.dst with
 |none=>simp[hd]at this
 |some d=>exact⟨d,rfl⟩
theorem nKk:∀(l:List Oper) (sp:Sp),(∀(i:Nat) (o:Oper),i<sp.length->l[i]? =some o->∃d,o.dst=some d)->vP l sp=true
 | [],[],_=>rfl
 | [],_::_,_=>rfl
 |_::_,[],_=>rfl
 |o::l,(_,u)::sp,h=>by
  have ih:=nKk l sp λi o' hi ho=>h (i+1) o' HY (by simpa using ho);obtain⟨d,hd⟩:=h 0 o zX rfl;cases u<;>simp[vP,ih,hd]
theorem IG{l:List Oper}{nA:Nat}{sp:Sp}(h:Gf l.toArray nA (sp.map (·.1)) E=true):Gl l.toArray nA (sp.map (·.1)) E=true/\vP l sp=true/\∀(i:Nat) (o:Oper),i<nA->l[i]? =some o->∃d,o.dst=some d:=by
 obtain⟨h1,h2⟩:=TJ h;have hl:sp.length=nA:=by
  unfold Gf at h;simp only[fm]at h;simpa using LW h.1.1
 exact⟨h1,nKk l sp λi o hi ho=>h2 i o zJ (by simpa using ho),λi o hi ho=>h2 i o hi (by simpa using ho)⟩
theorem nrl{Q:aC}{l:List Oper}{id:Nat}(nA:Nat)(ch:List Nat)(sp:Sp)(Ph:List Value->List World->ab->Prop)(hm:C.P.follows .mixedOrders=true)(h0:Ph [] L H)(iF:Gf l.toArray nA (sp.map (·.1)) E=true)(hN:wM C.N l=true)(jX:ID l ch=true)(hnd:By ch=true)(qy:ph ch 0 sp=true)(eU:ch.all (λc=>Nat.blt c nA)=true)(pure:∀(i:Nat) (o:Oper) (ds:List Nat) (u:Value),l[i]? =some o->sp[i]? =some (ds,some u)->∀cv L' H',Me ch ds cv.length=true->Ph cv L' H'->X C l.toArray G L' H' (dh l.toArray sp ch cv ds++E) (λ_=>True) o (λv _=>v=u))(step:∀(k c:Nat) (o:Oper) (ds:List Nat) (d:Nat),ch[k]? =some c->l[c]? =some o->sp[c]? =some (ds,none)->o.dst=some d->∀cv L' H',cv.length=k->Ph cv L' H'->∀(F:Env) (Q':aC),(∀v dq dr,Ph (cv++[v]) dq dr->PJ C Q' .normal ((d,v)::(dh l.toArray sp ch cv ds++(E++F))) D G dq dr)->OJ C l.toArray Q' [o] (dh l.toArray sp ch cv ds++(E++F)) D G L' H')(fin:∀cv L' H',cv.length=ch.length->Ph cv L' H'->OJ C l.toArray Q (l.drop nA) (dh l.toArray sp ch cv (List.range nA)++E) D G L' H'):CJ C (.region id l.toArray true) Q E D G L H:=by
 obtain⟨h1,h2,h3⟩:=IG iF;refine nNj nA ch sp Ph hm h0 h1 h2 hN jX hnd qy eU pure step ?_ fin;intro k c o ds hk hl _ hd;exact zak
theorem CJ.net{Q:aC}{l:List Oper}{id:Nat}(nA:Nat)(ch:List Nat)(sp:Sp)(dX:List (List Nat))(Ph:List (Option Value)->List World->ab->Prop)(hm:C.P.follows .mixedOrders=true)(h0:Ph (ch.map λ_=>none) L H)(iF:Gf l.toArray nA (sp.map (·.1)) E=true)(hN:wM C.N l=true)(jX:qb l ch 0 dX=true)(hnd:By ch=true)(qy:ph ch 0 sp=true)(eU:ch.all (λc=>Nat.blt c nA)=true)(pure:∀(i:Nat) (o:Oper) (ds:List Nat) (u:Value),l[i]? =some o->sp[i]? =some (ds,some u)->∀cv L' H',cv.length=ch.length->Gj ch ds cv=true->Ph cv L' H'->X C l.toArray G L' H' (bK l.toArray sp ch cv ds++E) (λ_=>True) o (λv _=>v=u))(step:∀(k c:Nat) (rq:List Nat) (o:Oper) (ds:List Nat) (d:Nat),ch[k]? =some c->dX[k]? =some rq->l[c]? =some o->sp[c]? =some (ds,none)->o.dst=some d->∀cv L' H',cv.length=ch.length->vN rq k cv=true->Ph cv L' H'->∀(F:Env) (Q':aC),(∀v dq dr,Ph (cv.set k (some v)) dq dr->PJ C Q' .normal ((d,v)::(bK l.toArray sp ch cv ds++(E++F))) D G dq dr)->OJ C l.toArray Q' [o] (bK l.toArray sp ch cv ds++(E++F)) D G L' H')(Om:dX.length=ch.length)(fin:∀cv L' H',cv.length=ch.length->cv.all (λx=>x.isSome)=true->Ph cv L' H'->OJ C l.toArray Q (l.drop nA) (bK l.toArray sp ch cv (List.range nA)++E) D G L' H'):CJ C (.region id l.toArray true) Q E D G L H:=by
 obtain⟨h1,h2,h3⟩:=IG iF;refine nnj nA ch sp dX Ph hm h0 h1 h2 hN jX hnd qy eU pure step ?_ Om fin;intro k c rq o ds hk _ hl _ hd;exact zak
def Oo (C:Cx) (ops:Array Oper) (G:Gh) (L:List World) (H:ab) (E:Env) (sp:List OS):List Oper->List OS->Prop
 |o::l,(ds,some u)::ss=>(∀_:Nat->Value,X C ops G L H (dh ops sp [] [] ds++E) (λ_=>True) o (λv _=>v=u))/\Oo C ops G L H E sp l ss
 |_,_=>True
variable {ds:List Nat}
theorem xc{sp:List OS}{o:Oper}{l:List Oper}{u:Value}{ss:List OS}(h:∀_:Nat->Value,X C ops G L H (dh ops sp [] [] ds++E) (λ_=>True) o (λv _=>v=u))(t:Oo C ops G L H E sp l ss):Oo C ops G L H E sp (o::l) ((ds,some u)::ss):=⟨h,t⟩
theorem xn{sp:List OS}{l:List Oper}:Oo C ops G L H E sp l []:=by cases l<;>trivial
theorem BJ(i:Nat):∀sp:Sp,ph [] i sp=true↔∀p∈sp,p.2.isSome=true
 | []=>by simp[ph]
 |(ds,none)::sp=>by simp[ph]
 |(ds,some u)::sp=>by simp[ph,BJ (i+1) sp]
theorem nyi{C:Cx}{ops:Array Oper}{G:Gh}{L:List World}{H:ab}{E:Env}{sp:List OS}:∀(l:List Oper) (ss:List OS),Oo C ops G L H E sp l ss->ph [] 0 ss=true->∀(i:Nat) (o:Oper) (ds:List Nat) (u:Value),l[i]? =some o->ss[i]? =some (ds,some u)->X C ops G L H (dh ops sp [] [] ds++E) (λ_=>True) o (λv _=>v=u)
 | [],_,_,_,i,o,ds,u,hl,_=>by simp at hl
 |_::_,[],_,_,i,o,ds,u,_,hs=>by simp at hs
 |o'::l,(rC,none)::ss,h,hp,i,o,ds,u,hl,hs=>by simp[ph]at hp
 |o'::l,(rC,some u')::ss,h,hp,i,o,ds,u,hl,hs=>by
  cases i with
  |zero=>simp at hl hs;obtain⟨rfl,rfl⟩:=hs;subst hl;exact h.1 λ_=>undef
  |succ i=>exact nyi l ss h.2 (by rw[BJ]at hp ⊢;exact λp qu=>hp p (.tail _ qu)) i o ds u wv (by simpa using hs)
theorem nl{Q:aC}{l:List Oper}{id:Nat}(nA:Nat)(sp:List OS)(hm:C.P.follows .mixedOrders=true)(exec:Oo C l.toArray G L H E sp l sp)(iF:Gf l.toArray nA (sp.map (·.1)) E=true)(hN:wM C.N l=true)(hd:ph [] 0 sp=true)(fin:∀(_:Nat->Value),OJ C l.toArray Q (l.drop nA) (dh l.toArray sp [] [] (List.range nA)++E) D G L H):CJ C (.region id l.toArray true) Q E D G L H:=by
 refine nrl nA [] sp (λcv L' H'=>cv=[]/\L'=L/\H'=H) hm ⟨rfl,rfl,rfl⟩ iF hN rfl rfl hd rfl ?_ (λk c o ds d hk=>by simp at hk) ?_
 ·rintro i o ds u hl hs cv L' H' _ ⟨rfl,rfl,rfl⟩;exact nyi l sp exec hd i o ds u hl hs
 rintro cv L' H' _ ⟨rfl,rfl,rfl⟩;exact fin λ_=>undef
end Px
namespace Px
/-! plain arithmetic: products and quotients of 128 bits -/
theorem BK(x y:Nat)(hx:x<2^64)(hy:y<2^64):(x/2^32)*(y/2^32)+((x/2^32)*(y%2^32)+(x%2^32)*(y%2^32)/2^32)/2^32+(((x/2^32)*(y%2^32)+(x%2^32)*(y%2^32)/2^32)%2^32+(x%2^32)*(y/2^32))/2^32=x*y/2^64:=by
 have h1:=uJ x (2^32);have h2:=uJ y (2^32);generalize x/2^32=x1 at *;generalize x%2^32=x0 at *;generalize y/2^32=y1 at *;generalize y%2^32=y0 at *;have e:x*y=2^64*(x1*y1)+2^32*(x1*y0)+2^32*(x0*y1)+x0*y0:=by
  rw[<-h1,<-h2];have:(2^64:Nat)=2^32*2^32:=by decide
  rw[this];simp only[kN,Nat.mul_add];have a1:2^32*x1*(2^32*y1)=2^32*2^32*(x1*y1):=by
   rw[Nat.mul_mul_mul_comm]
  have a2:2^32*x1*y0=2^32*(x1*y0):=Nat.mul_assoc _ _ _;have a3:x0*(2^32*y1)=2^32*(x0*y1):=Nat.mul_left_comm _ _ _;omega
 rw[e];generalize x1*y1=p at *;generalize x1*y0=q at *;generalize x0*y1=r at *;generalize x0*y0=s at *;omega
theorem n9n(u y1 y0 un q:Nat)(uI:2^31<=y1)(BX:y0<2^32)(CV:un<2^32)(hq:q=u/y1):(u*2^32+un)/(y1*2^32+y0)<=q:=by
 subst hq;apply Nat.le_of_lt_succ;rw[Nat.div_lt_iff_lt_mul zJ];have h:=Nat.lt_succ_self (u/y1);have h2:=uJ u y1;have h3:=Nat.mod_lt u (show 0<y1 by omega);have:u<y1*(u/y1+1):=by rw[Nat.mul_add];omega
 have h4:(u/y1).succ*(y1*2^32+y0)=(y1*(u/y1+1))*2^32+(u/y1+1)*y0:=by
  rw[Nat.succ_eq_add_one,Nat.mul_add,rE (u/y1+1) (y1*2^32),Nat.mul_right_comm]
 rw[h4];generalize y1*(u/y1+1)=z at *;have:(u+1)*2^32<=z*2^32:=s4 _ this;omega
theorem n3f(u y1 y0 un q r:Nat)(hr:u=q*y1+r):(r*2^32+un<q*y0)↔u*2^32+un<q*(y1*2^32+y0):=by
 subst hr;rw[Nat.mul_add,kN,Nat.mul_assoc];omega
def cA (n:Nat):Nat:=if n=0 then 0 else Nat.log2 n+1
theorem nxn(n k:Nat)(h:2^k<=n):cA n=cA (n/2^k)+k:=by
 have hp:0<2^k:=Nat.two_pow_pos k;have hn:n≠0:=by omega
 have hq:n/2^k≠0:=by
  have:=Nat.div_pos h hp;omega
 unfold cA;rw[if_neg hn,if_neg hq];have:Nat.log2 n=Nat.log2 (n/2^k)+k:=by
  have h1:=Nat.log2_self_le hq;have h2:=Nat.lt_log2_self (n:=n/2^k);refine(Nat.log2_eq_iff hn).2 ⟨?_,?_⟩
  ·rw[Nat.pow_add];exact aR (s4 _ h1) (Nat.div_mul_le_self n (2^k))
  rw[show Nat.log2 (n/2^k)+k+1=(Nat.log2 (n/2^k)+1)+k by omega,Nat.pow_add];exact(Nat.div_lt_iff_lt_mul hp).1 h2
 omega
theorem OC(n k:Nat)(h:n<2^k):cA n<=k:=by
 unfold cA;split
 ·omega
 rename_i hn;have:=(Nat.log2_lt hn).2 h;omega
theorem nnl(n:Nat)(h:n≠0):2^(cA n-1)<=n/\n<2^cA n/\1<=cA n:=by
 unfold cA;rw[if_neg h];exact⟨by simpa using Nat.log2_self_le h,Nat.lt_log2_self,by omega⟩
/-! the quotient of 128 bits by 64 -/
theorem nWn(y:Nat)(hy:0<y)(uI:y<2^64):cA y<=64/\2^63<=y*2^(64-cA y)/\y*2^(64-cA y)<2^64:=by
 have hb:=OC y 64 uI;obtain⟨h1,h2,h3⟩:=nnl y zJ;refine⟨hb,?_,?_⟩
 ·have:2^(cA y-1)*2^(64-cA y)<=y*2^(64-cA y):=s4 _ h1;rw[<-Nat.pow_add,show cA y-1+(64-cA y)=63 by omega]at this;exact this
 have:y*2^(64-cA y)<2^cA y*2^(64-cA y):=Nat.mul_lt_mul_of_pos_right h2 (Nat.two_pow_pos _);rw[<-Nat.pow_add,show cA y+(64-cA y)=64 by omega]at this;exact this
theorem npm(lo s:Nat)(hs:s<=64):lo*2^s/2^64=lo/2^(64-s):=by
 have:(2:Nat)^64=2^(64-s)*2^s:=by
  have:=Nat.pow_add 2 (64-s) s;rwa[Nat.sub_add_cancel hs]at this
 rw[this,Nat.mul_div_mul_right _ _ (Nat.two_pow_pos s)]
theorem npn(hi lo y s:Nat)(hs:s<=64)(h:hi<y)(hlo:lo<2^64):(hi*2^s+lo/2^(64-s))*2^64+lo*2^s%2^64=(hi*2^64+lo)*2^s/\hi*2^s+lo/2^(64-s)<y*2^s:=by
 have h1:=uJ (lo*2^s) (2^64);rw[npm lo s hs]at h1;have e:(hi*2^s+lo/2^(64-s))*2^64+lo*2^s%2^64=(hi*2^64+lo)*2^s:=by
  have e1:(hi*2^64+lo)*2^s=hi*2^s*2^64+lo*2^s:=by
   rw[kN,Nat.mul_right_comm]
  rw[e1];generalize lo*2^s=z at *;generalize hi*2^s=z' at *;omega
 refine⟨e,?_⟩;have h2:(hi*2^64+lo)*2^s<(y*2^s)*2^64:=by
  have:hi*2^64+lo<y*2^64:=by
   have:(hi+1)*2^64<=y*2^64:=s4 _ h;rw[kN]at this;omega
  rw[Nat.mul_right_comm];exact Nat.mul_lt_mul_of_pos_right this (Nat.two_pow_pos s)
 rw[<-e]at h2;clear e h1;generalize hi*2^s+lo/2^(64-s)=U at *;generalize y*2^s=Y at *;generalize lo*2^s%2^64=z at *;omega
theorem Gr(u v Y r1 B:Nat)(hr:(u*B+v/B)%Y=r1):u*(B*B)+v=((u*B+v/B)/Y*B+(r1*B+v%B)/Y)*Y+(r1*B+v%B)%Y:=by
 have h1:=uJ (u*B+v/B) Y;have h2:=uJ (r1*B+v%B) Y;have h3:=uJ v B;rw[hr]at h1;clear hr;generalize (u*B+v/B)/Y=d1 at *;generalize (r1*B+v%B)/Y=d0 at *;generalize (r1*B+v%B)%Y=r0 at *;have e1:(d1*B+d0)*Y=Y*d1*B+Y*d0:=by
  rw[kN,Nat.mul_right_comm,rE d1 Y,rE d0 Y]
 rw[e1,Nat.add_assoc,h2];have e2:(Y*d1+r1)*B=(u*B+v/B)*B:=by rw[h1]
 rw[kN,kN,Nat.mul_assoc u B B,rE (v/B) B]at e2;omega
theorem nZb(u v Y r1:Nat)(hr:(u*2^32+v/2^32)%Y=r1):u*2^64+v=((u*2^32+v/2^32)/Y*2^32+(r1*2^32+v%2^32)/Y)*Y+(r1*2^32+v%2^32)%Y:=by
 have:=Gr u v Y r1 (2^32) hr;rw[<-this]
theorem nXb(hi lo y s Qn R:Nat)(hR:R<y*2^s)(h:(hi*2^64+lo)*2^s=Qn*(y*2^s)+R):(hi*2^64+lo)/y=Qn/\(hi*2^64+lo)%y=R/2^s:=by
 have hp:0<2^s:=Nat.two_pow_pos s;generalize hi*2^64+lo=N at *;generalize 2^s=p at *;have hy:0<y:=by
  rcases Nat.eq_zero_or_pos y with rfl|h
  ·simp at hR
  exact h
 have e:R=(N-Qn*y)*p:=by
  rw[Nat.sub_mul,Nat.mul_assoc];omega
 have hle:Qn*y<=N:=by
  apply Nat.le_of_mul_le_mul_right (c:=p) _ hp;rw[Nat.mul_assoc];omega
 have hlt:N-Qn*y<y:=by
  rw[e]at hR;exact Nat.lt_of_mul_lt_mul_right hR
 have hd:R/p=N-Qn*y:=by rw[e,Nat.mul_div_cancel _ hp]
 have hN:N=y*Qn+(N-Qn*y):=by rw[rE y Qn];omega
 rw[hd];constructor
 ·rw[hN,Nat.mul_add_div hy,Nat.div_eq_of_lt hlt];rfl
 have:(y*Qn+(N-Qn*y))%y=N-Qn*y:=by rw[Nat.mul_add_mod,Nat.mod_eq_of_lt hlt]
 rw[<-hN]at this;exact this
structure oJ (u y1 y0 un q r:Nat):Prop where
 eq:q*y1+r=u
 lt:r<2^32
 ge:(u*2^32+un)/(y1*2^32+y0)<=q
 le:q<=2^32+1
section
variable {u y1 y0 un q r:Nat}
theorem oJ.start(uI:2^31<=y1)(afP:y1<2^32)(BX:y0<2^32)(CV:un<2^32)(hu:u<y1*2^32+y0):oJ u y1 y0 un (u/y1) (u%y1):=by
 have h1:=Nat.mod_lt u (show 0<y1 by omega);refine⟨?_,by omega,n9n u y1 y0 un _ uI BX CV rfl,?_⟩
 ·rw[rE];exact uJ u y1
 apply Nat.le_of_lt_succ;rw[Nat.div_lt_iff_lt_mul zJ];rw[Nat.succ_eq_add_one];omega
theorem oJ.small(uI:2^31<=y1)(hu:u<y1*2^32+y0)(CV:un<2^32):(u*2^32+un)/(y1*2^32+y0)<2^32:=by
 rw[Nat.div_lt_iff_lt_mul zJ];omega
theorem oJ.stop(h:oJ u y1 y0 un q r)(uI:2^31<=y1)(ht:q*y0<=r*2^32+un):(u*2^32+un)/(y1*2^32+y0)=q:=by
 have h1:=n3f u y1 y0 un q r h.eq.symm;have h2:q*(y1*2^32+y0)<=u*2^32+un:=Tl λhl=>by have:=h1.2 hl;omega
 have h3:=(Nat.le_div_iff_mul_le (show 0<y1*2^32+y0 by omega)).2 h2;have:=h.ge;omega
theorem oJ.more(h:oJ u y1 y0 un q r)(uI:2^31<=y1)(hu:u<y1*2^32+y0)(CV:un<2^32)(ht:2^32<=q\/r*2^32+un<q*y0):1<=q/\(q-1)*y1+(r+y1)=u/\(u*2^32+un)/(y1*2^32+y0)<=q-1:=by
 have hlt:(u*2^32+un)/(y1*2^32+y0)<q:=by
  rcases ht with ht|ht
  ·exact jT (oJ.small uI hu CV) ht
  have:=(n3f u y1 y0 un q r h.eq.symm).1 ht;rw[Nat.div_lt_iff_lt_mul zJ];exact this
 have hq:1<=q:=Nat.succ_le_of_lt (Nat.lt_of_le_of_lt (db _) hlt);refine⟨hq,?_,Nat.le_sub_one_of_lt hlt⟩;have:=h.eq;rw[Nat.sub_mul,Nat.one_mul];have:y1<=q*y1:=Nat.le_mul_of_pos_left _ hq;omega
theorem TZ(hq:q<=2^32)(hr:2^32<=r)(he:q*y1+r=u)(kU:(u*2^32+un)/(y1*2^32+y0)<=q)(uI:2^31<=y1)(BX:y0<2^32):(u*2^32+un)/(y1*2^32+y0)=q:=by
 have h1:=n3f u y1 y0 un q r he.symm;have hb:q*y0<=2^32*(2^32-1):=Nat.mul_le_mul hq zJ;have h2:q*(y1*2^32+y0)<=u*2^32+un:=Tl λhl=>by have:=h1.2 hl;omega
 have h3:=(Nat.le_div_iff_mul_le (show 0<y1*2^32+y0 by omega)).2 h2;omega
end
theorem Gs(a b i:Nat)(hb:b<2^i):a*2^i|||b=a*2^i+b:=by
 rw[rE];exact(Nat.two_pow_add_eq_or_of_lt hb a).symm
end Px
namespace Px
open Go
theorem GF{a b A B:Int}(ha:0<=a)(eO:a<=A)(hb:0<=b)(aQ:b<=B):0<=a*b/\a*b<=A*B:=
 ⟨Int.mul_nonneg ha hb,Int.mul_le_mul eO aQ hb (Int.le_trans ha eO)⟩
theorem nio(x y:Int)(hx:0<=x)(hy:0<=y)(C2:x<18446744073709551616)(uI:y<18446744073709551616):(x/4294967296)*(y/4294967296)+((x/4294967296)*(y%4294967296)+(x%4294967296)*(y%4294967296)/4294967296)/4294967296+(((x/4294967296)*(y%4294967296)+(x%4294967296)*(y%4294967296)/4294967296)%4294967296+(x%4294967296)*(y/4294967296))/4294967296=x*y/18446744073709551616:=by
 obtain⟨a,rfl⟩:=BZ hx;obtain⟨b,rfl⟩:=BZ hy;have:=BK a b zJ zJ;have h2:((2^32:Nat):Int)=4294967296:=by decide
 have h3:((2^64:Nat):Int)=18446744073709551616:=by decide
 have:=congrArg (Nat.cast (R:=Int)) this;simp only[Int.natCast_add,Int.natCast_mul,Int.natCast_ediv,Int.natCast_emod,h2,h3]at this;exact this
def kV (x:Int):Int:=cA x.toNat
theorem Uy(n k:Nat):((n:Int)/2^k)=((n/2^k:Nat):Int):=by
 rw[Int.natCast_ediv];simp
theorem nnm{x:Int}(k:Nat)(h:2^k<=x):kV x=kV (x/2^k)+k:=by
 have h0:0<=x:=Int.le_trans (Int.le_of_lt (Int.pow_pos zO)) h;obtain⟨n,rfl⟩:=BZ h0;unfold kV;have h':2^k<=n:=by
  have:((2^k:Nat):Int)<=n:=by simpa using h
  exact Int.ofNat_le.1 this
 rw[Uy,uS,uS,nxn n k h'];simp
theorem n6k{x:Int}(k:Nat)(h0:0<=x)(h:x<2^k):0<=kV x/\kV x<=k:=by
 obtain⟨n,rfl⟩:=BZ h0;have h':n<2^k:=by
  have:(n:Int)<((2^k:Nat):Int):=by simpa using h
  exact Int.ofNat_lt.1 this
 have:=OC n k h';unfold kV;simp;omega
theorem wQ(m s:Nat)(hs:s<=64)(h:m*2^s<18446744073709551616):IntKind.u64.wrap ((m:Int)*2^(min (Int.toNat (s:Int)) IntKind.u64.bits))=((m*2^s:Nat):Int):=by
 rw[show min (Int.toNat (s:Int)) IntKind.u64.bits=s by simp[IntKind.bits]<;>omega];have e:((m*2^s:Nat):Int)=(m:Int)*2^s:=by simp
 rw[<-e];exact Iw zJ zJ
theorem C5(m s:Nat)(hs:s<=64):IntKind.u64.wrap ((m:Int)*2^(min (Int.toNat (s:Int)) IntKind.u64.bits))=((m*2^s%2^64:Nat):Int):=by
 rw[show min (Int.toNat (s:Int)) IntKind.u64.bits=s by simp[IntKind.bits]<;>omega];have e:((m*2^s:Nat):Int)=(m:Int)*2^s:=by simp
 rw[<-e,nz];generalize m*2^s=z;omega
theorem IP(m s:Nat)(k:Int)(hk:k=((64-s:Nat):Int)):(m:Int).fdiv (2^(min (Int.toNat k) IntKind.u64.bits))=((m/2^(64-s):Nat):Int):=by
 subst hk;rw[show min (Int.toNat ((64-s:Nat):Int)) IntKind.u64.bits=64-s by simp[IntKind.bits]<;>omega,Pt,Uy]
theorem nqc(m s:Nat)(hs:s<=64):(m:Int).fdiv (2^(min (Int.toNat (s:Int)) IntKind.u64.bits))=((m/2^s:Nat):Int):=by
 rw[show min (Int.toNat (s:Int)) IntKind.u64.bits=s by simp[IntKind.bits]<;>omega,Pt,Uy]
theorem TL(k:Nat)(hk:k<18446744073709551616):(BitVec.ofInt IntKind.u64.bits (k:Int)).toNat=k:=by
 rw[BitVec.ofInt_natCast,BitVec.toNat_ofNat];exact Nat.mod_eq_of_lt hk
theorem GH(a b i:Nat)(hb:b<2^i)(h:a*2^i+b<18446744073709551616):IntKind.u64.wrap ((BitVec.ofInt IntKind.u64.bits ((a*2^i:Nat):Int)|||BitVec.ofInt IntKind.u64.bits (b:Int)).toNat:Int)=((a*2^i+b:Nat):Int):=by
 rw[BitVec.toNat_or,TL _ zJ,TL _ zJ,Gs a b i hb];exact Iw zJ zJ
theorem wR(lo s:Nat)(hs:s<=64)(h:lo<18446744073709551616):lo/2^(64-s)<2^s:=by
 rw[Nat.div_lt_iff_lt_mul (Nat.two_pow_pos _),<-Nat.pow_add,Nat.add_sub_cancel' hs];exact h
theorem TX(a b:Nat):((a:Int)/(b:Int))=((a/b:Nat):Int):=(Int.natCast_ediv a b).symm
theorem wV(m i:Nat)(k:Int)(hk:k=(i:Int))(hi:i<=64):(m:Int).fdiv (2^(min (Int.toNat k) IntKind.u64.bits))=((m/2^i:Nat):Int):=by
 subst hk;exact nqc m i hi
end Px
namespace Px
open Go Go.RowKit
/-! #### own blocks that are forgotten -/
def Over (n:Nat):ab->Prop
 | []=>True
 |p::H=>n<=p.1/\Over n H
variable {H:ab}
theorem Over.mem{n:Nat}(h:Over n H):∀p∈H,n<=p.1:=by
 exact zyj
section
variable {G:Gh} {L:List World} {H:ab} {W:World}
theorem St.base(h:St Gh.no L H W){w:World}(hw:w∈L)(ho:Over w.heap.size H):Below w.heap.size w W:=
 (h.links w hw).below λk hk hx=>by
  rcases hx with hx|hx
  ·exact hx
  obtain⟨p,hp,rfl⟩:=bW.1 hx;have:=ho.mem p hp;omega
def Fr (G:Gh) (L:List World) (b:Nat):Prop:=G.X b\/ad L b
variable {b:Nat} {o:Obj}
theorem St.dropF(h:St G L ((b,o)::H) W)(ha:Fr G L b):St G L H W where
 ghost:=h.ghost
 vlt:=h.vlt
 xlt:=h.xlt
 links:=λw hw=>(h.links w hw).mono λk hk hx=>by
  rcases hx with hx|hx
  ·exact .inl hx
  simp only[eh,cI]at hx;rcases hx with rfl|hx
  ·rcases ha with ha|ha
   ·exact .inl ha
   have:=ha.mem w hw;omega
  exact .inr hx
 own:=λp hp=>h.own p (List.mem_cons_of_mem _ hp)
 nodup:=λi j p q hi hj e=>by
  have:=h.nodup (i+1) (j+1) p q HY (by simpa using hj) e;omega
 apart:=λp hp=>h.apart p (List.mem_cons_of_mem _ hp)
theorem St.drop(h:St G L ((b,o)::H) W)(ha:ad L b):St G L H W:=h.dropF (.inr ha)
theorem St.adopt(h:St G L H W)(hb:W.heap[b]? =some o)(ha:bD H b)(hV:¬G.V b):St G L ((b,o)::H) W where
 ghost:=h.ghost
 vlt:=h.vlt
 xlt:=h.xlt
 links:=λw hw=>(h.links w hw).mono λk _ hx=>hx.imp id λhx=>by simp[hx]
 own:=λp hp=>by
  simp only[cI]at hp;rcases hp with rfl|hp
  ·exact hb
  exact h.own p hp
 nodup:=λi j p q hi hj e=>by
  cases i with
  |zero=>
   cases j with
   |zero=>rfl
   |succ j=>
    simp only[GS,qE,xm]at hi hj;subst hi;exact absurd (bW.2 ⟨q,cb hj,e.symm⟩) ha.mem
  |succ i=>
   cases j with
   |zero=>
    simp only[GS,qE,xm]at hi hj;subst hj;exact absurd (bW.2 ⟨p,cb hi,e⟩) ha.mem
   |succ j=>
    simp only[xm]at hi hj;rw[h.nodup i j p q hi hj e]
 apart:=λp hp=>by
  simp only[cI]at hp;rcases hp with rfl|hp
  ·exact hV
  exact h.apart p hp
end
/-! #### results -/
section
variable {C:Cx} {fn:Func} {R:Ending->World->Prop} {E:Env} {G:Gh} {L:List World} {H:ab}
def RS (C:Cx) (G:Gh) (L:List World) (H:ab) (E:Env):List ResultVar->List Value->Prop
 | [],vs=>vs=[]
 |r::rs,vs=>∃v us,vs=v::us/\(match r with
  | .tmp t=>look E t=some v
  | .cell t T=>∀a W,Fits E a->St G L H W->(do loadVar T (<-asAddr (a.tmps.getD t undef)):Sem Value).run C.P W= .ok v W)/\RS C G L H E rs us
theorem RS.run:∀{rs:List ResultVar} {vs:List Value},RS C G L H E rs vs->∀(a:Act) (W:World),Fits E a->St G L H W->(rs.mapM λr=>(match r with| .tmp t=>pure (a.tmps.getD t undef)| .cell b t=>do loadVar t (<-asAddr (a.tmps.getD b undef)):Sem Value)).run C.P W= .ok vs W
 | [],vs,h,a,W,_,_=>by cases h;simp
 |r::rs,vs,h,a,W,hF,hS=>by
  obtain⟨v,us,rfl,hr,h⟩:=h;have ih:=RS.run h a W hF hS;cases r with
  |tmp t=>
   have:=hF t v hr;simp only[Act.eval]at this;simp[-Array.getD_eq_getD_getElem?,List.mapM_cons,ih,this]
  |cell b T=>
   have:=hr a W hF hS;rw[List.mapM_cons,Sem.run_bind];simp only[this];simp[-Array.getD_eq_getD_getElem?,ih]
variable {rs:List ResultVar} {vs:List Value} {v:Value}
theorem RS.t{t:Nat}(h:look E t=some v)(k:RS C G L H E rs vs):RS C G L H E (.tmp t::rs) (v::vs):=⟨v,vs,rfl,h,k⟩
variable {cs:Array Value} {T b i:Nat} {fr:Nat×Nat}
theorem RS.w{t off ct:Nat}(hi:H[i]? =some (b,.cells cs ct fr))(hA:eZ C.P T false)(hx:look E t=some (ptr b off))(hv:cs[off]? =some v)(k:RS C G L H E rs vs):RS C G L H E (.cell t T::rs) (v::vs):=
 ⟨v,vs,rfl,λa W hF hS=>by
  have:=hF t _ hx;simp only[Act.eval]at this;simp[-Array.getD_eq_getD_getElem?,this,asAddr,nMg hA (hS.own _ (cb hi)) hv],k⟩
theorem RS.wA{t off ct n:Nat}(hi:H[i]? =some (b,.cells cs ct fr))(hA:eZ C.P T true)(hZ:nZ C.P T n)(hx:look E t=some (ptr b off))(hv:off+n<=cs.size)(k:RS C G L H E rs vs):RS C G L H E (.cell t T::rs) (.agg (cut cs off n)::vs):=
 ⟨_,vs,rfl,λa W hF hS=>by
  have:=hF t _ hx;simp only[Act.eval]at this;simp[-Array.getD_eq_getD_getElem?,this,asAddr,ntg hA hZ (hS.own _ (cb hi)) hv],k⟩
theorem RS.n:RS C G L H E [] []:=rfl
def IH:List Value->Value
 | [v]=>v
 |vs=>.tuple vs.toArray
variable {W:World}
theorem RS.res(h:RS C G L H E rs vs)(hr:fn.results=rs.toArray){a:Act}(hF:Fits E a)(hS:St G L H W):(results fn a.tmps).run C.P W= .ok (IH vs) W:=by
 have:=h.run a W hF hS;unfold results;rw[hr,Sem.run_bind,List.mapM_toArray];simp only[Sem.run_map];refine(congrArg (λr=>Result.andThen (Result.andThen r _) _) this).trans ?_
 match vs with
 | []=>rfl
 | [v]=>rfl
 |v::u::vs=>simp[IH]
theorem bH{e:Exit}(he:e= .ret\/e= .normal)(hr:fn.results=rs.toArray)(h:RS C G L H E rs vs)(hR:∀W,St G L H W->R (.returned (IH vs)) W):PJ C (bodyPost C.P fn R) e E [] G L H:=λa W _ hD hF hS=>by
 have:bodyPost C.P fn R .ret a W:=⟨hD,_,h.res hr hF hS,hR W hS⟩;rcases he with rfl|rfl<;>exact this
theorem bF{w:World}{e:Exit}(he:e= .ret\/e= .normal)(hr:fn.results=rs.toArray)(h:RS C Gh.no L H E rs vs)(hw:w∈L)(ho:Over w.heap.size H)(hv:IH vs=v):PJ C (bodyPost C.P fn (ay w v)) e E [] Gh.no L H:=bH he hr h λ_ hS=>⟨by rw[hv],hS.base hw ho⟩
/-! #### a callee that writes a block -/
def wX (w:World) (v:Value) (b:Nat) (o:Obj):Ending->World->Prop:=λe w'=>e= .returned v/\aF (· =b) w w'/\w'.heap[b]? =some o
variable {o:Obj}
theorem Ue{w:World}(h:w.heap[b]? =some o):St Gh.no [w] [(b,o)] w where
 ghost:=trivial
 vlt:=λ_ h=>h.elim
 xlt:=λ_ h=>h.elim
 links:=λw' hw=>by simp at hw;subst hw;exact aF.refl _ _
 own:=λp hp=>by simp at hp;subst hp;exact h
 nodup:=λi j p q hi hj _=>by
  have h1:=(gi.1 hi).1;have h2:=(gi.1 hj).1;simp at h1 h2;omega
 apart:=λ_ _ h=>h.elim
end
section
variable {C:Cx} {Q:aC} {E:Env} {D:List Deferred} {G:Gh} {L:List World} {H:ab} {ops:Array Oper} {l:List Oper}
variable {d T ty f:Nat} {pos:String} {aA:Array Edge} {g:Option (Nat×Bool)} {x y:Operand} {xs:List Operand} {vs:List Value} {dJ:Array Nat}
variable {v:Value}
theorem nK{cap:List Value}(hx:ev E x=some (.func (.func f) #[] cap.toArray))(az:dP C.P f)(hw:np ops E g=some true)(hN:Nat.blt d C.N=true)(ha:gR E xs=some vs)(hc:∀W,St G L H W->Calls C.P f (vs++cap).toArray W (ay W v))(k:OJ C ops Q l ((d,v)::E) D G L H):OJ C ops Q (⟨some d,.call ⟨.value x,xs.toArray,dJ⟩,ty,pos,aA,g⟩::l) E D G L H:=
 nX rfl hw hx ha zX az λa W gQ hD hF hS=>(hc W hS).mono (by
  rintro e W' ⟨rfl,hb⟩;exact k (a.put (some d) v) W' jY jr (hF.put _ kT) (hS.step hb))
variable {b i:Nat} {o:Obj}
theorem MR{first cap:List Value}{o':Obj}(hi:H[i]? =some (b,o))(hx:ev E x=some (.func (.func f) first.toArray cap.toArray))(az:dP C.P f)(hw:np ops E g=some true)(hN:Nat.blt d C.N=true)(ha:gR E xs=some vs)(hc:∀W,St G L H W->W.heap[b]? =some o->Calls C.P f (first++vs++cap).toArray W (wX W v b o'))(k:OJ C ops Q l ((d,v)::E) D G L (H.set i (b,o'))):OJ C ops Q (⟨some d,.call ⟨.value x,xs.toArray,dJ⟩,ty,pos,aA,g⟩::l) E D G L H:=
 nX rfl hw hx ha zX az λa W gQ hD hF hS=>(hc W hS (hS.own _ (cb hi))).mono (by
  rintro e W' ⟨rfl,hk,hb⟩;exact k (a.put (some d) v) W' jY jr (hF.put _ kT) (hS.put hi hk hb))
variable {H':ab}
theorem OJ.reH(e:H=H')(k:OJ C ops Q l E D G L H'):OJ C ops Q l E D G L H:=by rw[e];exact k
theorem CJ.reH{c:Code}(e:H=H')(k:CJ C c Q E D G L H'):CJ C c Q E D G L H:=by rw[e];exact k
theorem PJ.reH{e':Exit}(e:H=H')(k:PJ C Q e' E D G L H'):PJ C Q e' E D G L H:=by rw[e];exact k
variable {e:Nat}
/-! #### values -/
theorem ib{base:Option Addr}{n c:Nat}{t:Nat}(hU:C.P.underlying t=some (.slice e))(hx:ev E x=some (.slice base n c)):RV C G L H E (.call ⟨.builtin .len,#[x],#[t]⟩) (.int .i64 (n:Int)):=λd ty pos aA g a W hF _=>by
 simp[execOp,hF.ev hx,resolve,invoke,Deferred.ofValue,builtin,Builtin.len_,run_underlying hU,goInt]
end
section
variable {C:Cx} {Q:aC} {E:Env} {D:List Deferred} {G:Gh} {L:List World} {H:ab} {ops:Array Oper} {l:List Oper}
variable {d T ty f:Nat} {pos:String} {aA:Array Edge} {g:Option (Nat×Bool)} {x y:Operand} {xs:List Operand} {vs:List Value} {dJ:Array Nat}
def Gt (E:Env):List (Nat×Operand)->Option (List (Nat×Value))
 | []=>some []
 |(i,x)::ps=>match ev E x,Gt E ps with
  |some v,some vs=>some ((i,v)::vs)
  |_,_=>none
theorem Mr{a:Act}(h:Fits E a):∀(ps:List (Nat×Operand)) (vs:List (Nat×Value)),Gt E ps=some vs->ps.map (λ(i,x)=>(i,a.eval x))=vs
 | [],vs,e=>by cases e;rfl
 |(i,x)::ps,vs,e=>by
  simp only[Gt]at e;split at e
  ·rename_i v us hv hus;cases e
   simp[h.ev hv,Mr h ps us hus]
  cases e
theorem BL(xs:List Value):∀(cs:Array Value) (off k:Nat),(xs.zipIdx k).foldl (λcs (c,j)=>cs.setIfInBounds (off+j) c) cs=setCells cs (off+k) xs:=by
 induction xs with
 |nil=>intro cs off k;rfl
 |cons x xs ih=>intro cs off k;simp only[List.zipIdx_cons,List.foldl_cons,setCells];exact ih _ off (k+1)
theorem nno(xs cs:Array Value)(off:Nat):xs.zipIdx.foldl (λcs (c,j)=>cs.setIfInBounds (off+j) c) cs=setCells cs off xs.toList:=by
 rw[<-Array.foldl_toList,Array.toList_zipIdx];exact BL xs.toList cs off 0
def gD:List Value->Nat->List Value->List Value
 | [],_,_=>[]
 |c::cs,0,[]=>c::cs
 |_::cs,0,x::xs=>x::gD cs 0 xs
 |c::cs,n+1,xs=>c::gD cs n xs
theorem nRh(cs:List Value)(n:Nat):gD cs n []=cs:=by
 induction cs generalizing n with
 |nil=>cases n<;>rfl
 |cons c cs ih=>cases n with
  |zero=>rfl
  |succ n=>simp[gD,ih]
theorem BM(cs:List Value)(x:Value)(xs:List Value):∀n,gD (cs.set n x) (n+1) xs=gD cs n (x::xs):=by
 induction cs with
 |nil=>intro n;cases n<;>rfl
 |cons c cs ih=>intro n;cases n with
  |zero=>rfl
  |succ n=>simp only[eB,gD];rw[ih]
theorem M9(xs:List Value):∀(cs:Array Value) (off:Nat),(setCells cs off xs).toList=gD cs.toList off xs:=by
 induction xs with
 |nil=>intro cs off;rw[nRh];rfl
 |cons x xs ih=>intro cs off;rw[setCells,ih,Array.toList_setIfInBounds,BM]
theorem BN(cs xs:Array Value)(h:cs.size=xs.size):setCells cs 0 xs.toList=xs:=by
 apply Array.ext';rw[M9];have key:∀(l r:List Value),l.length=r.length->gD l 0 r=r:=by
  intro l;induction l with
  |nil=>intro r h;simp at h;have:=iZ h.symm;subst this;rfl
  |cons c l ih=>intro r h;cases r with
   |nil=>simp at h
   |cons x r=>simp only[gD];rw[ih r qz]
 exact key _ _ qz
variable {cs:Array Value} {b i:Nat} {v:Value}
theorem bh{t n:Nat}(hi:H[i]? =some (b,.cells cs t (0,0)))(hZ:nZ C.P T n)(hw:np ops E g=some true)(hx:ev E x=some (ptr b 0))(hy:ev E y=some v)(hv:v.cells.size=n)(hn:cs.size=n)(h1:nT v.cells.toList=true)(k:OJ C ops Q l E D G L (H.set i (b,.cells v.cells t (0,0)))):OJ C ops Q (⟨none,.store T x y,ty,pos,aA,g⟩::l) E D G L H:=
 kf hi hZ hw hx hy hv zJ h1 (by rw[BN cs v.cells zJ];exact k)
def II (pl:Nat->Option (Nat×Nat)):List Value->List (Nat×Value)->Option (List Value)
 |cs,[]=>some cs
 |cs,(i,v)::ps=>match pl i with
  |none=>none
  |some (off,n)=>match Nat.beq v.cells.size n&&Nat.ble (off+n) cs.length with
   |true=>II pl (gD cs off v.cells.toList) ps
   |false=>none
theorem Ms{pl:Nat->Option (Nat×Nat)}:∀{ps:List (Nat×Value)} {cs:Array Value} {ds:List Value},II pl cs.toList ps=some ds->Instr.fill pl cs ps=some ds.toArray
 | [],cs,ds,h=>by simp only[II,qE]at h;subst h;rfl
 |(i,v)::ps,cs,ds,h=>by
  simp only[II]at h;unfold Instr.fill;cases hp:pl i with
  |none=>rw[hp]at h;simp at h
  |some q=>
   obtain⟨off,n⟩:=q;rw[hp]at h;simp only at h ⊢;split at h
   ·rename_i hb;simp only[fm,Nat.beq_eq,Nat.ble_eq]at hb;have h1:v.cells.size=n:=hb.1;have h2:off+n<=cs.size:=by simpa using hb.2
    rw[if_neg jB,nno];exact Ms (by rw[M9];exact h)
   simp at h
def tK:Nat->List Value->List (Nat×Value)
 |_,[]=>[]
 |k,v::vs=>(k,v)::tK (k+1) vs
def Gu:List Value->List Value
 | []=>[]
 |v::vs=>v.cells.toList++Gu vs
def Mt (m:Nat):List Value->Bool
 | []=>true
 |v::vs=>Nat.beq v.cells.size m&&Mt m vs
theorem UE(a b c xs:List Value)(h:xs.length=b.length):gD (a++(b++c)) a.length xs=a++(xs++c):=by
 induction a with
 |nil=>
  simp only[dK,mT];induction b generalizing xs with
  |nil=>simp at h;subst h;simp[nRh]
  |cons y b ih=>
   cases xs with
   |nil=>simp at h
   |cons x xs=>simp only[eP,gD];rw[ih xs qz]
 |cons y a ih=>simp only[eP,dQ,gD];rw[ih]
theorem TM(m:Nat):∀(vs:List Value) (k:Nat) (a c:List Value),Mt m vs=true->a.length=k*m->c.length=vs.length*m->II (λi=>some (i*m,m)) (a++c) (tK k vs)=some (a++Gu vs)
 | [],k,a,c,_,_,hc=>by
  have:c=[]:=iZ (by simpa using hc);subst this;rfl
 |v::vs,k,a,c,hs,ha,hc=>by
  simp only[Mt,fm,Nat.beq_eq]at hs;simp only[dQ,kN,Nat.one_mul]at hc;simp only[tK,II];have hv:v.cells.toList.length=m:=by simpa using hs.1
  obtain⟨b,c',rfl,hb⟩:∃b c',c=b++c'/\b.length=m:=⟨c.take m,c.drop m,(DQ m c).symm,by simp;omega⟩;have ht:(Nat.beq v.cells.size m&&Nat.ble (k*m+m) (a++(b++c')).length)=true:=by
   simp only[fm,Nat.beq_eq,Nat.ble_eq,cK]at *;omega
  rw[ht];simp only;rw[<-ha,UE a b c' _ zJ];simp only[cK]at hc;have:=TM m vs (k+1) (a++v.cells.toList) c' hs.2 (by rw[cK,kN];omega) zJ;rw[iX]at this;rw[this,Gu,iX]
def bA (P:Program):List Field->List (Nat×Nat)->Prop
 | [],ps=>ps=[]
 |f::fs,ps=>∃n qs,ps=(f.offset,n)::qs/\nZ P f.type n/\bA P fs qs
theorem bA.n{P:Program}:bA P [] []:=rfl
theorem bA.c{P:Program}{fi:Field}{fs:List Field}{n:Nat}{qs:List (Nat×Nat)}(h:nZ P fi.type n)(k:bA P fs qs):bA P (fi::fs) ((fi.offset,n)::qs):=⟨n,qs,rfl,h,k⟩
theorem bA.run{P:Program}(W:World):∀{fs:List Field} {ps:List (Nat×Nat)},bA P fs ps->(fs.mapM λf=>Functor.map (Prod.mk f.offset) (sizeOf f.type):Sem _).run P W= .ok ps W
 | [],ps,h=>by cases h;simp
 |f::fs,ps,h=>by
  obtain⟨n,qs,rfl,hn,h⟩:=h;simp[List.mapM_cons,hn W,bA.run W h]
variable {ps:List (Nat×Operand)}
theorem bY{fs:List Field}{z:Value}{vs:List (Nat×Value)}{pl:List (Nat×Nat)}{cs:List Value}(hU:C.P.underlying T=some (.struct fs.toArray))(hz:tF C.P T z)(hp:bA C.P fs pl)(ha:Gt E ps=some vs)(hf':II (pl[·]?) z.cells.toList vs=some cs):RV C G L H E (.build T ps.toArray) (.agg cs.toArray):=λd ty pos aA g a W hF _=>by
 have hf:=Ms hf';have h2:(ps.toArray).map (λ(i,x)=>(i,a.eval x))=vs.toArray:=by rw[wK,Mr hF ps vs ha]
 have h3:=hp.run W;simp[execOp,h2,Instr.build,hz W,run_underlying hU,List.mapM_toArray,h3,hf]
variable {e m:Nat}
theorem pK{n:Nat}{z:Value}{vs:List (Nat×Value)}{cs:List Value}(hU:C.P.underlying T=some (.array n e))(hz:tF C.P T z)(hp:nZ C.P e m)(ha:Gt E ps=some vs)(hf':II (λi=>some (i*m,m)) z.cells.toList vs=some cs):RV C G L H E (.build T ps.toArray) (.agg cs.toArray):=λd ty pos aA g a W hF _=>by
 have hf:=Ms hf';have h2:(ps.toArray).map (λ(i,x)=>(i,a.eval x))=vs.toArray:=by rw[wK,Mr hF ps vs ha]
 simp[execOp,h2,Instr.build,hz W,run_underlying hU,hp W,hf]
variable {W:World}
theorem nGd{P:Program}{a:Act}{n:Nat}{z:Value}{vs:List (Nat×Value)}(hU:P.underlying T=some (.slice e))(hp:nZ P e m)(hz:tF P e z)(ha:ps.map (λ(i,x)=>(i,a.eval x))=vs)(Mu:Nat.ble (n*m) 16777216=true)(hf:Instr.fill (λi=>some (i*m,m)) ((Array.range (n*m)).map (λj=>((if n*m=0 then #[]else z.cells)[j%(if n*m=0 then #[]else z.cells).size]!))) vs=some cs):(execOp a.eval ⟨some d,.buildSlice T n ps.toArray,ty,pos,aA,g⟩).run P W= .ok (.value (.slice (some ⟨W.heap.size,0,none⟩) n n)) (W.alloc (.cells cs e (0,0))):=by
 have h2:(ps.toArray).map (λ(i,x)=>(i,a.eval x))=vs.toArray:=by rw[wK,ha]
 have TN:¬(n*m>2^24):=by have:=bj Mu;omega
 by_cases h0:n*m=0
 ·rw[if_pos h0]at hf;simp[execOp,h2,Instr.buildSlice,run_underlying hU,hp W,newRow,newObj];rw[if_neg (by simpa using TN)];simp[h0]at hf ⊢;simp[hf,Sem.run]
 rw[if_neg h0]at hf;simp only[execOp,h2,Instr.buildSlice,Sem.run_bind,run_underlying hU,hp W,Result.andThen,if_neg TN,if_neg h0,hz W,Sem.run_pure,hf,newRow,newObj];simp[Sem.run]
theorem nTg{α:Type}(n:Nat)(f:Nat->α):((Array.range n).map f).toList.length=n:=by simp
theorem Dp{n:Nat}{z:Value}{vs:List (Nat×Value)}(hU:C.P.underlying T=some (.slice e))(hp:nZ C.P e m)(hz:tF C.P e z)(hw:np ops E g=some true)(hN:Nat.blt d C.N=true)(ha:Gt E ps=some vs)(Mu:Nat.ble (n*m) 16777216=true)(hs:vs=tK 0 (vs.map (·.2)))(hl:vs.length=n)(hm:Mt m (vs.map (·.2))=true)(k:∀(b:Nat) (w1:World),w1.heap[b]? =some (.cells (Gu (vs.map (·.2))).toArray e (0,0))->ad L b->bD H b->¬G.X b->w1.heap.size=b+1->OJ C ops Q l ((d,.slice (some ⟨b,0,none⟩) n n)::E) D G (w1::L) H):OJ C ops Q (⟨some d,.buildSlice T n ps.toArray,ty,pos,aA,g⟩::l) E D G L H:=
 oG zX hw hN λa W hF hS=>⟨_,_,_,_,nGd hU hp hz (Mr hF ps vs ha) Mu (Ms (by
  have:=TM m (vs.map (·.2)) 0 [] ((Array.range (n*m)).map (λj=>((if n*m=0 then #[]else z.cells)[j%(if n*m=0 then #[]else z.cells).size]!))).toList hm zX (by rw[nTg,fp,hl]);rw[<-hs,dK,dK]at this;exact this)),(hS.step (Sg W _)).snap,
  k W.heap.size _ (heap_alloc_new W _) hS.sizes hS.offNew hS.mNew zX⟩
variable {K:IntKind}
theorem py{n:Nat}{i:Int}(hU:C.P.underlying T=some (.array n e))(hA:eZ C.P e false)(hZ:nZ C.P e m)(hx:ev E x=some (.agg cs))(hy:ev E y=some (.int K i))(h0:0<=i)(h1:i<n)(hv:cs[i.toNat*m]? =some v):RV C G L H E (.index T x y) v:=λd ty pos aA g a W hF _=>by
 simp[execOp,hF.ev hx,hF.ev hy,Instr.index,asIntOf,run_underlying hU,h0,h1,hZ W,part,hA W,hv]
end
/-! #### numbers of 32 bits -/
abbrev u32 (x:BitVec 32):Value:=.int .u32 (x.toNat:Int)
theorem w32(x:BitVec 32):IntKind.u32.wrap (x.toNat:Int)=(x.toNat:Int):=by
 rw[WR];have:=x.isLt;omega
theorem vR(x:BitVec 32):BitVec.ofInt IntKind.u32.bits (x.toNat:Int)=x:=by
 show BitVec.ofInt 32 (x.toNat:Int)=x;rw[BitVec.ofInt_natCast,BitVec.ofNat_toNat,BitVec.setWidth_eq]
section
variable {C:Cx} {E:Env} {G:Gh} {L:List World} {H:ab} {T U:Nat} {x y:Operand} {a b:BitVec 32}
theorem pD(hx:ev E x=some (u32 a))(hy:ev E y=some (u32 b)):RV C G L H E (.binOp .add T x y U) (u32 (a+b)):=
 RV.re (kC hx hy) (congrArg (Value.int .u32) (by rw[WR,BitVec.toNat_add];omega))
theorem sh(hx:ev E x=some (u32 a))(hy:ev E y=some (u32 b)):RV C G L H E (.binOp .xor T x y U) (u32 (a^^^b)):=
 RV.re (sq hx hy) (congrArg (Value.int .u32) (by rw[vR,vR];exact w32 (a^^^b)))
theorem Mv(hx:ev E x=some (u32 a))(hy:ev E y=some (u32 b)):RV C G L H E (.binOp .and T x y U) (u32 (a&&&b)):=
 RV.re (sd hx hy) (congrArg (Value.int .u32) (by rw[vR,vR];exact w32 (a&&&b)))
theorem tO(hx:ev E x=some (u32 a))(hy:ev E y=some (u32 b)):RV C G L H E (.binOp .or T x y U) (u32 (a|||b)):=
 RV.re (tL hx hy) (congrArg (Value.int .u32) (by rw[vR,vR];exact w32 (a|||b)))
variable {K':IntKind}
theorem xf(j:Nat)(hj:j<=32){n:Int}(hn:n=(j:Int))(hx:ev E x=some (u32 a))(hy:ev E y=some (.int K' n)):RV C G L H E (.binOp .shl T x y U) (u32 (a<<<j)):=by
 subst hn;refine RV.re (lK hx hy (Int.natCast_nonneg _)) (congrArg (Value.int .u32) ?_);have e:min (Int.toNat (j:Int)) IntKind.u32.bits=j:=by simp[IntKind.bits];omega
 rw[e,WR,BitVec.toNat_shiftLeft,Nat.shiftLeft_eq];simp
theorem se(j:Nat)(hj:j<=32){n:Int}(hn:n=(j:Int))(hx:ev E x=some (u32 a))(hy:ev E y=some (.int K' n)):RV C G L H E (.binOp .shr T x y U) (u32 (a>>>j)):=by
 subst hn;refine RV.re (gY hx hy (Int.natCast_nonneg _)) (congrArg (Value.int .u32) ?_);have e:min (Int.toNat (j:Int)) IntKind.u32.bits=j:=by simp[IntKind.bits];omega
 rw[e,Pt,BitVec.toNat_ushiftRight,Nat.shiftRight_eq_div_pow];simp
variable {K:IntKind}
theorem IX{S T':Nat}{ds:TypeDesc}{m:Int}(Bu:C.P.underlying S=some ds)(hT:C.P.underlying T'=some (.int .u32))(hx:ev E x=some (.int K m)):RV C G L H E (.convert S T' x) (u32 (BitVec.ofInt 32 m)):=
 RV.re (hJ Bu hT hx) (congrArg (Value.int .u32) (by rw[WR,BitVec.toNat_ofInt];omega))
end
def tN (v:BitVec 32) (n:Nat):BitVec 32:=v>>>n|||v<<<(32-n)
/-! #### cells by a function -/
def cf (n:Nat) (f:Nat->Value):Array Value:=((List.range n).map f).toArray
theorem GR(n:Nat)(f:Nat->Value)(i:Nat)(h:i<n):(cf n f)[i]? =some (f i):=by simp[cf,h]
theorem xj(n:Nat)(f:Nat->Value):(cf n f).size=n:=by simp[cf]
def B3 {α:Type} (f:Nat->α) (i:Nat) (v:α):Nat->α:=λj=>if j=i then v else f j
theorem OR(n:Nat)(f:Nat->Value)(i:Nat)(v:Value):setCells (cf n f) i [v]=cf n (B3 f i v):=by
 apply Array.ext';rw[M9];simp only[cf];apply tS;intro j;have key:∀(l:List Value) (k:Nat),gD l k [v]=l.set k v:=by
  intro l;induction l with
  |nil=>intro k;cases k<;>rfl
  |cons c l ih=>intro k;cases k with
   |zero=>simp[gD,nRh]
   |succ k=>simp[gD,ih]
 rw[key];by_cases hj:j=i
 ·subst hj;by_cases hn:j<n
  ·rw[Iu (by simpa using hn)];simp[hn,B3]
  rw[so jB,so jB]
 rw[F8 (λe=>hj e.symm)];by_cases hn:j<n
 ·simp[hn,B3,hj]
 rw[so jB,so jB]
theorem MX{n:Nat}{f g:Nat->Value}(h:∀i,i<n->f i=g i):cf n f=cf n g:=by
 unfold cf;congr 1;apply List.map_congr_left;intro i hi;exact h i HY
/-! #### SHA-256, as_ numbers -/
def adR:List (BitVec 32):=[1116352408,1899447441,3049323471,3921009573,961987163,1508970993,2453635748,2870763221,3624381080,310598401,607225278,1426881987,1925078388,2162078206,2614888103,3248222580,3835390401,4022224774,264347078,604807628,770255983,1249150122,1555081692,1996064986,2554220882,2821834349,2952996808,3210313671,3336571891,3584528711,113926993,338241895,666307205,773529912,1294757372,1396182291,1695183700,1986661051,2177026350,2456956037,2730485921,2820302411,3259730800,3345764771,3516065817,3600352804,4094571909,275423344,430227734,506948616,659060556,883997877,958139571,1322822218,1537002063,1747873779,1955562222,2024104815,2227730452,2361852424,2428436474,2756734187,3204031479,3329325298]
def kk (i:Nat):BitVec 32:=adR.getD i 0
def adS:List (BitVec 32):=[1779033703,3144134277,1013904242,2773480762,1359893119,2600822924,528734635,1541459225]
def hh (i:Nat):BitVec 32:=adS.getD i 0
def MU (m:Nat->Int) (o:Nat):BitVec 32:=BitVec.ofInt 32 (m o)<<<24|||BitVec.ofInt 32 (m (o+1))<<<16|||BitVec.ofInt 32 (m (o+2))<<<8|||BitVec.ofInt 32 (m (o+3))
def s0 (x:BitVec 32):BitVec 32:=tN x 7^^^tN x 18^^^x>>>3
def s1 (x:BitVec 32):BitVec 32:=tN x 17^^^tN x 19^^^x>>>10
def ei (m:Nat->Int):Nat->Nat->BitVec 32
 |0=>λ_=>0
 |n+1=>B3 (ei m n) n (if n<16 then MU m (4*n)else ei m n (n-16)+s0 (ei m n (n-15))+ei m n (n-7)+s1 (ei m n (n-2)))
structure S8 where
 a:BitVec 32
 b:BitVec 32
 c:BitVec 32
 d:BitVec 32
 e:BitVec 32
 f:BitVec 32
 g:BitVec 32
 h:BitVec 32
def chf (e f g:BitVec 32):BitVec 32:=(e&&&f)^^^((~~~ e)&&&g)
def maj (a b c:BitVec 32):BitVec 32:=(a&&&b)^^^(a&&&c)^^^(b&&&c)
theorem Dh(e f g:BitVec 32):g^^^(e&&&(f^^^g))=chf e f g:=by
 unfold chf;apply BitVec.eq_of_getLsbD_eq;intro i hi;simp only[BitVec.getLsbD_xor,BitVec.getLsbD_and,BitVec.getLsbD_not,hi,decide_true,Bool.true_and];cases e.getLsbD i<;>cases f.getLsbD i<;>cases g.getLsbD i<;>rfl
theorem Dj(a b c:BitVec 32):(a&&&b)|||(c&&&(a|||b))=maj a b c:=by
 unfold maj;apply BitVec.eq_of_getLsbD_eq;intro i hi;simp only[BitVec.getLsbD_xor,BitVec.getLsbD_and,BitVec.getLsbD_or];cases a.getLsbD i<;>cases b.getLsbD i<;>cases c.getLsbD i<;>rfl
def S8.P (s:S8) (k w:BitVec 32):BitVec 32:=s.h+(tN s.e 6^^^tN s.e 11^^^tN s.e 25)+chf s.e s.f s.g+k+w
def S8.Q (s:S8):BitVec 32:=(tN s.a 2^^^tN s.a 13^^^tN s.a 22)+maj s.a s.b s.c
def S8.step (s:S8) (k w:BitVec 32):S8:=⟨s.P k w+s.Q,s.a,s.b,s.c,s.d+s.P k w,s.e,s.f,s.g⟩
def S8.run (w:Nat->BitVec 32) (s:S8):Nat->S8
 |0=>s
 |n+1=>(S8.run w s n).step (kk n) (w n)
def S8.add (s t:S8):S8:=⟨s.a+t.a,s.b+t.b,s.c+t.c,s.d+t.d,s.e+t.e,s.f+t.f,s.g+t.g,s.h+t.h⟩
def S8.comp (s:S8) (m:Nat->Int):S8:=s.add (s.run (ei m 64) 64)
def S8.at (s:S8):Nat->BitVec 32
 |0=>s.a|1=>s.b|2=>s.c|3=>s.d|4=>s.e|5=>s.f|6=>s.g|_=>s.h
def S8.cells (s:S8):Array Value:=#[u32 s.a,u32 s.b,u32 s.c,u32 s.d,u32 s.e,u32 s.f,u32 s.g,u32 s.h]
def S8.init:S8:=⟨1779033703,3144134277,1013904242,2773480762,1359893119,2600822924,528734635,1541459225⟩
def ea (n:Nat):Nat:=(n+72)/64
def sk (n:Nat) (m:Nat->Int) (i:Nat):Int:=
 if i<n then m i else if i=n then 128 else if i<64*ea n-8 then 0 else((8*n/2^(8*(64*ea n-1-i)):Nat):Int)%256
def mU (n:Nat) (m:Nat->Int):Nat->S8
 |0=>S8.init
 |j+1=>(mU n m j).comp (λi=>sk n m (64*j+i))
def xp (s:S8) (i:Nat):Int:=((s.at (i/4)).toNat/2^(24-8*(i%4))%256:Nat)
def rF (n:Nat) (m:Nat->Int):Nat->Int:=xp (mU n m (ea n))
theorem Dq(n:Nat)(m:Nat->Int):∀i,0<=rF n m i/\rF n m i<256:=λi=>by unfold rF xp;omega
theorem S8.cells_cf(s:S8):s.cells=cf 8 (λi=>u32 (s.at i)):=rfl
theorem S8.cells_at(s:S8)(i:Nat)(h:i<8):s.cells[i]? =some (u32 (s.at i)):=by rw[S8.cells_cf];exact GR 8 _ i h
theorem Mw{α:Type}:∀(H:List α) (i:Nat) (p:α),H[i]? =some p->H.Perm (p::H.eraseIdx i)
 | [],i,p,h=>by simp at h
 |q::H,0,p,h=>by simp at h;subst h;simp
 |q::H,i+1,p,h=>by
  simp only[xm]at h;simp only[qG];exact((Mw H i p h).cons q).trans (List.Perm.swap _ _ _)
theorem W6{α:Type}:∀(H:List α) (i:Nat) (q:α),i<H.length->(H.set i q).Perm (q::H.eraseIdx i)
 | [],i,q,h=>by simp at h
 |r::H,0,q,_=>by simp
 |r::H,i+1,q,h=>by
  simp only[eB,qG];exact((W6 H i q qz).cons r).trans (List.Perm.swap _ _ _)
section
variable {G:Gh} {L:List World} {H:ab} {W:World}
variable {b i:Nat} {o:Obj}
theorem St.renew(h:St G L H W)(o':Obj)(hi:H[i]? =some (b,o))(ha:ad L b):St G L (H.set i (W.heap.size,o')) (W.alloc o'):=by
 have rO:=(gi.1 hi).1;have hp:H.Perm ((b,o)::H.eraseIdx i):=Mw H i _ hi;have h1:=(h.perm hp).drop ha;exact(h1.alloc o').perm (W6 H i _ rO).symm
theorem St.dropAt(h:St G L H W)(hi:H[i]? =some (b,o))(ha:ad L b):St G L (H.eraseIdx i) W:=by
 have rO:=(gi.1 hi).1;have hp:H.Perm ((b,o)::H.eraseIdx i):=Mw H i _ hi;exact(h.perm hp).drop ha
end
def Rd (C:Cx) (G:Gh) (L:List World) (H:ab) (size n:Nat) (v:Value) (news:List Value):Prop:=
 ∀W,St G L H W->(Builtin.firstCells size n v).run C.P W= .ok news.toArray W
section
variable {C:Cx} {Q:aC} {E:Env} {D:List Deferred} {G:Gh} {L:List World} {H:ab} {ops:Array Oper} {l:List Oper}
variable {d T ty f:Nat} {pos:String} {aA:Array Edge} {g:Option (Nat×Bool)} {x y:Operand} {xs:List Operand} {vs:List Value} {dJ:Array Nat}
variable {cs:Array Value} {b k size:Nat} {fr:Nat×Nat} {W:World}
theorem W8{P:Program}{off n c t:Nat}(h:W.heap[b]? =some (.cells cs t fr))(hn:off+n*size<=cs.size):(Builtin.firstCells size n (.slice (some ⟨b,off,none⟩) k c)).run P W= .ok (cut cs off (n*size)) W:=by
 simp only[Builtin.firstCells];rw[nkg h hn,nuh]
variable {news:List Value} {i:Nat}
theorem Rd.own{n off c t:Nat}(hi:H[i]? =some (b,.cells cs t fr))(hn:off+n*size<=cs.size)(he:(cs.toList.drop off).take (n*size)=news):Rd C G L H size n (.slice (some ⟨b,off,none⟩) k c) news:=λW hS=>by rw[W8 (hS.own _ (cb hi)) hn];unfold cut;rw[he]
variable {w1:World}
theorem Rd.old{n off c t:Nat}(hm:w1∈L)(hb:w1.heap[b]? =some (.cells cs t fr))(hG:¬G.X b)(hO:bD H b)(hn:off+n*size<=cs.size)(he:(cs.toList.drop off).take (n*size)=news):Rd C G L H size n (.slice (some ⟨b,off,none⟩) k c) news:=λW hS=>by rw[W8 (hS.old hm hb hG hO) hn];unfold cut;rw[he]
theorem Rd.str{s:ByteArray}:Rd C G L H 1 s.size (.string s) (byteCells s):=λW _=>firstCells_string s W
structure jh (C:Cx) (G:Gh) (L:List World) (H:ab) (size tx:Nat) (x:Value) (n:Nat) (news:List Value):Prop where
 kind:(∃e',C.P.underlying tx=some (.slice e'))\/C.P.underlying tx=some .string
 len:∀w':World,(Builtin.lenOf x).run C.P w'= .ok n w'
 rd:Rd C G L H size n x news
 newsLen:news.length=n*size
 one:∀u∈news,u.oneCell'=true
variable {tx:Nat} {v:Value}
theorem jh.src{n:Nat}(h:jh C G L H size tx v n news)(hS:St G L H W):Src C.P size tx v n news W:=
 ⟨h.kind,h.len,h.rd W hS,h.rd W.drew (hS.step (Eb W _)),h.newsLen,h.one⟩
variable {a:Option Addr}
theorem jh.sl{e' n c:Nat}(hU:C.P.underlying tx=some (.slice e'))(hr:Rd C G L H size n (.slice a n c) news)(hl:news.length=n*size)(h1:∀u∈news,u.oneCell'=true):jh C G L H size tx (.slice a n c) n news:=⟨.inl ⟨e',hU⟩,λ_=>rfl,hr,hl,h1⟩
theorem nZd(b:Nat):∀(news:List Value) (o:Nat) (W:World) (cs:Array Value) (t:Nat),W.heap[b]? =some (.cells cs t (0,0))->aF (· =b) W (W.setCells b o news)/\(W.setCells b o news).heap[b]? =some (.cells (setCells cs o news) t (0,0))
 | [],o,W,cs,t,h=>⟨aF.refl _ _,h⟩
 |v::vs,o,W,cs,t,h=>by
  obtain⟨h1,h2⟩:=nZd b vs (o+1) (W.setCell ⟨b,o,none⟩ v) _ t (nzg v h);exact⟨(nqg W b o v).trans h1,h2⟩
variable {sp:List Value} {e m:Nat} {sv:Value}
theorem O3{n len cap t:Nat}{ti:TypeInfo}{z:Value}{ys:List Value}(hi:H[i]? =some (b,.cells (ys++sp).toArray e (0,0)))(hU:C.P.underlying t=some (.slice e))(pj:C.P.info? e=some ti)(hz:ti.zero=some z)(hm:ti.size=m)(yH:z.cells.size=m)(hw:np ops E g=some true)(hN:Nat.blt d C.N=true)(hx:ev E x=some (.slice (some ⟨b,0,none⟩) len cap))(hy:ev E y=some sv)(hs:jh C G L H m tx sv n news)(hlen:ys.length=len*m)(xR:sp.length=(cap-len)*m)(Yd:len<=cap)(ha:ad L b)(h63:len+n<=9223372036854775807)(mD:(len+n)*ti.bytes<=140737488355328)(k:∀(b' aP:Nat) (bG:List Value),ad L b'->len+n<=aP->bG.length=(aP-(len+n))*m->OJ C ops Q l ((d,.slice (some ⟨b',0,none⟩) (len+n) aP)::E) D G L (H.set i (b',.cells (ys++news++bG).toArray e (0,0)))):OJ C ops Q (⟨some d,.call ⟨.builtin .append,#[x,y],#[t,tx]⟩,ty,pos,aA,g⟩::l) E D G L H:=
 oG zX hw hN λa W hF hS=>by
  subst hm;have rD:=hs.src hS;have hb:=hS.own _ (cb hi);have hex:∀{v W'},(Builtin.append_ #[t,tx] ty #[.slice (some ⟨b,0,none⟩) len cap,sv]).run C.P W= .ok v W'->(execOp a.eval ⟨some d,.call ⟨.builtin .append,#[x,y],#[t,tx]⟩,ty,pos,aA,g⟩).run C.P W= .ok (.value v) W':=by
   intro v W' hr;simp[execOp,hF.ev hx,hF.ev hy,resolve,invoke,Deferred.ofValue,builtin,hr]
  have Ky:=hs.newsLen;by_cases iA:len+n<=cap
  ·have hle:(len+n)*ti.size<=cap*ti.size:=s4 _ iA;have iW:(ys++sp).toArray.size=cap*ti.size:=by
    simp only[qF,cK,hlen,xR];rw[<-kN];congr 1;omega
   rw[kN]at hle;have hr:=run_append_room_src (P:=C.P) W t tx ty e ti hU pj b 0 len cap sv n news rD iA
    (λj hj=>by rw[Cc hb];simp only[iC];rw[Gn zJ];rfl)
    (λj hj=>by simp[World.frozen?,hb])
   obtain⟨h1,h2⟩:=nZd b news (0+len*ti.size) W _ _ hb;have jC:(sp.drop (n*ti.size)).length=(cap-(len+n))*ti.size:=by
    rw[yT,xR,<-Nat.sub_mul];congr 1;omega
   have hc:setCells (ys++sp).toArray (0+len*ti.size) news=(ys++news++sp.drop (n*ti.size)).toArray:=by
    exact z3i
   rw[hc]at h2;exact⟨_,_,_,_,hex hr,hS.put hi h1 h2,k b cap _ ha iA jC⟩
  have hold:(Builtin.firstCells ti.size len (.slice (some ⟨b,0,none⟩) len cap)).run C.P W.drew= .ok ys.toArray W.drew:=by
   exact znj
  have hr:=run_append_grow_src (P:=C.P) W t tx ty e ti z hU pj hz (some ⟨b,0,none⟩) len cap ys hold sv n news rD zJ zJ (growslice_fits zJ mD);have hg:=grownCap_ge W (len+n) cap e;have fq:=(hS.step (Eb W (W.drawn+1))).renew (.cells ((ys++news).toArray++Builtin.zeroCells z.cells (grownCap W (len+n) cap e-(len+n))) e (0,0)) hi ha;have Hx:(Builtin.zeroCells z.cells (grownCap W (len+n) cap e-(len+n))).toList.length=(grownCap W (len+n) cap e-(len+n))*ti.size:=by
   simp[Builtin.zeroCells,yH]
  have hc:(ys++news).toArray++Builtin.zeroCells z.cells (grownCap W (len+n) cap e-(len+n))=(ys++news++(Builtin.zeroCells z.cells (grownCap W (len+n) cap e-(len+n))).toList).toArray:=by
   apply Array.ext';simp
  rw[hc]at fq hr;exact⟨_,_,_,_,hex hr,fq,k W.heap.size _ _ hS.sizes hg Hx⟩
def BE (E:Env):Option Operand->Nat->Nat->Prop
 |none,d,l=>l=d
 |some o,_,l=>∃K i,ev E o=some (.int K i)/\i=(l:Int)
theorem BE.val{a:Act}(hF:Fits E a):∀{lo:Option Operand} {d' l:Nat},BE E lo d' l->(lo.map a.eval=none/\l=d')\/∃K,lo.map a.eval=some (.int K (l:Int))
 |none,_,_,h=>.inl ⟨rfl,h⟩
 |some o,_,_,h=>by obtain⟨K,i,h,rfl⟩:=h;exact .inr ⟨K,by simp[hF.ev h]⟩
variable {hi:Option Operand}
theorem nOk{P:Program}{a:Act}(hF:Fits E a)(s:Bool){n c l h:Nat}{lo:Option Operand}(hl:BE E lo 0 l)(hh:BE E hi n h)(h1:l<=h)(h2:h<=c):(Instr.sliceBounds s n c (lo.map a.eval) (hi.map a.eval) none).run P W= .ok (l,h,c) W:=by
 rcases hl.val hF with⟨e1,e2⟩|⟨K,e1⟩<;>rcases hh.val hF with⟨f1,f2⟩|⟨K',f1⟩<;>rw[e1,f1]
 ·subst e2;subst f2;simp[Instr.sliceBounds]
 ·subst e2;simp[Instr.sliceBounds,Instr.sliceBound,asIntOf,h2]
 ·subst f2;simp[Instr.sliceBounds,Instr.sliceBound,asIntOf,h1]
 simp[Instr.sliceBounds,Instr.sliceBound,asIntOf,h1,h2]
theorem gO{off n c l h off':Nat}{lo:Option Operand}(hU:C.P.underlying T=some (.slice e))(hZ:nZ C.P e m)(hx:ev E x=some (.slice (some ⟨b,off,none⟩) n c))(hl:BE E lo 0 l)(hh:BE E hi n h)(h1:l<=h)(h2:h<=c)(ho:off'=if c=l then off else off+l*m):RV C G L H E (.slice T x lo hi none) (.slice (some ⟨b,off',none⟩) (h-l) (c-l)):=λd ty pos aA g a W hF _=>by
 subst ho;have:=nOk (P:=C.P) (W:=W) hF true hl hh h1 h2;simp[execOp,hF.ev hx,Instr.sliceAt,Instr.slice,run_underlying hU,this,hZ W,Iy];split<;>rfl
theorem xi{off n l h off':Nat}{lo:Option Operand}(hU:C.P.underlying T=some (.array n e))(hZ:nZ C.P e m)(hx:ev E x=some (ptr b off))(hl:BE E lo 0 l)(hh:BE E hi n h)(h1:l<=h)(h2:h<=n)(ho:off'=if n=l then off else off+l*m):RV C G L H E (.slice T x lo hi none) (.slice (some ⟨b,off',none⟩) (h-l) (n-l)):=λd ty pos aA g a W hF _=>by
 subst ho;have:=nOk (P:=C.P) (W:=W) hF false hl hh h1 h2;simp[execOp,hF.ev hx,Instr.sliceAt,run_underlying hU,Instr.sureAddr,this,hZ W,Iy];split<;>rfl
theorem fM{off n c h:Nat}(hU:C.P.underlying T=some (.slice e))(hZ:nZ C.P e m)(hx:ev E x=some (.slice (some ⟨b,off,none⟩) n c))(hh:BE E hi n h)(h2:h<=c):RV C G L H E (.slice T x none hi none) (.slice (some ⟨b,off,none⟩) h c):=gO (l:=0) hU hZ hx rfl hh (db _) h2 (by split<;>omega)
theorem kg{off n h:Nat}(hU:C.P.underlying T=some (.array n e))(hZ:nZ C.P e m)(hx:ev E x=some (ptr b off))(hh:BE E hi n h)(h2:h<=n):RV C G L H E (.slice T x none hi none) (.slice (some ⟨b,off,none⟩) h n):=xi (l:=0) hU hZ hx rfl hh (db _) h2 (by split<;>omega)
variable {us:List Value}
theorem Mx{fn:Fn}{fs xs:List Operand}(hf:gR E fs=some us)(ha:gR E xs=some vs):RV C G L H E (.makeFunc fn fs.toArray xs.toArray) (.func fn us.toArray vs.toArray):=λd ty pos aA g a W hF _=>by
 have h1:(fs.toArray).map a.eval=us.toArray:=by rw[wK,Gb hF fs us hf]
 have h2:(xs.toArray).map a.eval=vs.toArray:=by rw[wK,Gb hF xs vs ha]
 simp[execOp,Instr.makeFunc,h1,h2]
theorem Bv{a:Addr}(hx:ev E x=some (.pointer (some a))):RV C G L H E (.nilCheck x) (.pointer (some a)):=λd ty pos aA g a' W hF _=>by
 simp[execOp,hF.ev hx]
theorem sf{m:Int}(hx:ev E x=some (.int .i64 m))(h0: -9223372036854775807<=m)(h1:m<=9223372036854775807):RV C G L H E (.unOp .neg T x) (.int .i64 (-m)):=λd ty pos aA g a W hF _=>by
 simp[execOp,hF.ev hx,Op.unary,Op.intArith,GP (n:= -m) zJ zJ]
theorem L2{base:Option Addr}{n c t:Nat}(hU:C.P.underlying t=some (.slice e))(hx:ev E x=some (.slice base n c)):RV C G L H E (.call ⟨.builtin .cap,#[x],#[t]⟩) (.int .i64 (c:Int)):=λd ty pos aA g a W hF _=>by
 simp[execOp,hF.ev hx,resolve,invoke,Deferred.ofValue,builtin,Builtin.cap_,run_underlying hU,goInt]
theorem Um{t off n len cap t':Nat}(hi:H[i]? =some (b,.cells cs t' (0,0)))(hU:C.P.underlying t=some (.slice e))(hZ:nZ C.P e m)(hw:np ops E g=some true)(hN:Nat.blt d C.N=true)(hx:ev E x=some (.slice (some ⟨b,off,none⟩) len cap))(hy:ev E y=some sv)(hlen:∀w':World,(Builtin.lenOf sv).run C.P w'= .ok k w')(hn:n=min k len)(hs:Rd C G L H m n sv news)(hl:off+news.length<=cs.size)(h1:nT news=true)(kk:OJ C ops Q l ((d,.int .i64 (n:Int))::E) D G L (H.set i (b,.cells (setCells cs off news) t' (0,0)))):OJ C ops Q (⟨some d,.call ⟨.builtin .copy,#[x,y],#[t,tx]⟩,ty,pos,aA,g⟩::l) E D G L H:=
 oG zX hw hN λa W hF hS=>by
  have hb:=hS.own _ (cb hi);obtain⟨W',hr,hk,ef⟩:=WT (P:=C.P) (off:=off) news 0 cs W hb zJ h1;refine⟨_,W',_,_,?_,hS.put hi hk ef,kk⟩;have BI:=hs W hS;subst hn;simp[execOp,hF.ev hx,hF.ev hy,resolve,invoke,Deferred.ofValue,builtin,Builtin.copy_,run_underlying hU,hlen W,hZ W,Nat.min_def]at BI ⊢;split<;>simp_all[goInt]
theorem OZ{t ln cp:Nat}{kl kc:IntKind}{ti:TypeInfo}{z:Value}(hU:C.P.underlying t=some (.slice e))(pj:C.P.info? e=some ti)(hz:ti.zero=some z)(h1:z.cells=#[z])(hm:ti.size=1)(hw:np ops E g=some true)(hN:Nat.blt d C.N=true)(hx:ev E x=some (.int kl (ln:Int)))(hy:ev E y=some (.int kc (cp:Int)))(Yd:ln<=cp)(hb:ti.bytes*cp<=281474976710656)(h63:cp<=9223372036854775807)(k:∀(b:Nat),ad L b->bD H b->OJ C ops Q l ((d,.slice (some ⟨b,0,none⟩) ln cp)::E) D G L ((b,.cells (cf cp (λ_=>z)) e (0,0))::H)):OJ C ops Q (⟨some d,.makeSlice t x y,ty,pos,aA,g⟩::l) E D G L H:=
 oG zX hw hN λa W hF hS=>by
  have hr:=run_make (P:=C.P) W t e ti z hU pj hz kl kc ln cp (Int.natCast_nonneg _) zJ (by
   have:((ti.bytes*cp:Nat):Int)<=281474976710656:=by omega
   rwa[Int.natCast_mul]at this) zJ
  simp only[uS,hm,sm]at hr;have hc:madeCells z.cells cp=cf cp (λ_=>z):=by
   apply Array.ext';rw[h1];simp[madeCells,cf,Nat.mod_one]
  rw[hc]at hr;exact⟨_,_,_,_,by simp[execOp,hF.ev hx,hF.ev hy,hr],hS.alloc _,k W.heap.size hS.sizes hS.offNew⟩
variable {ps:List (Nat×Operand)}
theorem kr{n:Nat}{z:Value}{vs:List (Nat×Value)}(hU:C.P.underlying T=some (.slice e))(hp:nZ C.P e m)(hz:tF C.P e z)(hw:np ops E g=some true)(hN:Nat.blt d C.N=true)(ha:Gt E ps=some vs)(Mu:Nat.ble (n*m) 16777216=true)(hs:vs=tK 0 (vs.map (·.2)))(hl:vs.length=n)(hm:Mt m (vs.map (·.2))=true)(k:∀(b:Nat),ad L b->bD H b->OJ C ops Q l ((d,.slice (some ⟨b,0,none⟩) n n)::E) D G L ((b,.cells (Gu (vs.map λp:Nat×Value=>p.2)++[]).toArray e (0,0))::H)):OJ C ops Q (⟨some d,.buildSlice T n ps.toArray,ty,pos,aA,g⟩::l) E D G L H:=
 oG zX hw hN λa W hF hS=>⟨_,_,_,_,nGd hU hp hz (Mr hF ps vs ha) Mu (Ms (by
  have:=TM m (vs.map (·.2)) 0 [] ((Array.range (n*m)).map (λj=>((if n*m=0 then #[]else z.cells)[j%(if n*m=0 then #[]else z.cells).size]!))).toList hm zX (by rw[nTg,fp,hl]);rw[<-hs,dK,dK]at this;exact this)),hS.alloc _,by have:=k W.heap.size hS.sizes hS.offNew;rw[dH]at this;exact this⟩
variable {o:Obj}
theorem OJ.dropAt(hi:H[i]? =some (b,o))(ha:ad L b)(k:OJ C ops Q l E D G L (H.eraseIdx i)):OJ C ops Q l E D G L H:=λa W hN hD hF hS=>k a W hN hD hF (hS.dropAt hi ha)
theorem CJ.dropAt{c:Code}(hi:H[i]? =some (b,o))(ha:ad L b)(k:CJ C c Q E D G L (H.eraseIdx i)):CJ C c Q E D G L H:=λa W hN hD hF hS=>k a W hN hD hF (hS.dropAt hi ha)
theorem PJ.dropAt{e':Exit}(hi:H[i]? =some (b,o))(ha:ad L b)(k:PJ C Q e' E D G L (H.eraseIdx i)):PJ C Q e' E D G L H:=λa W hN hD hF hS=>k a W hN hD hF (hS.dropAt hi ha)
end
end Px
