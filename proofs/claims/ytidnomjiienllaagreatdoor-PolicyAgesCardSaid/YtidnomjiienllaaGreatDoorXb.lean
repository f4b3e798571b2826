/- The memory of a call, its operations, iterators, slices, maps: lemmas by which the walks go. No condition beyond those that each theorem states. -/
import Derived.Test.YtidnomjiienllaaGreatDoorXa
import Derived.OrdersIn
import Derived.Deep.AppendSrc
import Derived.Laws.MakeOwn
set_option linter.unusedSimpArgs false
set_option linter.unusedVariables false
set_option linter.unusedSectionVars false
set_option maxRecDepth 20000
set_option maxHeartbeats 8000000
namespace Px
open Go Go.RowKit
def X (C:Cx) (ops:Array Oper) (G:Gh) (L:List World) (H:Heap) (E:Env) (Pre:World->Prop) (o:Oper) (Φ:Value->World->Prop):Prop:=
 ∀(a:Act) (W:World) (K:Act->World->Prop) (Q:Post),a.tmps.size=C.N->Fits E a->St G L H W->Pre W->
  (∀v W',Below W.heap.size W W'->Φ v W'->K (a.put o.dst v) W')->
  if Region.wanted o (yielded ops a.tmps)then o.wpIn (FW C.r) 0 C.P a W K Q else K (a.put o.dst undef) W
section
variable {C:Cx} {G:Gh} {L:List World} {H:Heap} {E:Env} {Pre:World->Prop} {ops:Array Oper} {Φ:Value->World->Prop}
variable {d ty:Nat} {op:Op} {pos:String} {aft:Array Edge} {g:Option (Nat×Bool)}
theorem X.val{v:Value}(hnd:nOg op=true)(hw:nm ops E g=some true)(hr:RV C G L H E op v)(hΦ:∀W,Pre W->Φ v W):X C ops G L H E Pre ⟨some d,op,ty,pos,aft,g⟩ Φ:=by
 intro a W K Q _ hF hS hP hk;rw[if_pos (nsb hF hw)];refine⟨λ_ _=>trivial,?_⟩;rw[Oper.semAt_eq _ _ _ (nd_of hnd),hr d ty pos aft g a W hF hS,Oper.uponIn_value];exact hk v W (Below.refl _ _) (hΦ W hP)
theorem X.off(hw:nm ops E g=some false)(hΦ:∀W,Pre W->Φ undef W):X C ops G L H E Pre ⟨some d,op,ty,pos,aft,g⟩ Φ:=by
 intro a W K Q _ hF hS hP hk;rw[if_neg (by rw[nsb hF hw];simp)];exact hk undef W (Below.refl _ _) (hΦ W hP)
variable {f:Nat} {xs:List Operand} {vs:List Value} {tys:Array Nat}
theorem X.call{R:World->Ending->World->Prop}(hent:Ent C.P f)(hw:nm ops E g=some true)(ha:evs E xs=some vs)(hc:∀W,St G L H W->Pre W->Calls C.P f vs.toArray W (R W))(hR:∀W e W',R W e W'->Pre W->∃v,e= .returned v/\Below W.heap.size W W'/\Φ v W'):X C ops G L H E Pre ⟨some d,.call ⟨.value (.func f),xs.toArray,tys⟩,ty,pos,aft,g⟩ Φ:=by
 intro a W K Q _ hF hS hP hk;rw[if_pos (nsb hF hw)];refine⟨λ_ _=>trivial,?_⟩;have hr:(execOp a.eval ⟨some d,.call ⟨.value (.func f),xs.toArray,tys⟩,ty,pos,aft,g⟩).run C.P W= .ok (.enter f vs.toArray) W:=by
  have h2:(xs.toArray).map a.eval=vs.toArray:=by rw[aro,nic hF xs vs ha]
  simp only[execOp,resolve,Act.eval,Deferred.ofValue,h2];simp[invoke,hent _ W]
 rw[Oper.semAt_eq _ _ _ zS,hr,Oper.uponIn_enter];refine⟨by simp,nIb.2 ((hc W hS hP).mono ?_)⟩;intro e W' h;obtain⟨v,rfl,hb,hv⟩:=hR W e W' h hP;exact hk v W' hb hv
theorem ni{v:Value}(hent:Ent C.P f)(hw:nm ops E g=some true)(ha:evs E xs=some vs)(hc:∀W,St G L H W->Pre W->Calls C.P f vs.toArray W (Ret W v))(hΦ:∀W,Φ v W):X C ops G L H E Pre ⟨some d,.call ⟨.value (.func f),xs.toArray,tys⟩,ty,pos,aft,g⟩ Φ:=
 X.call hent hw ha hc λ_ _ W' h _=>⟨v,h.1,h.2,hΦ W'⟩
end
theorem ndb(A B:Env)(t:Nat):look (A++B) t=(look A t).or (look B t):=by
 induction A with
 |nil=>simp[look]
 |cons p A ih=>
  obtain⟨k,v⟩:=p;simp only[aEo,look];cases Nat.beq k t<;>simp[ih]
theorem nfc{A B:Env}{a:Act}(h1:Fits A a)(h2:Fits B a):Fits (A++B) a:=by
 intro t v hv;rw[ndb]at hv;cases h:look A t with
 |some u=>simp[h]at hv;subst hv;exact h1 t u h
 |none=>simp[h]at hv;exact h2 t v hv
def nlm (o:Oper):List Nat:=(o.after.toList.filter (λe=>Region.binds .any e)).map (·.on)
def nQe (acc:List Nat):List Nat->Nat
 | []=>0
 |j::js=>(1<<<j)|||acc.getD j 0|||nQe acc js
def nCe:List Oper->List Nat->List Nat
 | [],acc=>acc
 |o::l,acc=>nCe l (acc++[nQe acc (nlm o)])
theorem nwi(acc:List Nat)(b:Nat):∀js,(nQe acc js).testBit b=true->∃d∈js,d=b\/(acc.getD d 0).testBit b=true
 | [],h=>by simp[nQe]at h
 |j::js,h=>by
  simp only[nQe,Nat.testBit_or,Bool.or_eq_true]at h;rcases h with(h|h)|h
  ·refine⟨j,by simp,.inl ?_⟩;rw[Nat.testBit_shiftLeft]at h;simp only[awo,decide_eq_true_eq]at h;obtain⟨h1,h2⟩:=h;have:b-j=0:=by
    rcases Nat.eq_zero_or_pos (b-j)with h0|h0
    ·exact h0
    rw[Nat.testBit_one_eq_true_iff_self_eq_zero]at h2;omega
   omega
  ·exact⟨j,by simp,.inr h⟩
  obtain⟨d,hd,h⟩:=nwi acc b js h;exact⟨d,by simp[hd],h⟩
theorem nlf(ops:List Oper)(D:Nat->Prop)(hD:∀(k:Nat) (o':Oper),ops[k]? =some o'->D k->∀e∈o'.after,Region.binds .any e=true->D e.on)(hlt:∀(i:Nat) (o:Oper),ops[i]? =some o->∀e∈o.after,Region.binds .any e=true->e.on<i):∀(l:List Oper) (acc:List Nat),ops.drop acc.length=l->(∀(k:Nat) (o:Oper),ops[k]? =some o->k<acc.length->(∀e∈o.after,Region.binds .any e=true->D e.on)->∀j,(acc.getD k 0).testBit j=true->D j)->∀(k:Nat) (o:Oper),ops[k]? =some o->(∀e∈o.after,Region.binds .any e=true->D e.on)->∀j,((nCe l acc).getD k 0).testBit j=true->D j
 | [],acc,hl,hP=>by
  intro k o ho hr j hj;refine hP k o ho ?_ hr j hj;have h1:=(ako.1 ho).1;have h2:(ops.drop acc.length).length=0:=by rw[hl];rfl
  rw[aFo]at h2;omega
 |o::l,acc,hl,hP=>by
  have ho0:ops[acc.length]? =some o:=by
   have:(ops.drop acc.length)[0]? =some o:=by rw[hl];rfl
   rw[aGo]at this;simpa using this
  refine nlf ops D hD hlt l (acc++[nQe acc (nlm o)]) ?_ ?_
  ·rw[aHo,<-aIo,hl];rfl
  intro k o' ho' hk hr j hj;simp only[aHo,aJo]at hk;by_cases e:k=acc.length
  ·subst e;rw[ho0]at ho';cases ho';rw[aKo,aLo (abo _)]at hj;simp only[Nat.sub_self,aho,Option.getD_some]at hj;obtain⟨d,hd,h⟩:=nwi acc j _ hj;obtain⟨e',he',rfl⟩:=ano.1 hd;rw[aMo]at he';have hdd:=hr e' (by simpa using he'.1) he'.2;have hlt':=hlt _ _ ho0 e' (by simpa using he'.1) he'.2;rcases h with rfl|h
   ·exact hdd
   have hlen:=(ako.1 ho0).1;obtain⟨o2,ho2⟩:∃o2,ops[e'.on]? =some o2:=⟨ops[e'.on]'zG,aNo _⟩;exact hP e'.on o2 ho2 hlt' (hD e'.on o2 ho2 hdd) j h
  rw[aKo,aOo zG,<-aKo]at hj;exact hP k o' ho' zG hr j hj
def nBc (ops:Array Oper) (nA:Nat) (ds:List (List Nat)) (E:Env):Bool:=
 Nat.beq ds.length nA&&Nat.ble nA ops.size&&
 (List.range ops.size).all λi=>
  match ops[i]? with
  |none=>true
  |some o=>
   (o.after.toList.all λe=> !Region.binds .any e||Nat.blt e.on i)&&
   (if Nat.blt i nA then
    (match ds[i]? with|some js=>js.all (λj=>o.after.toList.any λe=>Nat.beq e.on j&&Region.binds .any e)|none=>true)&&
    (match o.dst with
     |none=>false
     |some d=>(look E d).isNone&&(List.range nA).all λj=>Nat.beq i j||match(ops[j]?).bind (·.dst)with|some d'=> !Nat.beq d d'|none=>true)
    else(List.range i).all λj=>((nCe ops.toList []).getD i 0).testBit j)
theorem n2f{p q:Nat->Bool}:∀(l:List Nat),(∀k∈l,q k=true->p k=true)->l.countP q<=l.countP p
 | [],_=>abo _
 |k::l,h=>by
  have ih:=n2f l λj hj=>h j (by simp[hj]);simp only[List.countP_cons];cases hq:q k with
  |false=>simp;omega
  |true=>simp[h k zS hq];omega
theorem nQf{p q:Nat->Bool}:∀(l:List Nat),(∀k∈l,q k=true->p k=true)->(∃k∈l,p k=true/\q k=false)->l.countP q<l.countP p
 | [],_,h=>by obtain⟨k,hk,_⟩:=h;cases hk
 |k::l,h,hx=>by
  have hmono:=n2f (p:=p) (q:=q) l λj hj=>h j (by simp[hj]);simp only[List.countP_cons];obtain⟨j,hj,hp,hq⟩:=hx;rcases aeo.1 hj with rfl|hj
  ·simp[hp,hq];omega
  have ih:=nQf l (λj hj=>h j (by simp[hj])) ⟨j,hj,hp,hq⟩;cases hqk:q k with
  |false=>simp;omega
  |true=>simp[h k zS hqk];omega
def nQc (N:Nat):List Oper->Bool
 | []=>true
 |o::l=>(match o.dst with|some d=>Nat.blt d N|none=>true)&&nQc N l
theorem nrg{N:Nat}:∀{l:List Oper},nQc N l=true->∀o∈l,∀d,o.dst=some d->d<N
 | [],_,o,ho=>by cases ho
 |o'::l,h,o,ho=>by
  simp only[nQc,awo]at h;rcases aeo.1 ho with rfl|ho
  ·intro d hd;have:=h.1;rw[hd]at this;exact nL this
  exact nrg h.2 o ho
abbrev OS:=List Nat×Option Value
abbrev OS.det (ds:List Nat) (v:Value):OS:=(ds,some v)
abbrev OS.deps (s:OS):List Nat:=s.1
/-! ### a region that draws its order: a chain of operations among others whose values are known -/
abbrev Sp:=List (List Nat×Option Value)
def n1d:List Nat->Nat->Nat
 | [],_=>0
 |c::ch,j=>match Nat.beq c j with|true=>0|false=>n1d ch j+1
def valOf (sp:Sp) (ch:List Nat) (cv:List Value) (j:Nat):Value:=
 match sp[j]? with
 |some (_,some u)=>u
 |_=>(cv[n1d ch j]?).getD undef
def envD (ops:Array Oper) (sp:Sp) (ch:List Nat) (cv:List Value):List Nat->Env
 | []=>[]
 |j::js=>match(ops[j]?).bind (·.dst)with
  |some d=>(d,valOf sp ch cv j)::envD ops sp ch cv js
  |none=>envD ops sp ch cv js
theorem n9b:∀(ch:List Nat) (k c:Nat),ch[k]? =some c->ch.Nodup->n1d ch c=k
 | [],k,c,h,_=>by simp at h
 |d::ch,0,c,h,_=>by simp at h;subst h;simp[n1d,ntb]
 |d::ch,k+1,c,h,hn=>by
  simp only[aio]at h;obtain⟨h1,h2⟩:=List.nodup_cons.1 hn;have hne:¬d=c:=λe=>h1 (e▸ajo h);simp only[n1d,nRb hne];rw[n9b ch k c h h2]
def nLd (ops:List Oper):List Nat->Bool
 |c::c'::ch=>((nCe ops []).getD c' 0).testBit c&&nLd ops (c'::ch)
 |_=>true
def nsc:List Nat->Bool
 | []=>true
 |c::ch=>ch.all (λj=> !Nat.beq c j)&&nsc ch
theorem nxl:∀{ch:List Nat},nsc ch=true->ch.Nodup
 | [],_=>List.nodup_nil
 |c::ch,h=>by
  simp only[nsc,awo,aPo]at h;refine List.nodup_cons.2 ⟨λhm=>?_,nxl h.2⟩;have:=h.1 c hm;simp[ntb]at this
def nFb (ch:List Nat):Nat->Sp->Bool
 |_,[]=>true
 |i,(_,none)::sp=>ch.any (λc=>Nat.beq c i)&&nFb ch (i+1) sp
 |i,(_,some _)::sp=>ch.all (λc=> !Nat.beq c i)&&nFb ch (i+1) sp
theorem nde(ch:List Nat):∀(sp:Sp) (i:Nat),nFb ch i sp=true->∀j ds,(sp[j]? =some (ds,none)->i+j∈ch)/\(∀u,sp[j]? =some (ds,some u)->i+j∉ch)
 | [],i,_,j,ds=>by simp
 |(d,none)::sp,i,h,j,ds=>by
  simp only[nFb,awo,List.any_eq_true]at h;cases j with
  |zero=>
   refine⟨λ_=>?_,λu hu=>by simp at hu⟩;obtain⟨c,hc,hb⟩:=h.1;have:=a8n hb;subst this;exact hc
  |succ j=>
   have:=nde ch sp (i+1) h.2 j ds;rw[show i+(j+1)=i+1+j by omega];simpa using this
 |(d,some v)::sp,i,h,j,ds=>by
  simp only[nFb,awo,aPo]at h;cases j with
  |zero=>
   refine⟨λhu=>by simp at hu,λu _ hm=>?_⟩;have:=h.1 _ hm;simp[ntb]at this
  |succ j=>
   have:=nde ch sp (i+1) h.2 j ds;rw[show i+(j+1)=i+1+j by omega];simpa using this
def nie (ch ds:List Nat) (n:Nat):Bool:=ds.all λj=> !(ch.any λc=>Nat.beq c j)||Nat.blt (n1d ch j) n
theorem nXh{F:Fence}{n:Nat}{P:Program}{Q Q':Post}{o:Oper}{a:Act}{w:World}{K K':Act->World->Prop}(h:∀a w,K a w->K' a w)(hq:∀c a w,Q (.panic c) a w->Q' (.panic c) a w)(hl:LetsOut Q->LetsOut Q')(hh:o.wpIn F n P a w K Q):o.wpIn F n P a w K' Q':=by
 unfold Oper.wpIn at *;refine⟨hh.1,?_⟩;have hh:=hh.2;generalize (o.semAt F.round a.eval).run P w=r at *;cases r with
 |ok x w'=>
  cases x<;>simp only[Oper.uponIn]at hh ⊢ <;>
   first
    |exact h _ _ hh
    |exact⟨hh.1,CallsIn.mono hh.2 (λe w'' he=>by cases e<;>first|exact h _ _ he|exact hq _ _ _ he|exact hl he)⟩
    |exact⟨hh.1,RowsIn.mono hh.2 (λ_ _ he=>h _ _ he)⟩
    |exact⟨hh.1,RoundIn.mono hh.2 (λe w'' he=>by cases e<;>first|exact h _ _ he|exact hq _ _ _ he|exact hl he)⟩
 |halt x w'=>cases x<;>simp only[Oper.uponIn]at hh ⊢ <;>first|exact hh|exact hq _ _ _ hh
def Qn (Q:Post) (K:Act->World->Prop):Post:=λe a w=>match e with| .normal=>K a w|e=>Q e a w
/-! ### a region that draws its order: operations with unknown values, in whatever order they stand -/
def valN (sp:Sp) (ch:List Nat) (cv:List (Option Value)) (j:Nat):Value:=
 match sp[j]? with
 |some (_,some u)=>u
 |_=>((cv[n1d ch j]?).join).getD undef
def envN (ops:Array Oper) (sp:Sp) (ch:List Nat) (cv:List (Option Value)):List Nat->Env
 | []=>[]
 |j::js=>match(ops[j]?).bind (·.dst)with
  |some d=>(d,valN sp ch cv j)::envN ops sp ch cv js
  |none=>envN ops sp ch cv js
theorem nJd{ops:Array Oper}{sp:Sp}{ch:List Nat}{cv:List (Option Value)}{a:Act}:∀(js:List Nat),(∀j∈js,∀o d,ops[j]? =some o->o.dst=some d->a.eval (.tmp d)=valN sp ch cv j)->Fits (envN ops sp ch cv js) a
 | [],_=>by intro t v hv;simp[envN,look]at hv
 |j::js,h=>by
  have ih:=nJd (sp:=sp) (ch:=ch) (cv:=cv) js (λk hk=>h k (by simp[hk]));unfold envN;cases hd:(ops[j]?).bind (·.dst)with
  |none=>exact ih
  |some d=>
   obtain⟨o,ho,hod⟩:=aQo.1 hd;have hv:=h j zS o d ho hod;intro t v ht;simp only[look]at ht;by_cases e:d=t
   ·subst e;simp only[ntb,a9n]at ht;rw[hv,ht]
   simp only[nRb e]at ht;exact ih t v ht
variable {ops:Array Oper} {cs:Array Value} {C:Cx} {E:Env} {e e':Exit} {G:Gh} {H H':Heap} {K K':IntKind} {ps:List (Nat×Operand)} {D:List Deferred} {ch ds:List Nat} {rs:List ResultVar} {news sp us vs:List Value} {L:List World} {T b i j k m size tx:Nat} {fr:Nat×Nat} {o:Obj} {a:Option Addr} {hi:Option Operand} {sv:Value} {W w1:World}
theorem nwl{sp:Sp}{cv:List (Option Value)}{v:Value}(h:(∃ds u,sp[j]? =some (ds,some u))\/n1d ch j≠k):valN sp ch (cv.set k (some v)) j=valN sp ch cv j:=by
 unfold valN;rcases h with⟨ds,u,h⟩|h
 ·rw[h]
 split
 ·rfl
 rw[amo (λe=>h e.symm)]
def n5b (rq:List Nat) (k:Nat) (cv:List (Option Value)):Bool:=
 ((cv[k]?).join).isNone&&rq.all λj=>((cv[j]?).join).isSome
def netB (ops:List Oper) (ch:List Nat):Nat->List (List Nat)->Bool
 |_,[]=>true
 |k,rq::rqs=>(match ch[k]? with|some c=>rq.all (λj=>match ch[j]? with|some c'=>((nCe ops []).getD c 0).testBit c'|none=>false)|none=>false)&&netB ops ch (k+1) rqs
theorem net_at(ops:List Oper)(ch:List Nat):∀(rqs:List (List Nat)) (n:Nat),netB ops ch n rqs=true->∀(k c:Nat) (rq:List Nat),rqs[k]? =some rq->ch[n+k]? =some c->∀j∈rq,∃c',ch[j]? =some c'/\((nCe ops []).getD c 0).testBit c'=true
 | [],_,_,k,c,rq,h,_=>by simp at h
 |r::rqs,n,h,k,c,rq,hk,hc=>by
  simp only[netB,awo]at h;cases k with
  |zero=>
   simp at hk;subst hk;rw[Nat.add_zero]at hc;rw[hc]at h;intro j hj;have h1:=h.1;simp only[aPo]at h1;have:=h1 j hj;split at this
   ·rename_i c' hc';exact⟨c',hc',this⟩
   cases this
  |succ k=>exact net_at ops ch rqs (n+1) h.2 k c rq zUc (by rw[show n+1+k=n+(k+1) by omega];exact hc)
def nIc (ch ds:List Nat) (cv:List (Option Value)):Bool:=ds.all λj=> !(ch.any λc=>Nat.beq c j)||((cv[n1d ch j]?).join).isSome
def InvN (C:Cx) (ops:Array Oper) (nA:Nat) (ch:List Nat) (sp:Sp) (Ph:List (Option Value)->List World->Heap->Prop) (E:Env) (D:List Deferred) (G:Gh) (lst:Nat->Bool) (a:Act) (W:World):Prop:=
 ∃cv L' H',a.tmps.size=C.N/\a.defers=D/\Fits E a/\Ph cv L' H'/\St G L' H' W/\cv.length=ch.length/\(∀(k c:Nat),ch[k]? =some c->(lst c=true↔∃v,cv[k]? =some (some v)))/\
  (∀(i:Nat) (o:Oper) (d:Nat),i<nA->lst i=true->ops[i]? =some o->o.dst=some d->a.eval (.tmp d)=valN sp ch cv i)
structure DrawOkS (ops:Array Oper) (nA:Nat) (sp:List OS) (E:Env):Prop where
 len:sp.length=nA
 le:nA<=ops.size
 back:∀(i:Nat) (o:Oper),ops[i]? =some o->∀e∈o.after,Region.binds .any e=true->e.on<i
 deps:∀(i:Nat) (o:Oper) (s:OS),ops[i]? =some o->sp[i]? =some s->∀j∈s.deps,∃e∈o.after,e.on=j/\Region.binds .any e=true
 last:∀(i:Nat) (o:Oper),nA<=i->ops[i]? =some o->∀(D:Nat->Prop),(∀(k:Nat) (o':Oper),ops[k]? =some o'->D k->∀e∈o'.after,Region.binds .any e=true->D e.on)->(∀e∈o.after,Region.binds .any e=true->D e.on)->∀j,j<i->D j
 uniq:∀(i j:Nat) (o o':Oper) (d:Nat),i<nA->j<nA->ops[i]? =some o->ops[j]? =some o'->o.dst=some d->o'.dst=some d->i=j
 apart:∀(i:Nat) (o:Oper) (d:Nat),i<nA->ops[i]? =some o->o.dst=some d->look E d=none
def nJc (ops:Array Oper) (nA:Nat) (ds:List (List Nat)) (E:Env):Bool:=
 Nat.beq ds.length nA&&Nat.ble nA ops.size&&
 (List.range ops.size).all λi=>
  match ops[i]? with
  |none=>true
  |some o=>
   (o.after.toList.all λe=> !Region.binds .any e||Nat.blt e.on i)&&
   (if Nat.blt i nA then
    (match ds[i]? with|some js=>js.all (λj=>o.after.toList.any λe=>Nat.beq e.on j&&Region.binds .any e)|none=>true)&&
    (match o.dst with
     |none=>true
     |some d=>(look E d).isNone&&(List.range nA).all λj=>Nat.beq i j||match(ops[j]?).bind (·.dst)with|some d'=> !Nat.beq d d'|none=>true)
    else(List.range i).all λj=>((nCe ops.toList []).getD i 0).testBit j)
theorem ndn{nA:Nat}{sp:List OS}(h:nJc ops nA (sp.map (·.deps)) E=true):DrawOkS ops nA sp E:=by
 unfold nJc at h;simp only[awo,aPo,aRo]at h;obtain⟨⟨h1,h2⟩,h3⟩:=h;have hlen:sp.length=nA:=by simpa using a8n h1
 have hle:=apo h2;have at_:∀(i:Nat) (o:Oper),ops[i]? =some o->i<ops.size:=λi o ho=>(ago.1 ho).1;refine⟨hlen,hle,?_,?_,?_,?_,?_⟩
 ·exact zaj
 ·intro i o s ho hs j hj;have hi:i<nA:=by rw[<-hlen];exact(ako.1 hs).1
  have:=h3 i (at_ i o ho);simp only[ho,awo]at this;have:=this.2;rw[if_pos zzc]at this;simp only[aSo,hs,aTo,awo,aPo]at this;have:=this.1 j hj;simp only[List.any_eq_true,awo]at this;obtain⟨e,he,hb1,hb2⟩:=this;exact⟨e,by simpa using he,a8n hb1,hb2⟩
 ·intro i o hi ho D hD hr j hj;have hback:∀(i:Nat) (o:Oper),ops[i]? =some o->∀e∈o.after,Region.binds .any e=true->e.on<i:=by
   exact zaj
  have:=h3 i (at_ i o ho);simp only[ho,awo]at this;have:=this.2;rw[if_neg (by intro hb;have:=nL hb;omega)]at this;simp only[aPo,aRo]at this;exact nlf ops.toList D (λk o' hk=>hD k o' zUc) (λk o' hk=>hback k o' zUc) ops.toList [] rfl (λ_ _ _ hk=>by simp at hk) i o (by simpa using ho) hr j (this j hj)
 ·intro i j o o' d hi hj ho ho' hd hd';have:=h3 i (at_ i o ho);simp only[ho,awo]at this;have:=this.2;rw[if_pos zzc]at this;simp only[hd,awo,aPo,aRo]at this;have:=this.2.2 j hj;simp only[ho',Option.bind_some,hd',Bool.or_eq_true,Bool.not_eq_true']at this;rcases this with h|h
  ·exact a8n h
  rw[ntb]at h;cases h
 intro i o d hi ho hd;have:=h3 i (at_ i o ho);simp only[ho,awo]at this;have:=this.2;rw[if_pos zzc]at this;simp only[hd,awo]at this;simpa using this.2.1
def nFc:List Oper->Sp->Bool
 |o::l,(_,some _)::sp=>o.dst.isSome&&nFc l sp
 |_::l,_::sp=>nFc l sp
 |_,[]=>true
 | [],_=>true
theorem nGm:∀(l:List Oper) (sp:Sp),nFc l sp=true->∀(i:Nat) (o:Oper) (ds:List Nat) (u:Value),l[i]? =some o->sp[i]? =some (ds,some u)->∃d,o.dst=some d
 | [],sp,_,i,o,ds,u,h1,_=>by simp at h1
 |o'::l,[],_,i,o,ds,u,_,h2=>by simp at h2
 |o'::l,(ds',u')::sp,h,i,o,ds,u,h1,h2=>by
  cases i with
  |zero=>
   simp only[aho,a9n]at h1 h2;subst h1;obtain⟨rfl,rfl⟩:ds'=ds/\u'=some u:=by simpa using h2
   simp only[nFc,awo]at h;exact Option.isSome_iff_exists.1 h.1
  |succ i=>
   simp only[aio]at h1 h2;refine nGm l sp ?_ i o ds u h1 h2;cases u' with
   |none=>simpa[nFc]using h
   |some u'=>simp only[nFc,awo]at h;exact h.2
theorem nSi{Q:Post}{l:List Oper}{id:Nat}(nA:Nat)(ch:List Nat)(sp:Sp)(rqs:List (List Nat))(Ph:List (Option Value)->List World->Heap->Prop)(hm:C.P.follows .mixedOrders=true)(h0:Ph (ch.map λ_=>none) L H)(hok:nJc l.toArray nA (sp.map (·.1)) E=true)(hsl:nFc l sp=true)(hN:nQc C.N l=true)(hch:netB l ch 0 rqs=true)(hnd:nsc ch=true)(hpt:nFb ch 0 sp=true)(hlt':ch.all (λc=>Nat.blt c nA)=true)(pure:∀(i:Nat) (o:Oper) (ds:List Nat) (u:Value),l[i]? =some o->sp[i]? =some (ds,some u)->∀cv L' H',cv.length=ch.length->nIc ch ds cv=true->Ph cv L' H'->X C l.toArray G L' H' (envN l.toArray sp ch cv ds++E) (λ_=>True) o (λv _=>v=u))(step:∀(k c:Nat) (rq:List Nat) (o:Oper) (ds:List Nat) (d:Nat),ch[k]? =some c->rqs[k]? =some rq->l[c]? =some o->sp[c]? =some (ds,none)->o.dst=some d->∀cv L' H',cv.length=ch.length->n5b rq k cv=true->Ph cv L' H'->∀(F:Env) (Q':Post),(∀v L'' H'',Ph (cv.set k (some v)) L'' H''->PJ C Q' .normal ((d,v)::(envN l.toArray sp ch cv ds++(E++F))) D G L'' H'')->OJ C l.toArray Q' [o] (envN l.toArray sp ch cv ds++(E++F)) D G L' H')(step0:∀(k c:Nat) (rq:List Nat) (o:Oper) (ds:List Nat),ch[k]? =some c->rqs[k]? =some rq->l[c]? =some o->sp[c]? =some (ds,none)->o.dst=none->∀cv L' H',cv.length=ch.length->n5b rq k cv=true->Ph cv L' H'->∀(F:Env) (Q':Post),(∀v L'' H'',Ph (cv.set k (some v)) L'' H''->PJ C Q' .normal (envN l.toArray sp ch cv ds++(E++F)) D G L'' H'')->OJ C l.toArray Q' [o] (envN l.toArray sp ch cv ds++(E++F)) D G L' H')(hrq:rqs.length=ch.length)(fin:∀cv L' H',cv.length=ch.length->cv.all (λx=>x.isSome)=true->Ph cv L' H'->OJ C l.toArray Q (l.drop nA) (envN l.toArray sp ch cv (List.range nA)++E) D G L' H'):CJ C (.region id l.toArray true) Q E D G L H:=by
 have ok:DrawOkS l.toArray nA (sp.map λp=>OS.det p.1 undef) E:=ndn (by
  rw[List.map_map];exact hok)
 have hspl:sp.length=nA:=by have:=ok.len;simpa using this
 have hdeps:∀(i:Nat) (o:Oper) (ds:List Nat) (u:Option Value),l.toArray[i]? =some o->sp[i]? =some (ds,u)->∀j∈ds,∃e∈o.after,e.on=j/\Region.binds .any e=true:=by
  intro i o ds u ho hs j hj;exact ok.deps i o (.det ds undef) ho (by simp[hs]) j hj
 have hnodup:=nxl hnd;have hchA:∀k c,ch[k]? =some c->c<nA:=λk c h=>by
  rw[aPo]at hlt';exact nL (hlt' c (ajo h))
 generalize hops:l.toArray=ops at *;have hl:∀i:Nat,l[i]? =ops[i]? :=λi=>by rw[<-hops,aUo]
 have hsz:ops.size=l.length:=by rw[<-hops];simp
 intro a W hsize hD hF hS;refine wpIn_region_draw λt=>?_;simp only[Region.schedule,hm,Bool.true_or,if_true];have hlt:∀(i:Nat) (o:Oper),ops[i]? =some o->i<ops.size:=λi o ho=>(ago.1 ho).1
 let Inv:Array Bool->Act->World->Prop:=λlst a W=>lst.size=ops.size/\(∀(k:Nat) (o:Oper),ops[k]? =some o->lst.getD k false=true->∀e∈o.after,Region.binds .any e=true->lst.getD e.on false=true)/\
  (((∃i,i<nA/\lst.getD i false=false)/\(∀i,nA<=i->lst.getD i false=false)/\InvN C ops nA ch sp Ph E D G (λi=>lst.getD i false) a W)\/
   (∃m,nA<=m/\(∀i,i<ops.size->(lst.getD i false=true↔i<m))/\wpListIn (FW C.r) 0 C.P ops Q (l.drop m) a W))
 have close:∀(lst:Array Bool) a W,lst.size=ops.size->(∀(k:Nat) (o:Oper),ops[k]? =some o->lst.getD k false=true->∀e∈o.after,Region.binds .any e=true->lst.getD e.on false=true)->(∀i,i<nA->lst.getD i false=true)->(∀i,nA<=i->lst.getD i false=false)->InvN C ops nA ch sp Ph E D G (λi=>lst.getD i false) a W->Inv lst a W:=by
  rintro lst a W hls hcl hall hnone ⟨cv,L',H',h1,h2,h3,h4,h5,h6,h7,h8⟩;refine⟨hls,hcl,.inr ⟨nA,abo _,λi hi=>⟨λh=>?_,λh=>hall i h⟩,?_⟩⟩
  ·exact Nat.lt_of_not_le λhle=>by rw[hnone i hle]at h;cases h
  have hsm:cv.all (λx=>x.isSome)=true:=by
   rw[aPo];intro x hx;obtain⟨k,hk⟩:=aoo.1 hx;have hkl:k<ch.length:=by rw[<-h6];exact(ako.1 hk).1
   have hc:ch[k]? =some (ch[k]'hkl):=aNo hkl;obtain⟨v,hv⟩:=(h7 _ _ hc).1 (hall _ (hchA _ _ hc));rw[hk]at hv;cases hv;rfl
  refine fin cv L' H' h6 hsm h4 a W h1 h2 (nfc ?_ h3) h5;exact nJd _ (λj hj o d ho hd=>h8 j o d (aRo.1 hj) (hall j (aRo.1 hj)) ho hd)
 have getD_set:∀(lst:Array Bool) (i k:Nat),lst.size=ops.size->i<ops.size->(lst.setIfInBounds i true).getD k false=if k=i then true else lst.getD k false:=by
  intro lst i k hls hi;simp only[Array.getD_eq_getD_getElem?,Array.getElem?_setIfInBounds];by_cases e:i=k
  ·subst e;simp[hls,hi]
  simp[e,show ¬k=i from λh=>e h.symm]
 have hstep:∀(lst:Array Bool) a W,Inv lst a W->∀(i:Nat) (o:Oper),ops[i]? =some o->lst.getD i false=false->(∀e∈o.after,Region.binds .any e=true->lst.getD e.on false=true)->
  wpOpIn (FW C.r) 0 C.P ops Q i (λa' W'=>Inv (lst.setIfInBounds i true) a' W') a W:=by
  rintro lst a W ⟨hls,hcl,hI⟩ i o ho hun hready;have hi:=hlt i o ho;have hcl':∀(k:Nat) (o':Oper),ops[k]? =some o'->(lst.setIfInBounds i true).getD k false=true->∀e∈o'.after,Region.binds .any e=true->(lst.setIfInBounds i true).getD e.on false=true:=by
   intro k o' ho' hk e he hb;rw[getD_set lst i k hls hi]at hk;rw[getD_set lst i e.on hls hi];by_cases e1:e.on=i
   ·rw[if_pos e1]
   rw[if_neg e1];by_cases e2:k=i
   ·subst e2;rw[ho]at ho';cases ho';exact hready e he hb
   rw[if_neg e2]at hk;exact hcl k o' ho' hk e he hb
  rcases hI with⟨hex,hnone,cv,L',H',h1,h2,h3,h4,h5,h6,h7,h8⟩|⟨m,hnm,hlst,hw⟩
  ·have hiA:i<nA:=Nat.lt_of_not_le λhle=>by
    obtain⟨k,hk,hkf⟩:=hex;have:=ok.last i o hle ho (λk=>lst.getD k false=true) (λk o' h1 h2 e h3 h4=>hcl k o' h1 h2 e h3 h4) hready k zG;rw[hkf]at this;cases this
   obtain⟨⟨ds,u⟩,hs⟩:∃s,sp[i]? =some s:=⟨sp[i]'(by rw[hspl];exact hiA),aNo _⟩;have hdep:∀j∈ds,lst.getD j false=true/\j<i:=λj hj=>by
    obtain⟨e,he,hon,hb⟩:=hdeps i o ds u ho hs j hj;exact⟨hon▸hready e he hb,hon▸ok.back i o ho e he hb⟩
   have hfit:Fits (envN ops sp ch cv ds) a:=nJd _ (λj hj o' d' ho' hd'=>h8 j o' d' (by have:=(hdep j hj).2;omega) (hdep j hj).1 ho' hd');have hls':(lst.setIfInBounds i true).size=ops.size:=by simp[hls]
   have hnone':∀k,nA<=k->(lst.setIfInBounds i true).getD k false=false:=λk hk=>by
    rw[getD_set lst i k hls hi,if_neg zG];exact hnone k hk
   have hfin:∀a' W',InvN C ops nA ch sp Ph E D G (λk=>(lst.setIfInBounds i true).getD k false) a' W'->Inv (lst.setIfInBounds i true) a' W':=by
    intro a' W' hA;by_cases hall:∀k,k<nA->(lst.setIfInBounds i true).getD k false=true
    ·exact close _ _ _ hls' hcl' hall hnone' hA
    refine⟨hls',hcl',.inl ⟨?_,hnone',hA⟩⟩;obtain⟨k,hk⟩:=Classical.not_forall.1 hall;obtain⟨hk1,hk2⟩:=Classical.not_imp.1 hk;exact⟨k,hk1,by simpa using hk2⟩
   cases u with
   |some u=>
    -- its value is known
    obtain⟨d,hd⟩:=nGm l sp hsl i o ds u zLc hs;have hdN:d<C.N:=nrg hN o (ajo zLc) d hd;have hnot:i∉ch:=by have:=(nde ch sp 0 hpt i ds).2 u hs;simpa using this
    have hdi:nIc ch ds cv=true:=by
     simp only[nIc,aPo,Bool.or_eq_true,Bool.not_eq_true'];intro j hj;by_cases hc:(ch.any λc=>Nat.beq c j)=true
     ·right;obtain⟨c,hcm,hcb⟩:=List.any_eq_true.1 hc;have:=a8n hcb;subst this;obtain⟨q,hq⟩:=aoo.1 hcm;rw[n9b ch q c hq hnodup];obtain⟨v,hv⟩:=(h7 q c hq).1 (hdep c hj).1;rw[hv];rfl
     left;exact Bool.eq_false_iff.2 hc
    have hx:=pure i o ds u zLc hs cv L' H' h6 hdi h4 a W (λa' W'=>Inv (lst.setIfInBounds i true) a' W') Q h1 (nfc hfit h3) h5 trivial (by
     rintro v W' hb rfl;refine hfin _ _ ⟨cv,L',H',by simp[Act.put,hd,h1],by simp[Act.put,hd,h2],?_,h4,h5.step hb,h6,?_,?_⟩
     ·intro t u' hu;have hne:d≠t:=λe=>by subst e;rw[ok.apart i o d hiA ho hd]at hu;cases hu
      have:=h3 t u' hu;simp only[Act.eval,Act.put,hd]at this ⊢;rw[<-this];simp[aao hne]
     ·intro k c hc;show((lst.setIfInBounds i true).getD c false=true↔_);rw[getD_set lst i c hls hi,if_neg (show ¬c=i from λe=>hnot (by rw[<-e];exact ajo hc))];exact h7 k c hc
     intro k o' d' hk hlk ho' hd';replace hlk:(lst.setIfInBounds i true).getD k false=true:=hlk;rw[getD_set lst i k hls hi]at hlk;by_cases e:k=i
     ·subst e;rw[ho]at ho';cases ho';rw[hd]at hd';cases hd';simp[Act.eval,Act.put,hd,h1,hdN,valN,hs]
     rw[if_neg e]at hlk;have hne:d≠d':=λe'=>e (ok.uniq k i o' o d hk hiA ho' ho (e'▸hd') hd);have:=h8 k o' d' hk hlk ho' hd';simp only[Act.eval,Act.put,hd]at this ⊢;rw[<-this];simp[aao hne])
    unfold wpOpIn;simp only[ho];split
    ·rename_i hw;rw[if_pos hw]at hx;exact hx
    rename_i hw;rw[if_neg hw]at hx;exact⟨λ_ _=>trivial,hx⟩
   |none=>
    -- it is the next one of the chain
    have hmem:i∈ch:=by have:=(nde ch sp 0 hpt i ds).1 hs;simpa using this
    obtain⟨k,hk⟩:=aoo.1 hmem;have hkl:k<ch.length:=(ako.1 hk).1;obtain⟨rq,hrk⟩:∃rq,rqs[k]? =some rq:=⟨rqs[k]'zG,aNo _⟩;have hnone2:cv[k]? =some none:=by
     have h9:cv[k]? =some (cv[k]'zG):=aNo _;cases hx:cv[k]'zG with
     |none=>rw[h9,hx]
     |some v=>
      exfalso;have h':lst.getD i false=true:=(h7 k i hk).2 ⟨v,by rw[h9,hx]⟩;rw[hun]at h';cases h'
    have hrdy:n5b rq k cv=true:=by
     simp only[n5b,awo,aPo];refine⟨by rw[hnone2];rfl,λj hj=>?_⟩;obtain⟨c',hc',hbit⟩:=net_at l ch rqs 0 hch k i rq hrk (by rw[aVo];exact hk) j hj;have hD':=nlf l (λj=>lst.getD j false=true) (λj o' hj=>hcl j o' (by rw[<-hl];exact hj)) (λj o' hj=>ok.back j o' (by rw[<-hl];exact hj)) l [] rfl (λ_ _ _ hk=>by simp at hk) i o zLc hready _ hbit;obtain⟨v,hv⟩:=(h7 j c' hc').1 hD';rw[hv];rfl
    cases hd:o.dst with
    |some d=>
     have hdN:d<C.N:=nrg hN o (ajo zLc) d hd;have hwp:=step k i rq o ds d hk hrk zLc hs hd cv L' H' h6 hrdy h4 (envN ops sp ch cv ((List.range nA).filter λj=>lst.getD j false))
      (Qn Q (λa' W'=>Inv (lst.setIfInBounds i true) a' W')) (by
       intro v L'' H'' hP a' W' hs1 hs2 hs3 hs4;refine hfin _ _ ⟨cv.set k (some v),L'',H'',hs1,hs2,?_,hP,hs4,?_,?_,?_⟩
       ·intro t u' hu;have hne:d≠t:=λe=>by subst e;rw[ok.apart i o d hiA ho hd]at hu;cases hu
        have hfit2:Fits (envN ops sp ch cv ds++(E++envN ops sp ch cv ((List.range nA).filter λj=>lst.getD j false))) a':=λt' v' h'=>by
         by_cases e2:d=t'
         ·subst e2;exfalso;have hno:∀js,(∀j∈js,j<nA/\j≠i)->look (envN ops sp ch cv js) d=none:=by
           intro js;induction js with
           |nil=>intro _;rfl
           |cons j js ih=>
            intro hjs;have ih':=ih λj' hj'=>hjs j' (by simp[hj']);unfold envN;cases hdj:(ops[j]?).bind (·.dst)with
            |none=>exact ih'
            |some d'=>
             obtain⟨oj,hoj,hodj⟩:=aQo.1 hdj;have hned:d'≠d:=λe'=>(hjs j zS).2 (ok.uniq j i oj o d' (hjs j zS).1 hiA hoj ho hodj (e'▸hd));simp only[look,nRb hned];exact ih'
          rw[ndb,ndb,hno ds (λj hj=>⟨by have:=(hdep j hj).2;omega,by have:=(hdep j hj).2;omega⟩),ok.apart i o d hiA ho hd,hno _ (λj hj=>by
           simp only[aMo,aRo]at hj;exact⟨hj.1,λe=>by subst e;rw[hun]at hj;cases hj.2⟩)]at h'
          cases h'
         exact hs3 t' v' (by simp only[look,nRb e2];exact h')
        have h9:look (envN ops sp ch cv ds++(E++envN ops sp ch cv ((List.range nA).filter λj=>lst.getD j false))) t=some u':=by
         exact z9h
        exact hfit2 t u' h9
       ·rw[List.length_set];exact h6
       ·exact zri
       intro q o' d' hkn hlk ho' hd';replace hlk:(lst.setIfInBounds i true).getD q false=true:=hlk;rw[getD_set lst i q hls hi]at hlk;by_cases e:q=i
       ·subst e;rw[ho]at ho';cases ho';rw[hd]at hd';cases hd';have:=hs3 d v (by simp[look,ntb]);rw[this];unfold valN;rw[hs];simp only;rw[n9b ch k q hk hnodup,alo zG];rfl
       rw[if_neg e]at hlk;have hne:d≠d':=λe'=>e (ok.uniq q i o' o d hkn hiA ho' ho (e'▸hd') hd);have hold:valN sp ch (cv.set k (some v)) q=valN sp ch cv q:=nwl (by
        obtain⟨⟨ds',u'⟩,hs'⟩:∃s,sp[q]? =some s:=⟨sp[q]'(by rw[hspl];exact hkn),aNo _⟩;cases u' with
        |some u'=>exact .inl ⟨ds',u',hs'⟩
        |none=>
         right;have hmem':q∈ch:=by have:=(nde ch sp 0 hpt q ds').1 hs';simpa using this
         obtain⟨p,hp⟩:=aoo.1 hmem';rw[n9b ch p q hp hnodup];exact λe'=>e (by subst e';rw[hk]at hp;cases hp;rfl))
       rw[hold]
       -- it stands in F
       refine hs3 d' _ ?_;simp only[look,nRb hne];have hin:∀js,q∈js->(∀j∈js,j<nA)->look (envN ops sp ch cv js) d'=some (valN sp ch cv q):=by
        exact zai
       have hE:look E d'=none:=ok.apart q o' d' hkn ho' hd';have hF':=hin ((List.range nA).filter λj=>lst.getD j false) (aMo.2 ⟨aRo.2 hkn,hlk⟩) (λj hj=>by
        simp only[aMo,aRo]at hj;exact hj.1)
       rw[ndb,ndb,hE,hF'];by_cases hkd:q∈ds
       ·rw[hin ds hkd (λj hj=>by have:=(hdep j hj).2;omega)];rfl
       have hno:∀js,(∀j∈js,j<nA)->q∉js->look (envN ops sp ch cv js) d'=none:=by
        exact zii
       rw[hno ds (λj hj=>by have:=(hdep j hj).2;omega) hkd];rfl)
      a W h1 h2 (nfc hfit (nfc h3 (nJd _ (λj hj o' d' ho' hd'=>by
       simp only[aMo,aRo]at hj;exact h8 j o' d' hj.1 hj.2 ho' hd')))) h5
     exact zSi
    |none=>
     have hwp:=step0 k i rq o ds hk hrk zLc hs hd cv L' H' h6 hrdy h4 (envN ops sp ch cv ((List.range nA).filter λj=>lst.getD j false))
      (Qn Q (λa' W'=>Inv (lst.setIfInBounds i true) a' W')) (by
       intro v L'' H'' hP a' W' hs1 hs2 hs3 hs4;refine hfin _ _ ⟨cv.set k (some v),L'',H'',hs1,hs2,?_,hP,hs4,?_,?_,?_⟩
       ·intro t u' hu;have h9:look (envN ops sp ch cv ds++(E++envN ops sp ch cv ((List.range nA).filter λj=>lst.getD j false))) t=some u':=by
         exact z9h
        exact hs3 t u' h9
       ·rw[List.length_set];exact h6
       ·exact zri
       intro q o' d' hkn hlk ho' hd';replace hlk:(lst.setIfInBounds i true).getD q false=true:=hlk;rw[getD_set lst i q hls hi]at hlk;by_cases e:q=i
       ·subst e;rw[ho]at ho';cases ho';rw[hd]at hd';cases hd'
       rw[if_neg e]at hlk;have hold:valN sp ch (cv.set k (some v)) q=valN sp ch cv q:=nwl (by
        obtain⟨⟨ds',u'⟩,hs'⟩:∃s,sp[q]? =some s:=⟨sp[q]'(by rw[hspl];exact hkn),aNo _⟩;cases u' with
        |some u'=>exact .inl ⟨ds',u',hs'⟩
        |none=>
         right;have hmem':q∈ch:=by have:=(nde ch sp 0 hpt q ds').1 hs';simpa using this
         obtain⟨p,hp⟩:=aoo.1 hmem';rw[n9b ch p q hp hnodup];exact λe'=>e (by subst e';rw[hk]at hp;cases hp;rfl))
       rw[hold]
       -- it stands in F
       refine hs3 d' _ ?_;have hin:∀js,q∈js->(∀j∈js,j<nA)->look (envN ops sp ch cv js) d'=some (valN sp ch cv q):=by
        exact zai
       have hE:look E d'=none:=ok.apart q o' d' hkn ho' hd';have hF':=hin ((List.range nA).filter λj=>lst.getD j false) (aMo.2 ⟨aRo.2 hkn,hlk⟩) (λj hj=>by
        simp only[aMo,aRo]at hj;exact hj.1)
       rw[ndb,ndb,hE,hF'];by_cases hkd:q∈ds
       ·rw[hin ds hkd (λj hj=>by have:=(hdep j hj).2;omega)];rfl
       have hno:∀js,(∀j∈js,j<nA)->q∉js->look (envN ops sp ch cv js) d'=none:=by
        exact zii
       rw[hno ds (λj hj=>by have:=(hdep j hj).2;omega) hkd];rfl)
      a W h1 h2 (nfc hfit (nfc h3 (nJd _ (λj hj o' d' ho' hd'=>by
       simp only[aMo,aRo]at hj;exact h8 j o' d' hj.1 hj.2 ho' hd')))) h5
     exact zSi
  -- it is the next one
  have him:i=m:=by
   have h1:¬i<m:=λh=>by rw[(hlst i hi).2 h]at hun;cases hun
   have h2:i<=m:=ato λh=>by
    have h3:=ok.last i o zG ho (λk=>lst.getD k false=true) (λk o' h1 h2 e h3 h4=>hcl k o' h1 h2 e h3 h4) hready m h;have:=(hlst m zG).1 h3;omega
   omega
  subst him;have hdrop:l.drop i=o::l.drop (i+1):=by
   have:=hl i;rw[ho]at this;exact(aWo (ako.1 this).1).trans (by rw[(ako.1 this).2])
  rw[hdrop]at hw;have hnext:∀a' W',wpListIn (FW C.r) 0 C.P ops Q (l.drop (i+1)) a' W'->Inv (lst.setIfInBounds i true) a' W':=λa' W' h=>by
   refine⟨by simp[hls],hcl',.inr ⟨i+1,by omega,λk hk=>?_,h⟩⟩;rw[getD_set lst i k hls hi];by_cases e:k=i
   ·subst e;simp
   rw[if_neg e,hlst k hk];omega
  unfold wpListIn at hw;unfold wpOpIn;simp only[ho];split
  ·rename_i hwant;rw[if_pos hwant]at hw;exact Oper.wpIn_mono hnext hw
  rename_i hwant;rw[if_neg hwant]at hw;exact⟨hw.1,hnext _ _ hw.2⟩
 -- the end
 have ready_iff:∀(lst:Array Bool) (i:Nat),lst.size=ops.size->(i∈Region.ready .any ops lst↔∃o,ops[i]? =some o/\lst.getD i false=false/\∀e∈o.after,Region.binds .any e=true->lst.getD e.on false=true):=by
  intro lst i hls;simp only[Region.ready,aMo,aRo,awo,Bool.not_eq_true'];constructor
  ·rintro⟨hi,hf,hr⟩;refine⟨ops[i],aXo hi,?_,?_⟩
   ·exact zQj
   rw[aXo hi]at hr;simp only[aTo,Option.getD_some,Array.all_eq_true_iff_forall_mem,Bool.or_eq_true,Bool.not_eq_true']at hr;intro e he hb;rcases hr e he with h|h
   ·rw[hb]at h;cases h
   exact h
  rintro⟨o,ho,hf,hr⟩;have hi:=hlt i o ho;refine⟨hi,?_,?_⟩
  ·exact zQj
  rw[ho];simp only[aTo,Option.getD_some,Array.all_eq_true_iff_forall_mem,Bool.or_eq_true,Bool.not_eq_true'];intro e he;by_cases hb:Region.binds .any e=true
  ·exact .inr (hr e he hb)
  exact .inl (by simpa using hb)
 have last:∀(lst:Array Bool) a W,Inv lst a W->Region.ready .any ops lst=[]->Q .normal a W:=by
  rintro lst a W ⟨hls,hcl,hI⟩ hr
  -- all are listed: else the least one that is not is ready
  have hall:∀i,i<ops.size->lst.getD i false=true:=by
   intro i;induction i using Nat.strongRecOn with
   |_ i ih=>
    intro hi;cases hf:lst.getD i false with
    |true=>rfl
    |false=>
     have:i∈Region.ready .any ops lst:=(ready_iff lst i hls).2 ⟨ops[i],aXo hi,hf,λe he hb=>by
      have:=ok.back i ops[i] (aXo hi) e he hb;exact ih e.on this zG⟩
     rw[hr]at this;cases this
  rcases hI with⟨⟨k,hk,hkf⟩,_⟩|⟨m,hnm,hlst,hw⟩
  ·rw[hall k (ado hk ok.le)]at hkf;cases hkf
  have hm:ops.size<=m:=ato λh=>by
   have:=(hlst m h).1 (hall m h);omega
  rw[List.drop_eq_nil_of_le zG]at hw;exact hw
 have any:∀(fuel:Nat) (lst:Array Bool) a W,Inv lst a W->(List.range ops.size).countP (λi=> !lst.getD i false)<=fuel->wpAnyIn (FW C.r) 0 C.P .any ops Q fuel lst a W:=by
  intro fuel;induction fuel with
  |zero=>
   intro lst a W hI hc;have hz:Region.ready .any ops lst=[]:=by
    apply List.eq_nil_iff_forall_not_mem.2;intro i hi;obtain⟨o,ho,hf,_⟩:=(ready_iff lst i hI.1).1 hi;have:=List.countP_eq_zero.1 (Nat.le_zero.1 hc) i (aRo.2 (hlt i o ho));simp[hf]at this
   exact⟨hz,last lst a W hI hz⟩
  |succ fuel ih=>
   intro lst a W hI hc;refine⟨last lst a W hI,λi hi=>?_⟩;obtain⟨o,ho,hf,hr⟩:=(ready_iff lst i hI.1).1 hi;refine wpOpIn_mono (λa' W' hI'=>ih _ a' W' hI' ?_) (hstep lst a W hI i o ho hf hr);have hlt':=hlt i o ho;have hcount:(List.range ops.size).countP (λk=> !(lst.setIfInBounds i true).getD k false)<(List.range ops.size).countP (λk=> !lst.getD k false):=by
    refine nQf _ (λk _ hk=>?_) ⟨i,aRo.2 hlt',by simp[hf],?_⟩
    ·rw[getD_set lst i k hI.1 hlt']at hk;by_cases e:k=i
     ·rw[if_pos e]at hk;cases hk
     rw[if_neg e]at hk;exact hk
    rw[getD_set lst i i hI.1 hlt',if_pos rfl];rfl
   omega
 have hrep:∀k,(Array.replicate ops.size false).getD k false=false:=λk=>by
  simp only[Array.getD_eq_getD_getElem?,Array.getElem?_replicate];split<;>rfl
 have hS0:St G L H {W with drawn:=W.drawn+1}:=hS.step (nub W _);have hA0:InvN C ops nA ch sp Ph E D G (λi=>(Array.replicate ops.size false).getD i false) a {W with drawn:=W.drawn+1}:=
  ⟨_,L,H,hsize,hD,hF,h0,hS0,aAo _,λk c _=>⟨λh=>(Bool.false_ne_true ((hrep c).symm.trans h)).elim,λ⟨v,h⟩=>by rw[aSo]at h;cases hx:ch[k]?<;>rw[hx]at h<;>simp at h⟩,λi _ _ _ h=>(Bool.false_ne_true ((hrep i).symm.trans h)).elim⟩
 refine wpAnyIn_sound ops.size t _ a _ (any ops.size (Array.replicate ops.size false) a _ ?_ ?_)
 ·have hcl0:∀(k:Nat) (o:Oper),ops[k]? =some o->(Array.replicate ops.size false).getD k false=true->∀e∈o.after,Region.binds .any e=true->(Array.replicate ops.size false).getD e.on false=true:=λk o _ h=>by rw[hrep k]at h;cases h
  by_cases hz:nA=0
  ·exact close _ _ _ zS hcl0 (λi hi=>by omega) (λi _=>hrep i) hA0
  exact⟨by simp,hcl0,.inl ⟨⟨0,by omega,hrep 0⟩,λi _=>hrep i,hA0⟩⟩
 exact aco List.countP_le_length zS
def nv (n:Nat) (vs:List Value):List (Option Value):=vs.map some++List.replicate (n-vs.length) none
theorem nv_at(n k:Nat)(vs:List Value):((nv n vs)[k]?).join=vs[k]? :=by
 unfold nv;rcases Nat.lt_or_ge k vs.length with h|h
 ·rw[aOo z2b,aSo];cases vs[k]?<;>rfl
 rw[aLo z2b,List.getElem?_replicate,aYo h];split<;>rfl
theorem nv_val(sp:Sp)(ch:List Nat)(n:Nat)(vs:List Value)(j:Nat):valN sp ch (nv n vs) j=valOf sp ch vs j:=by
 unfold valN valOf;rw[nv_at]
theorem n3f(ops:Array Oper)(sp:Sp)(ch:List Nat)(n:Nat)(vs:List Value):∀js,envN ops sp ch (nv n vs) js=envD ops sp ch vs js
 | []=>rfl
 |j::js=>by
  unfold envN envD;rw[n3f ops sp ch n vs js,nv_val]
theorem nv_deps(ch ds:List Nat)(n:Nat)(vs:List Value):nIc ch ds (nv n vs)=nie ch ds vs.length:=by
 unfold nIc nie;congr 1;funext j;rw[nv_at];congr 1;rw[aZo];simp[Nat.blt,Nat.succ_le_iff]
def rq1:Nat->List Nat
 |0=>[]
 |m+1=>[m]
def rqC:Nat->List Nat->List (List Nat)
 |_,[]=>[]
 |0,_::ch=>[]::rqC 1 ch
 |k+1,_::ch=>[k]::rqC (k+2) ch
theorem nPg:∀(ch:List Nat) (k:Nat),(rqC k ch).length=ch.length
 | [],k=>by cases k<;>rfl
 |_::ch,0=>by simp[rqC,nPg ch]
 |_::ch,k+1=>by simp[rqC,nPg ch]
theorem nqg:∀(ch:List Nat) (k i:Nat) (rq:List Nat),(rqC k ch)[i]? =some rq->rq=rq1 (k+i)
 | [],k,i,rq,h=>by cases k<;>simp[rqC]at h
 |_::ch,0,0,rq,h=>by simp[rqC]at h;subst h;rfl
 |_::ch,0,i+1,rq,h=>by
  have:=nqg ch 1 i rq (by simpa[rqC]using h);rw[show 0+(i+1)=i+1 by omega];rw[show 1+i=i+1 by omega]at this;exact this
 |_::ch,k+1,0,rq,h=>by simp[rqC]at h;subst h;rfl
 |_::ch,k+1,i+1,rq,h=>by
  have:=nqg ch (k+2) i rq (by simpa[rqC]using h);rw[show k+1+(i+1)=k+2+i by omega];exact this
theorem n6k{l:List Oper}:∀(ch:List Nat),nLd l ch=true->∀(k c c':Nat),ch[k]? =some c->ch[k+1]? =some c'->((nCe l []).getD c' 0).testBit c=true
 | [],_,k,c,c',h1,_=>by simp at h1
 | [x],_,k,c,c',_,h2=>by simp at h2
 |x::y::ch,h,k,c,c',h1,h2=>by
  simp only[nLd,awo]at h;cases k with
  |zero=>simp at h1 h2;subst h1;subst h2;exact h.1
  |succ k=>exact n6k (y::ch) h.2 k c c' zmd zGc
theorem nFm(l:List Oper)(ch:List Nat)(hch:nLd l ch=true):∀(rqs:List (List Nat)) (n:Nat),n+rqs.length=ch.length->(∀i rq,rqs[i]? =some rq->rq=rq1 (n+i))->netB l ch n rqs=true
 | [],_,_,_=>rfl
 |rq::rqs,n,hn,h=>by
  simp only[axo]at hn;unfold netB;have h0:=h 0 rq rfl;have hlt:n<ch.length:=by omega
  rw[nFm l ch hch rqs (n+1) zG (λi rq' hi=>by have:=h (i+1) rq' zMc;rw[show n+(i+1)=n+1+i by omega]at this;exact this),aNo hlt,Bool.and_true,h0];simp only[Nat.add_zero];cases n with
  |zero=>rfl
  |succ m=>
   have hm:m<ch.length:=by omega
   simp only[Nat.add_zero,rq1,List.all_cons,List.all_nil,Bool.and_true];rw[aNo hm];exact n6k ch hch m _ _ (aNo hm) (aNo hlt)
theorem nv_set{n:Nat}{v:Value}(h:vs.length<n):(nv n vs).set vs.length (some v)=nv n (vs++[v]):=by
 unfold nv;rw[List.set_append_right _ _ zS];simp only[aAo,Nat.sub_self,ayo,afo,a0o,aHo,axo,a1o,a2o];rw[show n-vs.length=(n-(vs.length+1))+1 by omega,List.replicate_succ];rfl
theorem ntl{n:Nat}{rq:List Nat}(hk:k<n)(hq:rq=rq1 k)(h:n5b rq k (nv n vs)=true):vs.length=k:=by
 unfold n5b at h;rw[nv_at]at h;simp only[awo,aPo,Option.isNone_iff_eq_none,List.getElem?_eq_none_iff]at h;cases k with
 |zero=>omega
 |succ m=>
  have:=h.2 m (by rw[hq];exact .head _);rw[nv_at]at this;simp at this;omega
theorem nDj{Q:Post}{l:List Oper}{id:Nat}(nA:Nat)(ch:List Nat)(sp:Sp)(Ph:List Value->List World->Heap->Prop)(hm:C.P.follows .mixedOrders=true)(h0:Ph [] L H)(hok:nJc l.toArray nA (sp.map (·.1)) E=true)(hsl:nFc l sp=true)(hN:nQc C.N l=true)(hch:nLd l ch=true)(hnd:nsc ch=true)(hpt:nFb ch 0 sp=true)(hlt':ch.all (λc=>Nat.blt c nA)=true)(pure:∀(i:Nat) (o:Oper) (ds:List Nat) (u:Value),l[i]? =some o->sp[i]? =some (ds,some u)->∀cv L' H',nie ch ds cv.length=true->Ph cv L' H'->X C l.toArray G L' H' (envD l.toArray sp ch cv ds++E) (λ_=>True) o (λv _=>v=u))(step:∀(k c:Nat) (o:Oper) (ds:List Nat) (d:Nat),ch[k]? =some c->l[c]? =some o->sp[c]? =some (ds,none)->o.dst=some d->∀cv L' H',cv.length=k->Ph cv L' H'->∀(F:Env) (Q':Post),(∀v L'' H'',Ph (cv++[v]) L'' H''->PJ C Q' .normal ((d,v)::(envD l.toArray sp ch cv ds++(E++F))) D G L'' H'')->OJ C l.toArray Q' [o] (envD l.toArray sp ch cv ds++(E++F)) D G L' H')(step0:∀(k c:Nat) (o:Oper) (ds:List Nat),ch[k]? =some c->l[c]? =some o->sp[c]? =some (ds,none)->o.dst=none->∀cv L' H',cv.length=k->Ph cv L' H'->∀(F:Env) (Q':Post),(∀v L'' H'',Ph (cv++[v]) L'' H''->PJ C Q' .normal (envD l.toArray sp ch cv ds++(E++F)) D G L'' H'')->OJ C l.toArray Q' [o] (envD l.toArray sp ch cv ds++(E++F)) D G L' H')(fin:∀cv L' H',cv.length=ch.length->Ph cv L' H'->OJ C l.toArray Q (l.drop nA) (envD l.toArray sp ch cv (List.range nA)++E) D G L' H'):CJ C (.region id l.toArray true) Q E D G L H:=by
 refine nSi nA ch sp (rqC 0 ch) (λcv L' H'=>∃vs:List Value,cv=nv ch.length vs/\vs.length<=ch.length/\Ph vs L' H') hm ⟨[],?_,a3o _,h0⟩ hok hsl hN (nFm l ch hch _ 0 (by rw[aVo,nPg]) (λi rq hi=>nqg ch 0 i rq hi)) hnd hpt hlt' ?_ ?_ ?_ (nPg ch 0) ?_
 ·unfold nv;simp[List.map_const']
 ·rintro i o ds u hl hs cv L' H' hlen hd ⟨vs,rfl,hle,hP⟩;rw[n3f];exact pure i o ds u hl hs vs L' H' (by rw[<-nv_deps];exact hd) hP
 ·rintro k c rq o ds d hk hr hl hs hd cv L' H' hlen hrd ⟨vs,rfl,hle,hP⟩ F Q' hc;have hkl:k<ch.length:=(ako.1 hk).1;have hv:=ntl hkl (by have:=nqg ch 0 k rq hr;rwa[aVo]at this) hrd;rw[n3f]at hc ⊢;refine step k c o ds d hk hl hs hd vs L' H' hv hP F Q' λv L'' H'' hP'=>hc v L'' H'' ⟨vs++[v],?_,by simp;omega,hP'⟩;rw[<-hv];exact nv_set zG
 ·rintro k c rq o ds hk hr hl hs hd cv L' H' hlen hrd ⟨vs,rfl,hle,hP⟩ F Q' hc;have hkl:k<ch.length:=(ako.1 hk).1;have hv:=ntl hkl (by have:=nqg ch 0 k rq hr;rwa[aVo]at this) hrd;rw[n3f]at hc ⊢;refine step0 k c o ds hk hl hs hd vs L' H' hv hP F Q' λv L'' H'' hP'=>hc v L'' H'' ⟨vs++[v],?_,by simp;omega,hP'⟩;rw[<-hv];exact nv_set zG
 rintro cv L' H' hlen hall ⟨vs,rfl,hle,hP⟩;rw[n3f];refine fin vs L' H' ?_ hP;rcases Nat.lt_or_ge vs.length ch.length with h|h
 ·have h1:(nv ch.length vs)[vs.length]? =some none:=by
   unfold nv;rw[aLo zS,List.getElem?_replicate,if_pos zGb]
  have:=aPo.1 hall none (ajo h1);cases this
 omega
theorem drawS{nA:Nat}{ds:List (List Nat)}(h:nBc ops nA ds E=true):nJc ops nA ds E=true/\∀(i:Nat) (o:Oper),i<nA->ops[i]? =some o->∃d,o.dst=some d:=by
 unfold nBc at h;unfold nJc;simp only[awo,aPo,aRo]at h ⊢;obtain⟨⟨h1,h2⟩,h3⟩:=h;refine⟨⟨⟨h1,h2⟩,λi hi=>?_⟩,λi o hi ho=>?_⟩
 ·have:=h3 i hi;cases ho:ops[i]? with
  |none=>rfl
  |some o=>
   simp only[ho,awo]at this ⊢;refine⟨this.1,?_⟩;have:=this.2;split at this
   ·rw[if_pos ‹_›];simp only[awo]at this ⊢;refine⟨this.1,?_⟩;have:=this.2;cases hd:o.dst with
    |none=>rfl
    |some d=>simp only[hd]at this ⊢;exact this
   rw[if_neg ‹_›];exact this
 have:=h3 i (ago.1 ho).1;simp only[ho,awo]at this;have:=this.2;rw[if_pos zzc]at this;cases hd:o.dst with
 |none=>simp[hd]at this
 |some d=>exact⟨d,rfl⟩
theorem ncl:∀(l:List Oper) (sp:Sp),(∀(i:Nat) (o:Oper),i<sp.length->l[i]? =some o->∃d,o.dst=some d)->nFc l sp=true
 | [],[],_=>rfl
 | [],_::_,_=>rfl
 |_::_,[],_=>rfl
 |o::l,(_,u)::sp,h=>by
  have ih:=ncl l sp λi o' hi ho=>h (i+1) o' zMc (by simpa using ho);obtain⟨d,hd⟩:=h 0 o zS rfl;cases u<;>simp[nFc,ih,hd]
theorem drawL{l:List Oper}{nA:Nat}{sp:Sp}(h:nBc l.toArray nA (sp.map (·.1)) E=true):nJc l.toArray nA (sp.map (·.1)) E=true/\nFc l sp=true/\∀(i:Nat) (o:Oper),i<nA->l[i]? =some o->∃d,o.dst=some d:=by
 obtain⟨h1,h2⟩:=drawS h;have hl:sp.length=nA:=by
  unfold nBc at h;simp only[awo]at h;simpa using a8n h.1.1
 exact⟨h1,ncl l sp λi o hi ho=>h2 i o zG (by simpa using ho),λi o hi ho=>h2 i o hi (by simpa using ho)⟩
theorem nMk{Q:Post}{l:List Oper}{id:Nat}(nA:Nat)(ch:List Nat)(sp:Sp)(Ph:List Value->List World->Heap->Prop)(hm:C.P.follows .mixedOrders=true)(h0:Ph [] L H)(hok:nBc l.toArray nA (sp.map (·.1)) E=true)(hN:nQc C.N l=true)(hch:nLd l ch=true)(hnd:nsc ch=true)(hpt:nFb ch 0 sp=true)(hlt':ch.all (λc=>Nat.blt c nA)=true)(pure:∀(i:Nat) (o:Oper) (ds:List Nat) (u:Value),l[i]? =some o->sp[i]? =some (ds,some u)->∀cv L' H',nie ch ds cv.length=true->Ph cv L' H'->X C l.toArray G L' H' (envD l.toArray sp ch cv ds++E) (λ_=>True) o (λv _=>v=u))(step:∀(k c:Nat) (o:Oper) (ds:List Nat) (d:Nat),ch[k]? =some c->l[c]? =some o->sp[c]? =some (ds,none)->o.dst=some d->∀cv L' H',cv.length=k->Ph cv L' H'->∀(F:Env) (Q':Post),(∀v L'' H'',Ph (cv++[v]) L'' H''->PJ C Q' .normal ((d,v)::(envD l.toArray sp ch cv ds++(E++F))) D G L'' H'')->OJ C l.toArray Q' [o] (envD l.toArray sp ch cv ds++(E++F)) D G L' H')(fin:∀cv L' H',cv.length=ch.length->Ph cv L' H'->OJ C l.toArray Q (l.drop nA) (envD l.toArray sp ch cv (List.range nA)++E) D G L' H'):CJ C (.region id l.toArray true) Q E D G L H:=by
 obtain⟨h1,h2,h3⟩:=drawL hok;refine nDj nA ch sp Ph hm h0 h1 h2 hN hch hnd hpt hlt' pure step ?_ fin;intro k c o ds hk hl _ hd;exact z0j
theorem CJ.net{Q:Post}{l:List Oper}{id:Nat}(nA:Nat)(ch:List Nat)(sp:Sp)(rqs:List (List Nat))(Ph:List (Option Value)->List World->Heap->Prop)(hm:C.P.follows .mixedOrders=true)(h0:Ph (ch.map λ_=>none) L H)(hok:nBc l.toArray nA (sp.map (·.1)) E=true)(hN:nQc C.N l=true)(hch:netB l ch 0 rqs=true)(hnd:nsc ch=true)(hpt:nFb ch 0 sp=true)(hlt':ch.all (λc=>Nat.blt c nA)=true)(pure:∀(i:Nat) (o:Oper) (ds:List Nat) (u:Value),l[i]? =some o->sp[i]? =some (ds,some u)->∀cv L' H',cv.length=ch.length->nIc ch ds cv=true->Ph cv L' H'->X C l.toArray G L' H' (envN l.toArray sp ch cv ds++E) (λ_=>True) o (λv _=>v=u))(step:∀(k c:Nat) (rq:List Nat) (o:Oper) (ds:List Nat) (d:Nat),ch[k]? =some c->rqs[k]? =some rq->l[c]? =some o->sp[c]? =some (ds,none)->o.dst=some d->∀cv L' H',cv.length=ch.length->n5b rq k cv=true->Ph cv L' H'->∀(F:Env) (Q':Post),(∀v L'' H'',Ph (cv.set k (some v)) L'' H''->PJ C Q' .normal ((d,v)::(envN l.toArray sp ch cv ds++(E++F))) D G L'' H'')->OJ C l.toArray Q' [o] (envN l.toArray sp ch cv ds++(E++F)) D G L' H')(hrq:rqs.length=ch.length)(fin:∀cv L' H',cv.length=ch.length->cv.all (λx=>x.isSome)=true->Ph cv L' H'->OJ C l.toArray Q (l.drop nA) (envN l.toArray sp ch cv (List.range nA)++E) D G L' H'):CJ C (.region id l.toArray true) Q E D G L H:=by
 obtain⟨h1,h2,h3⟩:=drawL hok;refine nSi nA ch sp rqs Ph hm h0 h1 h2 hN hch hnd hpt hlt' pure step ?_ hrq fin;intro k c rq o ds hk _ hl _ hd;exact z0j
def n4d (C:Cx) (ops:Array Oper) (G:Gh) (L:List World) (H:Heap) (E:Env) (sp:List OS):List Oper->List OS->Prop
 |o::l,(ds,some u)::ss=>(∀_:Nat->Value,X C ops G L H (envD ops sp [] [] ds++E) (λ_=>True) o (λv _=>v=u))/\n4d C ops G L H E sp l ss
 |_,_=>True
theorem xc{sp:List OS}{o:Oper}{l:List Oper}{u:Value}{ss:List OS}(h:∀_:Nat->Value,X C ops G L H (envD ops sp [] [] ds++E) (λ_=>True) o (λv _=>v=u))(t:n4d C ops G L H E sp l ss):n4d C ops G L H E sp (o::l) ((ds,some u)::ss):=⟨h,t⟩
theorem xn{sp:List OS}{l:List Oper}:n4d C ops G L H E sp l []:=by cases l<;>trivial
theorem partB0(i:Nat):∀sp:Sp,nFb [] i sp=true↔∀p∈sp,p.2.isSome=true
 | []=>by simp[nFb]
 |(ds,none)::sp=>by simp[nFb]
 |(ds,some u)::sp=>by simp[nFb,partB0 (i+1) sp]
theorem nCi{C:Cx}{ops:Array Oper}{G:Gh}{L:List World}{H:Heap}{E:Env}{sp:List OS}:∀(l:List Oper) (ss:List OS),n4d C ops G L H E sp l ss->nFb [] 0 ss=true->∀(i:Nat) (o:Oper) (ds:List Nat) (u:Value),l[i]? =some o->ss[i]? =some (ds,some u)->X C ops G L H (envD ops sp [] [] ds++E) (λ_=>True) o (λv _=>v=u)
 | [],_,_,_,i,o,ds,u,hl,_=>by simp at hl
 |_::_,[],_,_,i,o,ds,u,_,hs=>by simp at hs
 |o'::l,(ds',none)::ss,h,hp,i,o,ds,u,hl,hs=>by simp[nFb]at hp
 |o'::l,(ds',some u')::ss,h,hp,i,o,ds,u,hl,hs=>by
  cases i with
  |zero=>simp at hl hs;obtain⟨rfl,rfl⟩:=hs;subst hl;exact h.1 λ_=>undef
  |succ i=>exact nCi l ss h.2 (by rw[partB0]at hp ⊢;exact λp hpm=>hp p (.tail _ hpm)) i o ds u zdc (by simpa using hs)
theorem nw{Q:Post}{l:List Oper}{id:Nat}(nA:Nat)(sp:List OS)(hm:C.P.follows .mixedOrders=true)(exec:n4d C l.toArray G L H E sp l sp)(hok:nBc l.toArray nA (sp.map (·.1)) E=true)(hN:nQc C.N l=true)(hd:nFb [] 0 sp=true)(fin:∀(_:Nat->Value),OJ C l.toArray Q (l.drop nA) (envD l.toArray sp [] [] (List.range nA)++E) D G L H):CJ C (.region id l.toArray true) Q E D G L H:=by
 refine nMk nA [] sp (λcv L' H'=>cv=[]/\L'=L/\H'=H) hm ⟨rfl,rfl,rfl⟩ hok hN rfl rfl hd rfl ?_ (λk c o ds d hk=>by simp at hk) ?_
 ·rintro i o ds u hl hs cv L' H' _ ⟨rfl,rfl,rfl⟩;exact nCi l sp exec hd i o ds u hl hs
 rintro cv L' H' _ ⟨rfl,rfl,rfl⟩;exact fin λ_=>undef
end Px
namespace Px
/-! plain arithmetic: products and quotients of 128 bits -/
theorem mul64_hi(x y:Nat)(hx:x<2^64)(hy:y<2^64):(x/2^32)*(y/2^32)+((x/2^32)*(y%2^32)+(x%2^32)*(y%2^32)/2^32)/2^32+(((x/2^32)*(y%2^32)+(x%2^32)*(y%2^32)/2^32)%2^32+(x%2^32)*(y/2^32))/2^32=x*y/2^64:=by
 have h1:=a4o x (2^32);have h2:=a4o y (2^32);generalize x/2^32=x1 at *;generalize x%2^32=x0 at *;generalize y/2^32=y1 at *;generalize y%2^32=y0 at *;have e:x*y=2^64*(x1*y1)+2^32*(x1*y0)+2^32*(x0*y1)+x0*y0:=by
  rw[<-h1,<-h2];have:(2^64:Nat)=2^32*2^32:=by decide
  rw[this];simp only[a5o,Nat.mul_add];have a1:2^32*x1*(2^32*y1)=2^32*2^32*(x1*y1):=by
   rw[Nat.mul_mul_mul_comm]
  have a2:2^32*x1*y0=2^32*(x1*y0):=Nat.mul_assoc _ _ _;have a3:x0*(2^32*y1)=2^32*(x0*y1):=Nat.mul_left_comm _ _ _;omega
 rw[e];generalize x1*y1=p at *;generalize x1*y0=q at *;generalize x0*y1=r at *;generalize x0*y0=s at *;omega
theorem nDn(u y1 y0 un q:Nat)(hy1:2^31<=y1)(hy0:y0<2^32)(hun:un<2^32)(hq:q=u/y1):(u*2^32+un)/(y1*2^32+y0)<=q:=by
 subst hq;apply Nat.le_of_lt_succ;rw[Nat.div_lt_iff_lt_mul zG];have h:=Nat.lt_succ_self (u/y1);have h2:=a4o u y1;have h3:=Nat.mod_lt u (show 0<y1 by omega);have:u<y1*(u/y1+1):=by rw[Nat.mul_add];omega
 have h4:(u/y1).succ*(y1*2^32+y0)=(y1*(u/y1+1))*2^32+(u/y1+1)*y0:=by
  rw[Nat.succ_eq_add_one,Nat.mul_add,a6o (u/y1+1) (y1*2^32),Nat.mul_right_comm]
 rw[h4];generalize y1*(u/y1+1)=z at *;have:(u+1)*2^32<=z*2^32:=a7o _ this;omega
theorem nrf(u y1 y0 un q r:Nat)(hr:u=q*y1+r):(r*2^32+un<q*y0)↔u*2^32+un<q*(y1*2^32+y0):=by
 subst hr;rw[Nat.mul_add,a5o,Nat.mul_assoc];omega
def blen (n:Nat):Nat:=if n=0 then 0 else Nat.log2 n+1
theorem nan(n k:Nat)(h:2^k<=n):blen n=blen (n/2^k)+k:=by
 have hp:0<2^k:=Nat.two_pow_pos k;have hn:n≠0:=by omega
 have hq:n/2^k≠0:=by
  have:=Nat.div_pos h hp;omega
 unfold blen;rw[if_neg hn,if_neg hq];have:Nat.log2 n=Nat.log2 (n/2^k)+k:=by
  have h1:=Nat.log2_self_le hq;have h2:=Nat.lt_log2_self (n:=n/2^k);refine(Nat.log2_eq_iff hn).2 ⟨?_,?_⟩
  ·rw[Nat.pow_add];exact aco (a7o _ h1) (Nat.div_mul_le_self n (2^k))
  rw[show Nat.log2 (n/2^k)+k+1=(Nat.log2 (n/2^k)+1)+k by omega,Nat.pow_add];exact(Nat.div_lt_iff_lt_mul hp).1 h2
 omega
theorem nGg(n k:Nat)(h:n<2^k):blen n<=k:=by
 unfold blen;split
 ·omega
 rename_i hn;have:=(Nat.log2_lt hn).2 h;omega
theorem njh(n:Nat)(h:n≠0):2^(blen n-1)<=n/\n<2^blen n/\1<=blen n:=by
 unfold blen;rw[if_neg h];exact⟨by simpa using Nat.log2_self_le h,Nat.lt_log2_self,by omega⟩
/-! the quotient of 128 bits by 64 -/
theorem nOm(y:Nat)(hy:0<y)(hy1:y<2^64):blen y<=64/\2^63<=y*2^(64-blen y)/\y*2^(64-blen y)<2^64:=by
 have hb:=nGg y 64 hy1;obtain⟨h1,h2,h3⟩:=njh y zG;refine⟨hb,?_,?_⟩
 ·have:2^(blen y-1)*2^(64-blen y)<=y*2^(64-blen y):=a7o _ h1;rw[<-Nat.pow_add,show blen y-1+(64-blen y)=63 by omega]at this;exact this
 have:y*2^(64-blen y)<2^blen y*2^(64-blen y):=Nat.mul_lt_mul_of_pos_right h2 (Nat.two_pow_pos _);rw[<-Nat.pow_add,show blen y+(64-blen y)=64 by omega]at this;exact this
theorem nJl(lo s:Nat)(hs:s<=64):lo*2^s/2^64=lo/2^(64-s):=by
 have:(2:Nat)^64=2^(64-s)*2^s:=by
  have:=Nat.pow_add 2 (64-s) s;rwa[Nat.sub_add_cancel hs]at this
 rw[this,Nat.mul_div_mul_right _ _ (Nat.two_pow_pos s)]
theorem n3m(hi lo y s:Nat)(hs:s<=64)(h:hi<y)(hlo:lo<2^64):(hi*2^s+lo/2^(64-s))*2^64+lo*2^s%2^64=(hi*2^64+lo)*2^s/\hi*2^s+lo/2^(64-s)<y*2^s:=by
 have h1:=a4o (lo*2^s) (2^64);rw[nJl lo s hs]at h1;have e:(hi*2^s+lo/2^(64-s))*2^64+lo*2^s%2^64=(hi*2^64+lo)*2^s:=by
  have e1:(hi*2^64+lo)*2^s=hi*2^s*2^64+lo*2^s:=by
   rw[a5o,Nat.mul_right_comm]
  rw[e1];generalize lo*2^s=z at *;generalize hi*2^s=z' at *;omega
 refine⟨e,?_⟩;have h2:(hi*2^64+lo)*2^s<(y*2^s)*2^64:=by
  have:hi*2^64+lo<y*2^64:=by
   have:(hi+1)*2^64<=y*2^64:=a7o _ h;rw[a5o]at this;omega
  rw[Nat.mul_right_comm];exact Nat.mul_lt_mul_of_pos_right this (Nat.two_pow_pos s)
 rw[<-e]at h2;clear e h1;generalize hi*2^s+lo/2^(64-s)=U at *;generalize y*2^s=Y at *;generalize lo*2^s%2^64=z at *;omega
theorem div_two(u v Y r1 B:Nat)(hr:(u*B+v/B)%Y=r1):u*(B*B)+v=((u*B+v/B)/Y*B+(r1*B+v%B)/Y)*Y+(r1*B+v%B)%Y:=by
 have h1:=a4o (u*B+v/B) Y;have h2:=a4o (r1*B+v%B) Y;have h3:=a4o v B;rw[hr]at h1;clear hr;generalize (u*B+v/B)/Y=d1 at *;generalize (r1*B+v%B)/Y=d0 at *;generalize (r1*B+v%B)%Y=r0 at *;have e1:(d1*B+d0)*Y=Y*d1*B+Y*d0:=by
  rw[a5o,Nat.mul_right_comm,a6o d1 Y,a6o d0 Y]
 rw[e1,Nat.add_assoc,h2];have e2:(Y*d1+r1)*B=(u*B+v/B)*B:=by rw[h1]
 rw[a5o,a5o,Nat.mul_assoc u B B,a6o (v/B) B]at e2;omega
theorem nYb(u v Y r1:Nat)(hr:(u*2^32+v/2^32)%Y=r1):u*2^64+v=((u*2^32+v/2^32)/Y*2^32+(r1*2^32+v%2^32)/Y)*Y+(r1*2^32+v%2^32)%Y:=by
 have:=div_two u v Y r1 (2^32) hr;rw[<-this]
theorem nXb(hi lo y s Qn R:Nat)(hR:R<y*2^s)(h:(hi*2^64+lo)*2^s=Qn*(y*2^s)+R):(hi*2^64+lo)/y=Qn/\(hi*2^64+lo)%y=R/2^s:=by
 have hp:0<2^s:=Nat.two_pow_pos s;generalize hi*2^64+lo=N at *;generalize 2^s=p at *;have hy:0<y:=by
  rcases Nat.eq_zero_or_pos y with rfl|h
  ·simp at hR
  exact h
 have e:R=(N-Qn*y)*p:=by
  rw[Nat.sub_mul,Nat.mul_assoc];omega
 have hle:Qn*y<=N:=by
  apply Nat.le_of_mul_le_mul_right (c:=p) _ hp;rw[Nat.mul_assoc];omega
 have hlt:N-Qn*y<y:=by
  rw[e]at hR;exact Nat.lt_of_mul_lt_mul_right hR
 have hd:R/p=N-Qn*y:=by rw[e,Nat.mul_div_cancel _ hp]
 have hN:N=y*Qn+(N-Qn*y):=by rw[a6o y Qn];omega
 rw[hd];constructor
 ·rw[hN,Nat.mul_add_div hy,Nat.div_eq_of_lt hlt];rfl
 have:(y*Qn+(N-Qn*y))%y=N-Qn*y:=by rw[Nat.mul_add_mod,Nat.mod_eq_of_lt hlt]
 rw[<-hN]at this;exact this
structure Dig (u y1 y0 un q r:Nat):Prop where
 eq:q*y1+r=u
 lt:r<2^32
 ge:(u*2^32+un)/(y1*2^32+y0)<=q
 le:q<=2^32+1
section
variable {u y1 y0 un q r:Nat}
theorem Dig.start(hy1:2^31<=y1)(hy1':y1<2^32)(hy0:y0<2^32)(hun:un<2^32)(hu:u<y1*2^32+y0):Dig u y1 y0 un (u/y1) (u%y1):=by
 have h1:=Nat.mod_lt u (show 0<y1 by omega);refine⟨?_,by omega,nDn u y1 y0 un _ hy1 hy0 hun rfl,?_⟩
 ·rw[a6o];exact a4o u y1
 apply Nat.le_of_lt_succ;rw[Nat.div_lt_iff_lt_mul zG];rw[Nat.succ_eq_add_one];omega
theorem Dig.small(hy1:2^31<=y1)(hu:u<y1*2^32+y0)(hun:un<2^32):(u*2^32+un)/(y1*2^32+y0)<2^32:=by
 rw[Nat.div_lt_iff_lt_mul zG];omega
theorem Dig.stop(h:Dig u y1 y0 un q r)(hy1:2^31<=y1)(ht:q*y0<=r*2^32+un):(u*2^32+un)/(y1*2^32+y0)=q:=by
 have h1:=nrf u y1 y0 un q r h.eq.symm;have h2:q*(y1*2^32+y0)<=u*2^32+un:=ato λhl=>by have:=h1.2 hl;omega
 have h3:=(Nat.le_div_iff_mul_le (show 0<y1*2^32+y0 by omega)).2 h2;have:=h.ge;omega
theorem Dig.more(h:Dig u y1 y0 un q r)(hy1:2^31<=y1)(hu:u<y1*2^32+y0)(hun:un<2^32)(ht:2^32<=q\/r*2^32+un<q*y0):1<=q/\(q-1)*y1+(r+y1)=u/\(u*2^32+un)/(y1*2^32+y0)<=q-1:=by
 have hlt:(u*2^32+un)/(y1*2^32+y0)<q:=by
  rcases ht with ht|ht
  ·exact ado (Dig.small hy1 hu hun) ht
  have:=(nrf u y1 y0 un q r h.eq.symm).1 ht;rw[Nat.div_lt_iff_lt_mul zG];exact this
 have hq:1<=q:=Nat.succ_le_of_lt (Nat.lt_of_le_of_lt (a3o _) hlt);refine⟨hq,?_,Nat.le_sub_one_of_lt hlt⟩;have:=h.eq;rw[Nat.sub_mul,Nat.one_mul];have:y1<=q*y1:=Nat.le_mul_of_pos_left _ hq;omega
theorem nnb(hq:q<=2^32)(hr:2^32<=r)(he:q*y1+r=u)(hge:(u*2^32+un)/(y1*2^32+y0)<=q)(hy1:2^31<=y1)(hy0:y0<2^32):(u*2^32+un)/(y1*2^32+y0)=q:=by
 have h1:=nrf u y1 y0 un q r he.symm;have hb:q*y0<=2^32*(2^32-1):=Nat.mul_le_mul hq zG;have h2:q*(y1*2^32+y0)<=u*2^32+un:=ato λhl=>by have:=h1.2 hl;omega
 have h3:=(Nat.le_div_iff_mul_le (show 0<y1*2^32+y0 by omega)).2 h2;omega
end
theorem or_disj(a b i:Nat)(hb:b<2^i):a*2^i|||b=a*2^i+b:=by
 rw[a6o];exact(Nat.two_pow_add_eq_or_of_lt hb a).symm
end Px
namespace Px
open Go
theorem nFd{a b A B:Int}(ha:0<=a)(ha1:a<=A)(hb:0<=b)(hb1:b<=B):0<=a*b/\a*b<=A*B:=
 ⟨Int.mul_nonneg ha hb,Int.mul_le_mul ha1 hb1 hb (Int.le_trans ha ha1)⟩
theorem nyn(x y:Int)(hx:0<=x)(hy:0<=y)(hx1:x<18446744073709551616)(hy1:y<18446744073709551616):(x/4294967296)*(y/4294967296)+((x/4294967296)*(y%4294967296)+(x%4294967296)*(y%4294967296)/4294967296)/4294967296+(((x/4294967296)*(y%4294967296)+(x%4294967296)*(y%4294967296)/4294967296)%4294967296+(x%4294967296)*(y/4294967296))/4294967296=x*y/18446744073709551616:=by
 obtain⟨a,rfl⟩:=aqo hx;obtain⟨b,rfl⟩:=aqo hy;have:=mul64_hi a b zG zG;have h2:((2^32:Nat):Int)=4294967296:=by decide
 have h3:((2^64:Nat):Int)=18446744073709551616:=by decide
 have:=congrArg (Nat.cast (R:=Int)) this;simp only[Int.natCast_add,Int.natCast_mul,Int.natCast_ediv,Int.natCast_emod,h2,h3]at this;exact this
def nlb (x:Int):Int:=blen x.toNat
theorem nVd(n k:Nat):((n:Int)/2^k)=((n/2^k:Nat):Int):=by
 rw[Int.natCast_ediv];simp
theorem nLl{x:Int}(k:Nat)(h:2^k<=x):nlb x=nlb (x/2^k)+k:=by
 have h0:0<=x:=Int.le_trans (Int.le_of_lt (Int.pow_pos zI)) h;obtain⟨n,rfl⟩:=aqo h0;unfold nlb;have h':2^k<=n:=by
  have:((2^k:Nat):Int)<=n:=by simpa using h
  exact Int.ofNat_le.1 this
 rw[nVd,a8o,a8o,nan n k h'];simp
theorem nIk{x:Int}(k:Nat)(h0:0<=x)(h:x<2^k):0<=nlb x/\nlb x<=k:=by
 obtain⟨n,rfl⟩:=aqo h0;have h':n<2^k:=by
  have:(n:Int)<((2^k:Nat):Int):=by simpa using h
  exact Int.ofNat_lt.1 this
 have:=nGg n k h';unfold nlb;simp;omega
theorem shl_re(m s:Nat)(hs:s<=64)(h:m*2^s<18446744073709551616):IntKind.u64.wrap ((m:Int)*2^(min (Int.toNat (s:Int)) IntKind.u64.bits))=((m*2^s:Nat):Int):=by
 rw[show min (Int.toNat (s:Int)) IntKind.u64.bits=s by simp[IntKind.bits]<;>omega];have e:((m*2^s:Nat):Int)=(m:Int)*2^s:=by simp
 rw[<-e];exact nqc zG zG
theorem shl_mod(m s:Nat)(hs:s<=64):IntKind.u64.wrap ((m:Int)*2^(min (Int.toNat (s:Int)) IntKind.u64.bits))=((m*2^s%2^64:Nat):Int):=by
 rw[show min (Int.toNat (s:Int)) IntKind.u64.bits=s by simp[IntKind.bits]<;>omega];have e:((m*2^s:Nat):Int)=(m:Int)*2^s:=by simp
 rw[<-e,ny];generalize m*2^s=z;omega
theorem shr_re(m s:Nat)(k:Int)(hk:k=((64-s:Nat):Int)):(m:Int).fdiv (2^(min (Int.toNat k) IntKind.u64.bits))=((m/2^(64-s):Nat):Int):=by
 subst hk;rw[show min (Int.toNat ((64-s:Nat):Int)) IntKind.u64.bits=64-s by simp[IntKind.bits]<;>omega,nre,nVd]
theorem nec(m s:Nat)(hs:s<=64):(m:Int).fdiv (2^(min (Int.toNat (s:Int)) IntKind.u64.bits))=((m/2^s:Nat):Int):=by
 rw[show min (Int.toNat (s:Int)) IntKind.u64.bits=s by simp[IntKind.bits]<;>omega,nre,nVd]
theorem bv64(k:Nat)(hk:k<18446744073709551616):(BitVec.ofInt IntKind.u64.bits (k:Int)).toNat=k:=by
 rw[BitVec.ofInt_natCast,BitVec.toNat_ofNat];exact Nat.mod_eq_of_lt hk
theorem or_re(a b i:Nat)(hb:b<2^i)(h:a*2^i+b<18446744073709551616):IntKind.u64.wrap ((BitVec.ofInt IntKind.u64.bits ((a*2^i:Nat):Int)|||BitVec.ofInt IntKind.u64.bits (b:Int)).toNat:Int)=((a*2^i+b:Nat):Int):=by
 rw[BitVec.toNat_or,bv64 _ zG,bv64 _ zG,or_disj a b i hb];exact nqc zG zG
theorem lo_shift(lo s:Nat)(hs:s<=64)(h:lo<18446744073709551616):lo/2^(64-s)<2^s:=by
 rw[Nat.div_lt_iff_lt_mul (Nat.two_pow_pos _),<-Nat.pow_add,Nat.add_sub_cancel' hs];exact h
theorem n9d(a b:Nat):((a:Int)/(b:Int))=((a/b:Nat):Int):=(Int.natCast_ediv a b).symm
theorem shr_v(m i:Nat)(k:Int)(hk:k=(i:Int))(hi:i<=64):(m:Int).fdiv (2^(min (Int.toNat k) IntKind.u64.bits))=((m/2^i:Nat):Int):=by
 subst hk;exact nec m i hi
end Px
namespace Px
open Go Go.RowKit
/-! #### own blocks that are forgotten -/
def Over (n:Nat):Heap->Prop
 | []=>True
 |p::H=>n<=p.1/\Over n H
variable {H:Heap}
theorem Over.mem{n:Nat}(h:Over n H):∀p∈H,n<=p.1:=by
 exact zoj
section
variable {G:Gh} {L:List World} {H:Heap} {W:World}
theorem St.base(h:St Gh.no L H W){w:World}(hw:w∈L)(ho:Over w.heap.size H):Below w.heap.size w W:=
 (h.links w hw).below λk hk hx=>by
  rcases hx with hx|hx
  ·exact hx
  obtain⟨p,hp,rfl⟩:=ano.1 hx;have:=ho.mem p hp;omega
def Fr (G:Gh) (L:List World) (b:Nat):Prop:=G.X b\/Above L b
variable {b:Nat} {o:Obj}
theorem St.dropF(h:St G L ((b,o)::H) W)(ha:Fr G L b):St G L H W where
 ghost:=h.ghost
 vlt:=h.vlt
 xlt:=h.xlt
 links:=λw hw=>(h.links w hw).mono λk hk hx=>by
  rcases hx with hx|hx
  ·exact .inl hx
  simp only[afo,aeo]at hx;rcases hx with rfl|hx
  ·rcases ha with ha|ha
   ·exact .inl ha
   have:=ha.mem w hw;omega
  exact .inr hx
 own:=λp hp=>h.own p (List.mem_cons_of_mem _ hp)
 nodup:=λi j p q hi hj e=>by
  have:=h.nodup (i+1) (j+1) p q zMc (by simpa using hj) e;omega
 apart:=λp hp=>h.apart p (List.mem_cons_of_mem _ hp)
theorem St.drop(h:St G L ((b,o)::H) W)(ha:Above L b):St G L H W:=h.dropF (.inr ha)
theorem St.adopt(h:St G L H W)(hb:W.heap[b]? =some o)(ha:Off H b)(hV:¬G.V b):St G L ((b,o)::H) W where
 ghost:=h.ghost
 vlt:=h.vlt
 xlt:=h.xlt
 links:=λw hw=>(h.links w hw).mono λk _ hx=>hx.imp id λhx=>by simp[hx]
 own:=λp hp=>by
  simp only[aeo]at hp;rcases hp with rfl|hp
  ·exact hb
  exact h.own p hp
 nodup:=λi j p q hi hj e=>by
  cases i with
  |zero=>
   cases j with
   |zero=>rfl
   |succ j=>
    simp only[aho,a9n,aio]at hi hj;subst hi;exact absurd (ano.2 ⟨q,ajo hj,e.symm⟩) ha.mem
  |succ i=>
   cases j with
   |zero=>
    simp only[aho,a9n,aio]at hi hj;subst hj;exact absurd (ano.2 ⟨p,ajo hi,e⟩) ha.mem
   |succ j=>
    simp only[aio]at hi hj;rw[h.nodup i j p q hi hj e]
 apart:=λp hp=>by
  simp only[aeo]at hp;rcases hp with rfl|hp
  ·exact hV
  exact h.apart p hp
end
/-! #### results -/
section
variable {C:Cx} {fn:Func} {R:Ending->World->Prop} {E:Env} {G:Gh} {L:List World} {H:Heap}
def RS (C:Cx) (G:Gh) (L:List World) (H:Heap) (E:Env):List ResultVar->List Value->Prop
 | [],vs=>vs=[]
 |r::rs,vs=>∃v us,vs=v::us/\(match r with
  | .tmp t=>look E t=some v
  | .cell t T=>∀a W,Fits E a->St G L H W->(do loadVar T (<-asAddr (a.tmps.getD t undef)):Sem Value).run C.P W= .ok v W)/\RS C G L H E rs us
theorem RS.run:∀{rs:List ResultVar} {vs:List Value},RS C G L H E rs vs->∀(a:Act) (W:World),Fits E a->St G L H W->(rs.mapM λr=>(match r with| .tmp t=>pure (a.tmps.getD t undef)| .cell b t=>do loadVar t (<-asAddr (a.tmps.getD b undef)):Sem Value)).run C.P W= .ok vs W
 | [],vs,h,a,W,_,_=>by cases h;simp
 |r::rs,vs,h,a,W,hF,hS=>by
  obtain⟨v,us,rfl,hr,h⟩:=h;have ih:=RS.run h a W hF hS;cases r with
  |tmp t=>
   have:=hF t v hr;simp only[Act.eval]at this;simp[-Array.getD_eq_getD_getElem?,List.mapM_cons,ih,this]
  |cell b T=>
   have:=hr a W hF hS;rw[List.mapM_cons,Sem.run_bind];simp only[this];simp[-Array.getD_eq_getD_getElem?,ih]
variable {rs:List ResultVar} {vs:List Value}
theorem RS.t{t:Nat}{v:Value}(h:look E t=some v)(k:RS C G L H E rs vs):RS C G L H E (.tmp t::rs) (v::vs):=⟨v,vs,rfl,h,k⟩
variable {cs:Array Value} {T b i:Nat} {fr:Nat×Nat}
theorem RS.w{t off ct:Nat}{v:Value}(hi:H[i]? =some (b,.cells cs ct fr))(hA:AggF C.P T false)(hx:look E t=some (ptr b off))(hv:cs[off]? =some v)(k:RS C G L H E rs vs):RS C G L H E (.cell t T::rs) (v::vs):=
 ⟨v,vs,rfl,λa W hF hS=>by
  have:=hF t _ hx;simp only[Act.eval]at this;simp[-Array.getD_eq_getD_getElem?,this,asAddr,nne hA (hS.own _ (ajo hi)) hv],k⟩
theorem RS.wA{t off ct n:Nat}(hi:H[i]? =some (b,.cells cs ct fr))(hA:AggF C.P T true)(hZ:nK C.P T n)(hx:look E t=some (ptr b off))(hv:off+n<=cs.size)(k:RS C G L H E rs vs):RS C G L H E (.cell t T::rs) (.agg (cut cs off n)::vs):=
 ⟨_,vs,rfl,λa W hF hS=>by
  have:=hF t _ hx;simp only[Act.eval]at this;simp[-Array.getD_eq_getD_getElem?,this,asAddr,nog hA hZ (hS.own _ (ajo hi)) hv],k⟩
variable {w1:World}
theorem RS.r{t off ct:Nat}{v:Value}(hA:AggF C.P T false)(hx:look E t=some (ptr b off))(hm:w1∈L)(hb:w1.heap[b]? =some (.cells cs ct fr))(hG:¬G.X b)(hO:Off H b)(hv:cs[off]? =some v)(k:RS C G L H E rs vs):RS C G L H E (.cell t T::rs) (v::vs):=
 ⟨_,vs,rfl,λa W hF hS=>by
  have:=hF t _ hx;simp only[Act.eval]at this;simp[-Array.getD_eq_getD_getElem?,this,asAddr,nne hA (hS.old hm hb hG hO) hv],k⟩
theorem RS.n:RS C G L H E [] []:=rfl
def nFg:List Value->Value
 | [v]=>v
 |vs=>.tuple vs.toArray
variable {W:World}
theorem RS.res(h:RS C G L H E rs vs)(hr:fn.results=rs.toArray){a:Act}(hF:Fits E a)(hS:St G L H W):(results fn a.tmps).run C.P W= .ok (nFg vs) W:=by
 have:=h.run a W hF hS;unfold results;rw[hr,Sem.run_bind,List.mapM_toArray];simp only[Sem.run_map];refine(congrArg (λr=>Result.andThen (Result.andThen r _) _) this).trans ?_
 match vs with
 | []=>rfl
 | [v]=>rfl
 |v::u::vs=>simp[nFg]
variable {e:Exit}
theorem retG(he:e= .ret\/e= .normal)(hr:fn.results=rs.toArray)(h:RS C G L H E rs vs)(hR:∀W,St G L H W->R (.returned (nFg vs)) W):PJ C (bodyPost C.P fn R) e E [] G L H:=λa W _ hD hF hS=>by
 have:bodyPost C.P fn R .ret a W:=⟨hD,_,h.res hr hF hS,hR W hS⟩;rcases he with rfl|rfl<;>exact this
theorem retO{v:Value}{w:World}(he:e= .ret\/e= .normal)(hr:fn.results=rs.toArray)(h:RS C Gh.no L H E rs vs)(hw:w∈L)(ho:Over w.heap.size H)(hv:nFg vs=v):PJ C (bodyPost C.P fn (Ret w v)) e E [] Gh.no L H:=retG he hr h λ_ hS=>⟨by rw[hv],hS.base hw ho⟩
/-! #### a callee that writes a block -/
def RetM (w:World) (v:Value) (b:Nat) (o:Obj):Ending->World->Prop:=λe w'=>e= .returned v/\Keep (· =b) w w'/\w'.heap[b]? =some o
variable {o:Obj}
theorem ngg{w:World}(h:w.heap[b]? =some o):St Gh.no [w] [(b,o)] w where
 ghost:=trivial
 vlt:=λ_ h=>h.elim
 xlt:=λ_ h=>h.elim
 links:=λw' hw=>by simp at hw;subst hw;exact Keep.refl _ _
 own:=λp hp=>by simp at hp;subst hp;exact h
 nodup:=λi j p q hi hj _=>by
  have h1:=(ako.1 hi).1;have h2:=(ako.1 hj).1;simp at h1 h2;omega
 apart:=λ_ _ h=>h.elim
end
section
variable {C:Cx} {Q:Post} {E:Env} {D:List Deferred} {G:Gh} {L:List World} {H:Heap} {ops:Array Oper} {l:List Oper}
variable {d T ty f:Nat} {pos:String} {aft:Array Edge} {g:Option (Nat×Bool)} {x y:Operand} {xs:List Operand} {vs:List Value} {tys:Array Nat}
theorem nSb{v:Value}{cap:List Value}(hx:ev E x=some (.func (.func f) #[] cap.toArray))(hent:Ent C.P f)(hw:nm ops E g=some true)(hN:Nat.blt d C.N=true)(ha:evs E xs=some vs)(hc:∀W,St G L H W->Calls C.P f (vs++cap).toArray W (Ret W v))(k:OJ C ops Q l ((d,v)::E) D G L H):OJ C ops Q (⟨some d,.call ⟨.value x,xs.toArray,tys⟩,ty,pos,aft,g⟩::l) E D G L H:=
 nN rfl hw hx ha zS hent λa W hN' hD hF hS=>(hc W hS).mono (by
  rintro e W' ⟨rfl,hb⟩;exact k (a.put (some d) v) W' zrb zpb (hF.put _ zqb) (hS.step hb))
variable {b i:Nat} {o:Obj}
theorem nMc{v:Value}{first cap:List Value}{o':Obj}(hi:H[i]? =some (b,o))(hx:ev E x=some (.func (.func f) first.toArray cap.toArray))(hent:Ent C.P f)(hw:nm ops E g=some true)(hN:Nat.blt d C.N=true)(ha:evs E xs=some vs)(hc:∀W,St G L H W->W.heap[b]? =some o->Calls C.P f (first++vs++cap).toArray W (RetM W v b o'))(k:OJ C ops Q l ((d,v)::E) D G L (H.set i (b,o'))):OJ C ops Q (⟨some d,.call ⟨.value x,xs.toArray,tys⟩,ty,pos,aft,g⟩::l) E D G L H:=
 nN rfl hw hx ha zS hent λa W hN' hD hF hS=>(hc W hS (hS.own _ (ajo hi))).mono (by
  rintro e W' ⟨rfl,hk,hb⟩;exact k (a.put (some d) v) W' zrb zpb (hF.put _ zqb) (hS.put hi hk hb))
variable {H':Heap}
theorem OJ.reH(e:H=H')(k:OJ C ops Q l E D G L H'):OJ C ops Q l E D G L H:=by rw[e];exact k
theorem CJ.reH{c:Code}(e:H=H')(k:CJ C c Q E D G L H'):CJ C c Q E D G L H:=by rw[e];exact k
variable {e':Exit}
theorem PJ.reH(e:H=H')(k:PJ C Q e' E D G L H'):PJ C Q e' E D G L H:=by rw[e];exact k
theorem PJ.drop(ha:Above L b)(k:PJ C Q e' E D G L H):PJ C Q e' E D G L ((b,o)::H):=λa W hN hD hF hS=>k a W hN hD hF (hS.drop ha)
/-! #### values -/
theorem lenS_r{base:Option Addr}{n c e:Nat}{t:Nat}(hU:C.P.underlying t=some (.slice e))(hx:ev E x=some (.slice base n c)):RV C G L H E (.call ⟨.builtin .len,#[x],#[t]⟩) (.int .i64 (n:Int)):=λd ty pos aft g a W hF _=>by
 simp[execOp,hF.ev hx,resolve,invoke,Deferred.ofValue,builtin,Builtin.len_,run_underlying hU,goInt]
end
section
variable {C:Cx} {Q:Post} {E:Env} {D:List Deferred} {G:Gh} {L:List World} {H:Heap} {ops:Array Oper} {l:List Oper}
variable {d T ty f:Nat} {pos:String} {aft:Array Edge} {g:Option (Nat×Bool)} {x y:Operand} {xs:List Operand} {vs:List Value} {tys:Array Nat}
def evp (E:Env):List (Nat×Operand)->Option (List (Nat×Value))
 | []=>some []
 |(i,x)::ps=>match ev E x,evp E ps with
  |some v,some vs=>some ((i,v)::vs)
  |_,_=>none
theorem nud{a:Act}(h:Fits E a):∀(ps:List (Nat×Operand)) (vs:List (Nat×Value)),evp E ps=some vs->ps.map (λ(i,x)=>(i,a.eval x))=vs
 | [],vs,e=>by cases e;rfl
 |(i,x)::ps,vs,e=>by
  simp only[evp]at e;split at e
  ·rename_i v us hv hus;cases e
   simp[h.ev hv,nud h ps us hus]
  cases e
theorem fold_set(xs:List Value):∀(cs:Array Value) (off k:Nat),(xs.zipIdx k).foldl (λcs (c,j)=>cs.setIfInBounds (off+j) c) cs=setCells cs (off+k) xs:=by
 induction xs with
 |nil=>intro cs off k;rfl
 |cons x xs ih=>intro cs off k;simp only[List.zipIdx_cons,List.foldl_cons,setCells];exact ih _ off (k+1)
theorem n3n(xs cs:Array Value)(off:Nat):xs.zipIdx.foldl (λcs (c,j)=>cs.setIfInBounds (off+j) c) cs=setCells cs off xs.toList:=by
 rw[<-Array.foldl_toList,Array.toList_zipIdx];exact fold_set xs.toList cs off 0
def setL:List Value->Nat->List Value->List Value
 | [],_,_=>[]
 |c::cs,0,[]=>c::cs
 |_::cs,0,x::xs=>x::setL cs 0 xs
 |c::cs,n+1,xs=>c::setL cs n xs
theorem nih(cs:List Value)(n:Nat):setL cs n []=cs:=by
 induction cs generalizing n with
 |nil=>cases n<;>rfl
 |cons c cs ih=>cases n with
  |zero=>rfl
  |succ n=>simp[setL,ih]
theorem setL_set(cs:List Value)(x:Value)(xs:List Value):∀n,setL (cs.set n x) (n+1) xs=setL cs n (x::xs):=by
 induction cs with
 |nil=>intro n;cases n<;>rfl
 |cons c cs ih=>intro n;cases n with
  |zero=>rfl
  |succ n=>simp only[a9o,setL];rw[ih]
theorem nEb(xs:List Value):∀(cs:Array Value) (off:Nat),(setCells cs off xs).toList=setL cs.toList off xs:=by
 induction xs with
 |nil=>intro cs off;rw[nih];rfl
 |cons x xs ih=>intro cs off;rw[setCells,ih,Array.toList_setIfInBounds,setL_set]
theorem setC_all(cs xs:Array Value)(h:cs.size=xs.size):setCells cs 0 xs.toList=xs:=by
 apply Array.ext';rw[nEb];have key:∀(l r:List Value),l.length=r.length->setL l 0 r=r:=by
  intro l;induction l with
  |nil=>intro r h;simp at h;have:=aap h.symm;subst this;rfl
  |cons c l ih=>intro r h;cases r with
   |nil=>simp at h
   |cons x r=>simp only[setL];rw[ih r z2b]
 exact key _ _ z2b
variable {cs:Array Value} {b i:Nat}
theorem stWw{t n:Nat}{v:Value}(hi:H[i]? =some (b,.cells cs t (0,0)))(hZ:nK C.P T n)(hw:nm ops E g=some true)(hx:ev E x=some (ptr b 0))(hy:ev E y=some v)(hv:v.cells.size=n)(hn:cs.size=n)(h1:nO v.cells.toList=true)(k:OJ C ops Q l E D G L (H.set i (b,.cells v.cells t (0,0)))):OJ C ops Q (⟨none,.store T x y,ty,pos,aft,g⟩::l) E D G L H:=
 stW hi hZ hw hx hy hv zG h1 (by rw[setC_all cs v.cells zG];exact k)
def nGe (pl:Nat->Option (Nat×Nat)):List Value->List (Nat×Value)->Option (List Value)
 |cs,[]=>some cs
 |cs,(i,v)::ps=>match pl i with
  |none=>none
  |some (off,n)=>match Nat.beq v.cells.size n&&Nat.ble (off+n) cs.length with
   |true=>nGe pl (setL cs off v.cells.toList) ps
   |false=>none
theorem ngd{pl:Nat->Option (Nat×Nat)}:∀{ps:List (Nat×Value)} {cs:Array Value} {ds:List Value},nGe pl cs.toList ps=some ds->Instr.fill pl cs ps=some ds.toArray
 | [],cs,ds,h=>by simp only[nGe,a9n]at h;subst h;rfl
 |(i,v)::ps,cs,ds,h=>by
  simp only[nGe]at h;unfold Instr.fill;cases hp:pl i with
  |none=>rw[hp]at h;simp at h
  |some q=>
   obtain⟨off,n⟩:=q;rw[hp]at h;simp only at h ⊢;split at h
   ·rename_i hb;simp only[awo,Nat.beq_eq,Nat.ble_eq]at hb;have h1:v.cells.size=n:=hb.1;have h2:off+n<=cs.size:=by simpa using hb.2
    rw[if_neg zGb,n3n];exact ngd (by rw[nEb];exact h)
   simp at h
def seqP:Nat->List Value->List (Nat×Value)
 |_,[]=>[]
 |k,v::vs=>(k,v)::seqP (k+1) vs
def nAb:List Value->List Value
 | []=>[]
 |v::vs=>v.cells.toList++nAb vs
def nKf (m:Nat):List Value->Bool
 | []=>true
 |v::vs=>Nat.beq v.cells.size m&&nKf m vs
theorem nzf(a b c xs:List Value)(h:xs.length=b.length):setL (a++(b++c)) a.length xs=a++(xs++c):=by
 induction a with
 |nil=>
  simp only[abp,a1o];induction b generalizing xs with
  |nil=>simp at h;subst h;simp[nih]
  |cons y b ih=>
   cases xs with
   |nil=>simp at h
   |cons x xs=>simp only[aEo,setL];rw[ih xs z2b]
 |cons y a ih=>simp only[aEo,axo,setL];rw[ih]
theorem nke(m:Nat):∀(vs:List Value) (k:Nat) (a c:List Value),nKf m vs=true->a.length=k*m->c.length=vs.length*m->nGe (λi=>some (i*m,m)) (a++c) (seqP k vs)=some (a++nAb vs)
 | [],k,a,c,_,_,hc=>by
  have:c=[]:=aap (by simpa using hc);subst this;rfl
 |v::vs,k,a,c,hs,ha,hc=>by
  simp only[nKf,awo,Nat.beq_eq]at hs;simp only[axo,a5o,Nat.one_mul]at hc;simp only[seqP,nGe];have hv:v.cells.toList.length=m:=by simpa using hs.1
  obtain⟨b,c',rfl,hb⟩:∃b c',c=b++c'/\b.length=m:=⟨c.take m,c.drop m,(acp m c).symm,by simp;omega⟩;have ht:(Nat.beq v.cells.size m&&Nat.ble (k*m+m) (a++(b++c')).length)=true:=by
   simp only[awo,Nat.beq_eq,Nat.ble_eq,aHo]at *;omega
  rw[ht];simp only;rw[<-ha,nzf a b c' _ zG];simp only[aHo]at hc;have:=nke m vs (k+1) (a++v.cells.toList) c' hs.2 (by rw[aHo,a5o];omega) zG;rw[a2o]at this;rw[this,nAb,a2o]
def PlF (P:Program):List Field->List (Nat×Nat)->Prop
 | [],ps=>ps=[]
 |f::fs,ps=>∃n qs,ps=(f.offset,n)::qs/\nK P f.type n/\PlF P fs qs
theorem PlF.n{P:Program}:PlF P [] []:=rfl
theorem PlF.c{P:Program}{fi:Field}{fs:List Field}{n:Nat}{qs:List (Nat×Nat)}(h:nK P fi.type n)(k:PlF P fs qs):PlF P (fi::fs) ((fi.offset,n)::qs):=⟨n,qs,rfl,h,k⟩
theorem PlF.run{P:Program}(W:World):∀{fs:List Field} {ps:List (Nat×Nat)},PlF P fs ps->(fs.mapM λf=>Functor.map (Prod.mk f.offset) (sizeOf f.type):Sem _).run P W= .ok ps W
 | [],ps,h=>by cases h;simp
 |f::fs,ps,h=>by
  obtain⟨n,qs,rfl,hn,h⟩:=h;simp[List.mapM_cons,hn W,PlF.run W h]
variable {ps:List (Nat×Operand)}
theorem bldS_r{fs:List Field}{z:Value}{vs:List (Nat×Value)}{pl:List (Nat×Nat)}{cs:List Value}(hU:C.P.underlying T=some (.struct fs.toArray))(hz:nvb C.P T z)(hp:PlF C.P fs pl)(ha:evp E ps=some vs)(hf':nGe (pl[·]?) z.cells.toList vs=some cs):RV C G L H E (.build T ps.toArray) (.agg cs.toArray):=λd ty pos aft g a W hF _=>by
 have hf:=ngd hf';have h2:(ps.toArray).map (λ(i,x)=>(i,a.eval x))=vs.toArray:=by rw[aro,nud hF ps vs ha]
 have h3:=hp.run W;simp[execOp,h2,Instr.build,hz W,run_underlying hU,List.mapM_toArray,h3,hf]
variable {m:Nat}
theorem bldA_r{n e:Nat}{z:Value}{vs:List (Nat×Value)}{cs:List Value}(hU:C.P.underlying T=some (.array n e))(hz:nvb C.P T z)(hp:nK C.P e m)(ha:evp E ps=some vs)(hf':nGe (λi=>some (i*m,m)) z.cells.toList vs=some cs):RV C G L H E (.build T ps.toArray) (.agg cs.toArray):=λd ty pos aft g a W hF _=>by
 have hf:=ngd hf';have h2:(ps.toArray).map (λ(i,x)=>(i,a.eval x))=vs.toArray:=by rw[aro,nud hF ps vs ha]
 simp[execOp,h2,Instr.build,hz W,run_underlying hU,hp W,hf]
variable {W:World}
theorem nsd{P:Program}{a:Act}{n e:Nat}{z:Value}{vs:List (Nat×Value)}(hU:P.underlying T=some (.slice e))(hp:nK P e m)(hz:nvb P e z)(ha:ps.map (λ(i,x)=>(i,a.eval x))=vs)(h24:Nat.ble (n*m) 16777216=true)(hf:Instr.fill (λi=>some (i*m,m)) ((Array.range (n*m)).map (λj=>((if n*m=0 then #[]else z.cells)[j%(if n*m=0 then #[]else z.cells).size]!))) vs=some cs):(execOp a.eval ⟨some d,.buildSlice T n ps.toArray,ty,pos,aft,g⟩).run P W= .ok (.value (.slice (some ⟨W.heap.size,0,none⟩) n n)) (W.alloc (.cells cs e (0,0))):=by
 have h2:(ps.toArray).map (λ(i,x)=>(i,a.eval x))=vs.toArray:=by rw[aro,ha]
 have h24':¬(n*m>2^24):=by have:=apo h24;omega
 by_cases h0:n*m=0
 ·rw[if_pos h0]at hf;simp[execOp,h2,Instr.buildSlice,run_underlying hU,hp W,newRow,newObj];rw[if_neg (by simpa using h24')];simp[h0]at hf ⊢;simp[hf,Sem.run]
 rw[if_neg h0]at hf;simp only[execOp,h2,Instr.buildSlice,Sem.run_bind,run_underlying hU,hp W,Result.andThen,if_neg h24',if_neg h0,hz W,Sem.run_pure,hf,newRow,newObj];simp[Sem.run]
theorem nmg{α:Type}(n:Nat)(f:Nat->α):((Array.range n).map f).toList.length=n:=by simp
theorem bslR{n e:Nat}{z:Value}{vs:List (Nat×Value)}(hU:C.P.underlying T=some (.slice e))(hp:nK C.P e m)(hz:nvb C.P e z)(hw:nm ops E g=some true)(hN:Nat.blt d C.N=true)(ha:evp E ps=some vs)(h24:Nat.ble (n*m) 16777216=true)(hs:vs=seqP 0 (vs.map (·.2)))(hl:vs.length=n)(hm:nKf m (vs.map (·.2))=true)(k:∀(b:Nat) (w1:World),w1.heap[b]? =some (.cells (nAb (vs.map (·.2))).toArray e (0,0))->Above L b->Off H b->¬G.X b->w1.heap.size=b+1->OJ C ops Q l ((d,.slice (some ⟨b,0,none⟩) n n)::E) D G (w1::L) H):OJ C ops Q (⟨some d,.buildSlice T n ps.toArray,ty,pos,aft,g⟩::l) E D G L H:=
 nqb zS hw hN λa W hF hS=>⟨_,_,_,_,nsd hU hp hz (nud hF ps vs ha) h24 (ngd (by
  have:=nke m (vs.map (·.2)) 0 [] ((Array.range (n*m)).map (λj=>((if n*m=0 then #[]else z.cells)[j%(if n*m=0 then #[]else z.cells).size]!))).toList hm zS (by rw[nmg,aAo,hl]);rw[<-hs,abp,abp]at this;exact this)),(hS.step (nNc W _)).snap,
  k W.heap.size _ (heap_alloc_new W _) hS.sizes hS.offNew hS.mNew zS⟩
variable {K:IntKind}
theorem idxV_r{n e:Nat}{i:Int}{v:Value}(hU:C.P.underlying T=some (.array n e))(hA:AggF C.P e false)(hZ:nK C.P e m)(hx:ev E x=some (.agg cs))(hy:ev E y=some (.int K i))(h0:0<=i)(h1:i<n)(hv:cs[i.toNat*m]? =some v):RV C G L H E (.index T x y) v:=λd ty pos aft g a W hF _=>by
 simp[execOp,hF.ev hx,hF.ev hy,Instr.index,asIntOf,run_underlying hU,h0,h1,hZ W,part,hA W,hv]
end
/-! #### numbers of 32 bits -/
abbrev u32 (x:BitVec 32):Value:=.int .u32 (x.toNat:Int)
theorem w32(x:BitVec 32):IntKind.u32.wrap (x.toNat:Int)=(x.toNat:Int):=by
 rw[nFe];have:=x.isLt;omega
theorem bv32(x:BitVec 32):BitVec.ofInt IntKind.u32.bits (x.toNat:Int)=x:=by
 show BitVec.ofInt 32 (x.toNat:Int)=x;rw[BitVec.ofInt_natCast,BitVec.ofNat_toNat,BitVec.setWidth_eq]
section
variable {C:Cx} {E:Env} {G:Gh} {L:List World} {H:Heap} {T U:Nat} {x y:Operand} {a b:BitVec 32}
theorem addV_r(hx:ev E x=some (u32 a))(hy:ev E y=some (u32 b)):RV C G L H E (.binOp .add T x y U) (u32 (a+b)):=
 RV.re (addW_r hx hy) (congrArg (Value.int .u32) (by rw[nFe,BitVec.toNat_add];omega))
theorem xorV_r(hx:ev E x=some (u32 a))(hy:ev E y=some (u32 b)):RV C G L H E (.binOp .xor T x y U) (u32 (a^^^b)):=
 RV.re (xorW_r hx hy) (congrArg (Value.int .u32) (by rw[bv32,bv32];exact w32 (a^^^b)))
theorem andV_r(hx:ev E x=some (u32 a))(hy:ev E y=some (u32 b)):RV C G L H E (.binOp .and T x y U) (u32 (a&&&b)):=
 RV.re (andW_r hx hy) (congrArg (Value.int .u32) (by rw[bv32,bv32];exact w32 (a&&&b)))
theorem orV_r(hx:ev E x=some (u32 a))(hy:ev E y=some (u32 b)):RV C G L H E (.binOp .or T x y U) (u32 (a|||b)):=
 RV.re (orW_r hx hy) (congrArg (Value.int .u32) (by rw[bv32,bv32];exact w32 (a|||b)))
variable {K':IntKind}
theorem shlV_r(j:Nat)(hj:j<=32){n:Int}(hn:n=(j:Int))(hx:ev E x=some (u32 a))(hy:ev E y=some (.int K' n)):RV C G L H E (.binOp .shl T x y U) (u32 (a<<<j)):=by
 subst hn;refine RV.re (shlW_r hx hy (Int.natCast_nonneg _)) (congrArg (Value.int .u32) ?_);have e:min (Int.toNat (j:Int)) IntKind.u32.bits=j:=by simp[IntKind.bits];omega
 rw[e,nFe,BitVec.toNat_shiftLeft,Nat.shiftLeft_eq];simp
theorem shrV_r(j:Nat)(hj:j<=32){n:Int}(hn:n=(j:Int))(hx:ev E x=some (u32 a))(hy:ev E y=some (.int K' n)):RV C G L H E (.binOp .shr T x y U) (u32 (a>>>j)):=by
 subst hn;refine RV.re (shrW_r hx hy (Int.natCast_nonneg _)) (congrArg (Value.int .u32) ?_);have e:min (Int.toNat (j:Int)) IntKind.u32.bits=j:=by simp[IntKind.bits];omega
 rw[e,nre,BitVec.toNat_ushiftRight,Nat.shiftRight_eq_div_pow];simp
variable {K:IntKind}
theorem cvtV_r{S T':Nat}{ds:TypeDesc}{m:Int}(hU1:C.P.underlying S=some ds)(hT:C.P.underlying T'=some (.int .u32))(hx:ev E x=some (.int K m)):RV C G L H E (.convert S T' x) (u32 (BitVec.ofInt 32 m)):=
 RV.re (cvtW_r hU1 hT hx) (congrArg (Value.int .u32) (by rw[nFe,BitVec.toNat_ofInt];omega))
end
def nnc (v:BitVec 32) (n:Nat):BitVec 32:=v>>>n|||v<<<(32-n)
/-! #### cells by a function -/
def cf (n:Nat) (f:Nat->Value):Array Value:=((List.range n).map f).toArray
theorem cf_at(n:Nat)(f:Nat->Value)(i:Nat)(h:i<n):(cf n f)[i]? =some (f i):=by simp[cf,h]
theorem nZ(n:Nat)(f:Nat->Value):(cf n f).size=n:=by simp[cf]
def upd {α:Type} (f:Nat->α) (i:Nat) (v:α):Nat->α:=λj=>if j=i then v else f j
theorem nYf(n:Nat)(f:Nat->Value)(i:Nat)(v:Value):setCells (cf n f) i [v]=cf n (upd f i v):=by
 apply Array.ext';rw[nEb];simp only[cf];apply aDo;intro j;have key:∀(l:List Value) (k:Nat),setL l k [v]=l.set k v:=by
  intro l;induction l with
  |nil=>intro k;cases k<;>rfl
  |cons c l ih=>intro k;cases k with
   |zero=>simp[setL,nih]
   |succ k=>simp[setL,ih]
 rw[key];by_cases hj:j=i
 ·subst hj;by_cases hn:j<n
  ·rw[alo (by simpa using hn)];simp[hn,upd]
  rw[aYo zGb,aYo zGb]
 rw[amo (λe=>hj e.symm)];by_cases hn:j<n
 ·simp[hn,upd,hj]
 rw[aYo zGb,aYo zGb]
theorem npd{n:Nat}{f g:Nat->Value}(h:∀i,i<n->f i=g i):cf n f=cf n g:=by
 unfold cf;congr 1;apply List.map_congr_left;intro i hi;exact h i zMc
/-! #### SHA-256, as_ numbers -/
def K256:List (BitVec 32):=[1116352408,1899447441,3049323471,3921009573,961987163,1508970993,2453635748,2870763221,3624381080,310598401,607225278,1426881987,1925078388,2162078206,2614888103,3248222580,3835390401,4022224774,264347078,604807628,770255983,1249150122,1555081692,1996064986,2554220882,2821834349,2952996808,3210313671,3336571891,3584528711,113926993,338241895,666307205,773529912,1294757372,1396182291,1695183700,1986661051,2177026350,2456956037,2730485921,2820302411,3259730800,3345764771,3516065817,3600352804,4094571909,275423344,430227734,506948616,659060556,883997877,958139571,1322822218,1537002063,1747873779,1955562222,2024104815,2227730452,2361852424,2428436474,2756734187,3204031479,3329325298]
def kk (i:Nat):BitVec 32:=K256.getD i 0
def H256:List (BitVec 32):=[1779033703,3144134277,1013904242,2773480762,1359893119,2600822924,528734635,1541459225]
def hh (i:Nat):BitVec 32:=H256.getD i 0
def n2e (m:Nat->Int) (o:Nat):BitVec 32:=BitVec.ofInt 32 (m o)<<<24|||BitVec.ofInt 32 (m (o+1))<<<16|||BitVec.ofInt 32 (m (o+2))<<<8|||BitVec.ofInt 32 (m (o+3))
def s0 (x:BitVec 32):BitVec 32:=nnc x 7^^^nnc x 18^^^x>>>3
def s1 (x:BitVec 32):BitVec 32:=nnc x 17^^^nnc x 19^^^x>>>10
def schN (m:Nat->Int):Nat->Nat->BitVec 32
 |0=>λ_=>0
 |n+1=>upd (schN m n) n (if n<16 then n2e m (4*n)else schN m n (n-16)+s0 (schN m n (n-15))+schN m n (n-7)+s1 (schN m n (n-2)))
structure S8 where
 a:BitVec 32
 b:BitVec 32
 c:BitVec 32
 d:BitVec 32
 e:BitVec 32
 f:BitVec 32
 g:BitVec 32
 h:BitVec 32
def chf (e f g:BitVec 32):BitVec 32:=(e&&&f)^^^((~~~ e)&&&g)
def maj (a b c:BitVec 32):BitVec 32:=(a&&&b)^^^(a&&&c)^^^(b&&&c)
theorem chf_alt(e f g:BitVec 32):g^^^(e&&&(f^^^g))=chf e f g:=by
 unfold chf;apply BitVec.eq_of_getLsbD_eq;intro i hi;simp only[BitVec.getLsbD_xor,BitVec.getLsbD_and,BitVec.getLsbD_not,hi,decide_true,Bool.true_and];cases e.getLsbD i<;>cases f.getLsbD i<;>cases g.getLsbD i<;>rfl
theorem maj_alt(a b c:BitVec 32):(a&&&b)|||(c&&&(a|||b))=maj a b c:=by
 unfold maj;apply BitVec.eq_of_getLsbD_eq;intro i hi;simp only[BitVec.getLsbD_xor,BitVec.getLsbD_and,BitVec.getLsbD_or];cases a.getLsbD i<;>cases b.getLsbD i<;>cases c.getLsbD i<;>rfl
def S8.P (s:S8) (k w:BitVec 32):BitVec 32:=s.h+(nnc s.e 6^^^nnc s.e 11^^^nnc s.e 25)+chf s.e s.f s.g+k+w
def S8.Q (s:S8):BitVec 32:=(nnc s.a 2^^^nnc s.a 13^^^nnc s.a 22)+maj s.a s.b s.c
def S8.step (s:S8) (k w:BitVec 32):S8:=⟨s.P k w+s.Q,s.a,s.b,s.c,s.d+s.P k w,s.e,s.f,s.g⟩
def S8.run (w:Nat->BitVec 32) (s:S8):Nat->S8
 |0=>s
 |n+1=>(S8.run w s n).step (kk n) (w n)
def S8.add (s t:S8):S8:=⟨s.a+t.a,s.b+t.b,s.c+t.c,s.d+t.d,s.e+t.e,s.f+t.f,s.g+t.g,s.h+t.h⟩
def S8.comp (s:S8) (m:Nat->Int):S8:=s.add (s.run (schN m 64) 64)
def S8.at (s:S8):Nat->BitVec 32
 |0=>s.a|1=>s.b|2=>s.c|3=>s.d|4=>s.e|5=>s.f|6=>s.g|_=>s.h
def S8.cells (s:S8):Array Value:=#[u32 s.a,u32 s.b,u32 s.c,u32 s.d,u32 s.e,u32 s.f,u32 s.g,u32 s.h]
def S8.init:S8:=⟨1779033703,3144134277,1013904242,2773480762,1359893119,2600822924,528734635,1541459225⟩
def nBlk (n:Nat):Nat:=(n+72)/64
def padF (n:Nat) (m:Nat->Int) (i:Nat):Int:=
 if i<n then m i else if i=n then 128 else if i<64*nBlk n-8 then 0 else((8*n/2^(8*(64*nBlk n-1-i)):Nat):Int)%256
def stN (n:Nat) (m:Nat->Int):Nat->S8
 |0=>S8.init
 |j+1=>(stN n m j).comp (λi=>padF n m (64*j+i))
def outB (s:S8) (i:Nat):Int:=((s.at (i/4)).toNat/2^(24-8*(i%4))%256:Nat)
def sha (n:Nat) (m:Nat->Int):Nat->Int:=outB (stN n m (nBlk n))
theorem sha_byt(n:Nat)(m:Nat->Int):∀i,0<=sha n m i/\sha n m i<256:=λi=>by unfold sha outB;omega
theorem S8.cells_cf(s:S8):s.cells=cf 8 (λi=>u32 (s.at i)):=rfl
theorem S8.cells_at(s:S8)(i:Nat)(h:i<8):s.cells[i]? =some (u32 (s.at i)):=by rw[S8.cells_cf];exact cf_at 8 _ i h
theorem n6b{α:Type}:∀(H:List α) (i:Nat) (p:α),H[i]? =some p->H.Perm (p::H.eraseIdx i)
 | [],i,p,h=>by simp at h
 |q::H,0,p,h=>by simp at h;subst h;simp
 |q::H,i+1,p,h=>by
  simp only[aio]at h;simp only[aip];exact((n6b H i p h).cons q).trans (List.Perm.swap _ _ _)
theorem nff{α:Type}:∀(H:List α) (i:Nat) (q:α),i<H.length->(H.set i q).Perm (q::H.eraseIdx i)
 | [],i,q,h=>by simp at h
 |r::H,0,q,_=>by simp
 |r::H,i+1,q,h=>by
  simp only[a9o,aip];exact((nff H i q z2b).cons r).trans (List.Perm.swap _ _ _)
section
variable {G:Gh} {L:List World} {H:Heap} {W:World}
variable {b i:Nat} {o:Obj}
theorem St.renew(h:St G L H W)(o':Obj)(hi:H[i]? =some (b,o))(ha:Above L b):St G L (H.set i (W.heap.size,o')) (W.alloc o'):=by
 have hil:=(ako.1 hi).1;have hp:H.Perm ((b,o)::H.eraseIdx i):=n6b H i _ hi;have h1:=(h.perm hp).drop ha;exact(h1.alloc o').perm (nff H i _ hil).symm
theorem St.dropAt(h:St G L H W)(hi:H[i]? =some (b,o))(ha:Above L b):St G L (H.eraseIdx i) W:=by
 have hil:=(ako.1 hi).1;have hp:H.Perm ((b,o)::H.eraseIdx i):=n6b H i _ hi;exact(h.perm hp).drop ha
end
def Rd (C:Cx) (G:Gh) (L:List World) (H:Heap) (size n:Nat) (v:Value) (news:List Value):Prop:=
 ∀W,St G L H W->(Builtin.firstCells size n v).run C.P W= .ok news.toArray W
section
variable {C:Cx} {Q:Post} {E:Env} {D:List Deferred} {G:Gh} {L:List World} {H:Heap} {ops:Array Oper} {l:List Oper}
variable {d T ty f:Nat} {pos:String} {aft:Array Edge} {g:Option (Nat×Bool)} {x y:Operand} {xs:List Operand} {vs:List Value} {tys:Array Nat}
variable {cs:Array Value} {b k size:Nat} {fr:Nat×Nat} {W:World}
theorem nji{P:Program}{off n c t:Nat}(h:W.heap[b]? =some (.cells cs t fr))(hn:off+n*size<=cs.size):(Builtin.firstCells size n (.slice (some ⟨b,off,none⟩) k c)).run P W= .ok (cut cs off (n*size)) W:=by
 simp only[Builtin.firstCells];rw[nNf h hn,neh]
variable {news:List Value} {i:Nat}
theorem Rd.own{n off c t:Nat}(hi:H[i]? =some (b,.cells cs t fr))(hn:off+n*size<=cs.size)(he:(cs.toList.drop off).take (n*size)=news):Rd C G L H size n (.slice (some ⟨b,off,none⟩) k c) news:=λW hS=>by rw[nji (hS.own _ (ajo hi)) hn];unfold cut;rw[he]
variable {w1:World}
theorem Rd.old{n off c t:Nat}(hm:w1∈L)(hb:w1.heap[b]? =some (.cells cs t fr))(hG:¬G.X b)(hO:Off H b)(hn:off+n*size<=cs.size)(he:(cs.toList.drop off).take (n*size)=news):Rd C G L H size n (.slice (some ⟨b,off,none⟩) k c) news:=λW hS=>by rw[nji (hS.old hm hb hG hO) hn];unfold cut;rw[he]
theorem Rd.nil{c:Nat}:Rd C G L H size 0 (.slice none 0 c) []:=λW _=>by simp[Builtin.firstCells]
theorem Rd.str{s:ByteArray}:Rd C G L H 1 s.size (.string s) (byteCells s):=λW _=>firstCells_string s W
structure SrcJ (C:Cx) (G:Gh) (L:List World) (H:Heap) (size tx:Nat) (x:Value) (n:Nat) (news:List Value):Prop where
 kind:(∃e',C.P.underlying tx=some (.slice e'))\/C.P.underlying tx=some .string
 len:∀w':World,(Builtin.lenOf x).run C.P w'= .ok n w'
 rd:Rd C G L H size n x news
 newsLen:news.length=n*size
 one:∀u∈news,u.oneCell'=true
variable {tx:Nat}
theorem SrcJ.src{v:Value}{n:Nat}(h:SrcJ C G L H size tx v n news)(hS:St G L H W):Src C.P size tx v n news W:=
 ⟨h.kind,h.len,h.rd W hS,h.rd W.drew (hS.step (nub W _)),h.newsLen,h.one⟩
variable {a:Option Addr}
theorem SrcJ.sl{e' n c:Nat}(hU:C.P.underlying tx=some (.slice e'))(hr:Rd C G L H size n (.slice a n c) news)(hl:news.length=n*size)(h1:∀u∈news,u.oneCell'=true):SrcJ C G L H size tx (.slice a n c) n news:=⟨.inl ⟨e',hU⟩,λ_=>rfl,hr,hl,h1⟩
theorem nNd(b:Nat):∀(news:List Value) (o:Nat) (W:World) (cs:Array Value) (t:Nat),W.heap[b]? =some (.cells cs t (0,0))->Keep (· =b) W (W.setCells b o news)/\(W.setCells b o news).heap[b]? =some (.cells (setCells cs o news) t (0,0))
 | [],o,W,cs,t,h=>⟨Keep.refl _ _,h⟩
 |v::vs,o,W,cs,t,h=>by
  obtain⟨h1,h2⟩:=nNd b vs (o+1) (W.setCell ⟨b,o,none⟩ v) _ t (njg v h);exact⟨(n5f W b o v).trans h1,h2⟩
variable {sp:List Value} {m:Nat} {sv:Value}
theorem appW{e n len cap t:Nat}{ti:TypeInfo}{z:Value}{ys:List Value}(hi:H[i]? =some (b,.cells (ys++sp).toArray e (0,0)))(hU:C.P.underlying t=some (.slice e))(hti:C.P.info? e=some ti)(hz:ti.zero=some z)(hm:ti.size=m)(hzs:z.cells.size=m)(hw:nm ops E g=some true)(hN:Nat.blt d C.N=true)(hx:ev E x=some (.slice (some ⟨b,0,none⟩) len cap))(hy:ev E y=some sv)(hs:SrcJ C G L H m tx sv n news)(hlen:ys.length=len*m)(hsp:sp.length=(cap-len)*m)(hlc:len<=cap)(ha:Above L b)(h63:len+n<=9223372036854775807)(hbytes:(len+n)*ti.bytes<=140737488355328)(k:∀(b' cap':Nat) (sp':List Value),Above L b'->len+n<=cap'->sp'.length=(cap'-(len+n))*m->OJ C ops Q l ((d,.slice (some ⟨b',0,none⟩) (len+n) cap')::E) D G L (H.set i (b',.cells (ys++news++sp').toArray e (0,0)))):OJ C ops Q (⟨some d,.call ⟨.builtin .append,#[x,y],#[t,tx]⟩,ty,pos,aft,g⟩::l) E D G L H:=
 nqb zS hw hN λa W hF hS=>by
  subst hm;have hsrc:=hs.src hS;have hb:=hS.own _ (ajo hi);have hex:∀{v W'},(Builtin.append_ #[t,tx] ty #[.slice (some ⟨b,0,none⟩) len cap,sv]).run C.P W= .ok v W'->(execOp a.eval ⟨some d,.call ⟨.builtin .append,#[x,y],#[t,tx]⟩,ty,pos,aft,g⟩).run C.P W= .ok (.value v) W':=by
   intro v W' hr;simp[execOp,hF.ev hx,hF.ev hy,resolve,invoke,Deferred.ofValue,builtin,hr]
  have hnl:=hs.newsLen;by_cases hroom:len+n<=cap
  ·have hle:(len+n)*ti.size<=cap*ti.size:=a7o _ hroom;have hsz:(ys++sp).toArray.size=cap*ti.size:=by
    simp only[amp,aHo,hlen,hsp];rw[<-a5o];congr 1;omega
   rw[a5o]at hle;have hr:=run_append_room_src (P:=C.P) W t tx ty e ti hU hti b 0 len cap sv n news hsrc hroom
    (λj hj=>by rw[nAc hb];simp only[aVo];rw[aXo zG];rfl)
    (λj hj=>by simp[World.frozen?,hb])
   obtain⟨h1,h2⟩:=nNd b news (0+len*ti.size) W _ _ hb;have hsp':(sp.drop (n*ti.size)).length=(cap-(len+n))*ti.size:=by
    rw[aFo,hsp,<-Nat.sub_mul];congr 1;omega
   have hc:setCells (ys++sp).toArray (0+len*ti.size) news=(ys++news++sp.drop (n*ti.size)).toArray:=by
    exact zTi
   rw[hc]at h2;exact⟨_,_,_,_,hex hr,hS.put hi h1 h2,k b cap _ ha hroom hsp'⟩
  have hold:(Builtin.firstCells ti.size len (.slice (some ⟨b,0,none⟩) len cap)).run C.P W.drew= .ok ys.toArray W.drew:=by
   exact z8i
  have hr:=run_append_grow_src (P:=C.P) W t tx ty e ti z hU hti hz (some ⟨b,0,none⟩) len cap ys hold sv n news hsrc zG zG (growslice_fits zG hbytes);have hg:=grownCap_ge W (len+n) cap e;have hS':=(hS.step (nub W (W.drawn+1))).renew (.cells ((ys++news).toArray++Builtin.zeroCells z.cells (grownCap W (len+n) cap e-(len+n))) e (0,0)) hi ha;have hzl:(Builtin.zeroCells z.cells (grownCap W (len+n) cap e-(len+n))).toList.length=(grownCap W (len+n) cap e-(len+n))*ti.size:=by
   simp[Builtin.zeroCells,hzs]
  have hc:(ys++news).toArray++Builtin.zeroCells z.cells (grownCap W (len+n) cap e-(len+n))=(ys++news++(Builtin.zeroCells z.cells (grownCap W (len+n) cap e-(len+n))).toList).toArray:=by
   apply Array.ext';simp
  rw[hc]at hS' hr;exact⟨_,_,_,_,hex hr,hS',k W.heap.size _ _ hS.sizes hg hzl⟩
def BE (E:Env):Option Operand->Nat->Nat->Prop
 |none,d,l=>l=d
 |some o,_,l=>∃K i,ev E o=some (.int K i)/\i=(l:Int)
theorem BE.val{a:Act}(hF:Fits E a):∀{lo:Option Operand} {d' l:Nat},BE E lo d' l->(lo.map a.eval=none/\l=d')\/∃K,lo.map a.eval=some (.int K (l:Int))
 |none,_,_,h=>.inl ⟨rfl,h⟩
 |some o,_,_,h=>by obtain⟨K,i,h,rfl⟩:=h;exact .inr ⟨K,by simp[hF.ev h]⟩
variable {hi:Option Operand}
theorem nul{P:Program}{a:Act}(hF:Fits E a)(s:Bool){n c l h:Nat}{lo:Option Operand}(hl:BE E lo 0 l)(hh:BE E hi n h)(h1:l<=h)(h2:h<=c):(Instr.sliceBounds s n c (lo.map a.eval) (hi.map a.eval) none).run P W= .ok (l,h,c) W:=by
 rcases hl.val hF with⟨e1,e2⟩|⟨K,e1⟩<;>rcases hh.val hF with⟨f1,f2⟩|⟨K',f1⟩<;>rw[e1,f1]
 ·subst e2;subst f2;simp[Instr.sliceBounds]
 ·subst e2;simp[Instr.sliceBounds,Instr.sliceBound,asIntOf,h2]
 ·subst f2;simp[Instr.sliceBounds,Instr.sliceBound,asIntOf,h1]
 simp[Instr.sliceBounds,Instr.sliceBound,asIntOf,h1,h2]
theorem slS_r{off n c e l h off':Nat}{lo:Option Operand}(hU:C.P.underlying T=some (.slice e))(hZ:nK C.P e m)(hx:ev E x=some (.slice (some ⟨b,off,none⟩) n c))(hl:BE E lo 0 l)(hh:BE E hi n h)(h1:l<=h)(h2:h<=c)(ho:off'=if c=l then off else off+l*m):RV C G L H E (.slice T x lo hi none) (.slice (some ⟨b,off',none⟩) (h-l) (c-l)):=λd ty pos aft g a W hF _=>by
 subst ho;have:=nul (P:=C.P) (W:=W) hF true hl hh h1 h2;simp[execOp,hF.ev hx,Instr.sliceAt,Instr.slice,run_underlying hU,this,hZ W,nrd];split<;>rfl
theorem slA_r{off n e l h off':Nat}{lo:Option Operand}(hU:C.P.underlying T=some (.array n e))(hZ:nK C.P e m)(hx:ev E x=some (ptr b off))(hl:BE E lo 0 l)(hh:BE E hi n h)(h1:l<=h)(h2:h<=n)(ho:off'=if n=l then off else off+l*m):RV C G L H E (.slice T x lo hi none) (.slice (some ⟨b,off',none⟩) (h-l) (n-l)):=λd ty pos aft g a W hF _=>by
 subst ho;have:=nul (P:=C.P) (W:=W) hF false hl hh h1 h2;simp[execOp,hF.ev hx,Instr.sliceAt,run_underlying hU,Instr.sureAddr,this,hZ W,nrd];split<;>rfl
theorem slS0_r{off n c e h:Nat}(hU:C.P.underlying T=some (.slice e))(hZ:nK C.P e m)(hx:ev E x=some (.slice (some ⟨b,off,none⟩) n c))(hh:BE E hi n h)(h2:h<=c):RV C G L H E (.slice T x none hi none) (.slice (some ⟨b,off,none⟩) h c):=slS_r (l:=0) hU hZ hx rfl hh (a3o _) h2 (by split<;>omega)
theorem slA0_r{off n e h:Nat}(hU:C.P.underlying T=some (.array n e))(hZ:nK C.P e m)(hx:ev E x=some (ptr b off))(hh:BE E hi n h)(h2:h<=n):RV C G L H E (.slice T x none hi none) (.slice (some ⟨b,off,none⟩) h n):=slA_r (l:=0) hU hZ hx rfl hh (a3o _) h2 (by split<;>omega)
variable {us:List Value}
theorem mkFF_r{fn:Fn}{fs xs:List Operand}(hf:evs E fs=some us)(ha:evs E xs=some vs):RV C G L H E (.makeFunc fn fs.toArray xs.toArray) (.func fn us.toArray vs.toArray):=λd ty pos aft g a W hF _=>by
 have h1:(fs.toArray).map a.eval=us.toArray:=by rw[aro,nic hF fs us hf]
 have h2:(xs.toArray).map a.eval=vs.toArray:=by rw[aro,nic hF xs vs ha]
 simp[execOp,Instr.makeFunc,h1,h2]
theorem nilC_r{a:Addr}(hx:ev E x=some (.pointer (some a))):RV C G L H E (.nilCheck x) (.pointer (some a)):=λd ty pos aft g a' W hF _=>by
 simp[execOp,hF.ev hx]
theorem negI_r{m:Int}(hx:ev E x=some (.int .i64 m))(h0: -9223372036854775807<=m)(h1:m<=9223372036854775807):RV C G L H E (.unOp .neg T x) (.int .i64 (-m)):=λd ty pos aft g a W hF _=>by
 simp[execOp,hF.ev hx,Op.unary,Op.intArith,nXc (n:= -m) zG zG]
theorem capS_r{base:Option Addr}{n c e t:Nat}(hU:C.P.underlying t=some (.slice e))(hx:ev E x=some (.slice base n c)):RV C G L H E (.call ⟨.builtin .cap,#[x],#[t]⟩) (.int .i64 (c:Int)):=λd ty pos aft g a W hF _=>by
 simp[execOp,hF.ev hx,resolve,invoke,Deferred.ofValue,builtin,Builtin.cap_,run_underlying hU,goInt]
theorem cpW{t off n len cap e t':Nat}(hi:H[i]? =some (b,.cells cs t' (0,0)))(hU:C.P.underlying t=some (.slice e))(hZ:nK C.P e m)(hw:nm ops E g=some true)(hN:Nat.blt d C.N=true)(hx:ev E x=some (.slice (some ⟨b,off,none⟩) len cap))(hy:ev E y=some sv)(hlen:∀w':World,(Builtin.lenOf sv).run C.P w'= .ok k w')(hn:n=min k len)(hs:Rd C G L H m n sv news)(hl:off+news.length<=cs.size)(h1:nO news=true)(kk:OJ C ops Q l ((d,.int .i64 (n:Int))::E) D G L (H.set i (b,.cells (setCells cs off news) t' (0,0)))):OJ C ops Q (⟨some d,.call ⟨.builtin .copy,#[x,y],#[t,tx]⟩,ty,pos,aft,g⟩::l) E D G L H:=
 nqb zS hw hN λa W hF hS=>by
  have hb:=hS.own _ (ajo hi);obtain⟨W',hr,hk,hb'⟩:=nEc (P:=C.P) (off:=off) news 0 cs W hb zG h1;refine⟨_,W',_,_,?_,hS.put hi hk hb',kk⟩;have hrd:=hs W hS;subst hn;simp[execOp,hF.ev hx,hF.ev hy,resolve,invoke,Deferred.ofValue,builtin,Builtin.copy_,run_underlying hU,hlen W,hZ W,Nat.min_def]at hrd ⊢;split<;>simp_all[goInt]
theorem mkSW{e t ln cp:Nat}{kl kc:IntKind}{ti:TypeInfo}{z:Value}(hU:C.P.underlying t=some (.slice e))(hti:C.P.info? e=some ti)(hz:ti.zero=some z)(h1:z.cells=#[z])(hm:ti.size=1)(hw:nm ops E g=some true)(hN:Nat.blt d C.N=true)(hx:ev E x=some (.int kl (ln:Int)))(hy:ev E y=some (.int kc (cp:Int)))(hlc:ln<=cp)(hb:ti.bytes*cp<=281474976710656)(h63:cp<=9223372036854775807)(k:∀(b:Nat),Above L b->Off H b->OJ C ops Q l ((d,.slice (some ⟨b,0,none⟩) ln cp)::E) D G L ((b,.cells (cf cp (λ_=>z)) e (0,0))::H)):OJ C ops Q (⟨some d,.makeSlice t x y,ty,pos,aft,g⟩::l) E D G L H:=
 nqb zS hw hN λa W hF hS=>by
  have hr:=run_make (P:=C.P) W t e ti z hU hti hz kl kc ln cp (Int.natCast_nonneg _) zG (by
   have:((ti.bytes*cp:Nat):Int)<=281474976710656:=by omega
   rwa[Int.natCast_mul]at this) zG
  simp only[a8o,hm,arp]at hr;have hc:madeCells z.cells cp=cf cp (λ_=>z):=by
   apply Array.ext';rw[h1];simp[madeCells,cf,Nat.mod_one]
  rw[hc]at hr;exact⟨_,_,_,_,by simp[execOp,hF.ev hx,hF.ev hy,hr],hS.alloc _,k W.heap.size hS.sizes hS.offNew⟩
variable {ps:List (Nat×Operand)}
theorem bslW{n e:Nat}{z:Value}{vs:List (Nat×Value)}(hU:C.P.underlying T=some (.slice e))(hp:nK C.P e m)(hz:nvb C.P e z)(hw:nm ops E g=some true)(hN:Nat.blt d C.N=true)(ha:evp E ps=some vs)(h24:Nat.ble (n*m) 16777216=true)(hs:vs=seqP 0 (vs.map (·.2)))(hl:vs.length=n)(hm:nKf m (vs.map (·.2))=true)(k:∀(b:Nat),Above L b->Off H b->OJ C ops Q l ((d,.slice (some ⟨b,0,none⟩) n n)::E) D G L ((b,.cells (nAb (vs.map λp:Nat×Value=>p.2)++[]).toArray e (0,0))::H)):OJ C ops Q (⟨some d,.buildSlice T n ps.toArray,ty,pos,aft,g⟩::l) E D G L H:=
 nqb zS hw hN λa W hF hS=>⟨_,_,_,_,nsd hU hp hz (nud hF ps vs ha) h24 (ngd (by
  have:=nke m (vs.map (·.2)) 0 [] ((Array.range (n*m)).map (λj=>((if n*m=0 then #[]else z.cells)[j%(if n*m=0 then #[]else z.cells).size]!))).toList hm zS (by rw[nmg,aAo,hl]);rw[<-hs,abp,abp]at this;exact this)),hS.alloc _,by have:=k W.heap.size hS.sizes hS.offNew;rw[asp]at this;exact this⟩
variable {o:Obj}
theorem OJ.dropAt(hi:H[i]? =some (b,o))(ha:Above L b)(k:OJ C ops Q l E D G L (H.eraseIdx i)):OJ C ops Q l E D G L H:=λa W hN hD hF hS=>k a W hN hD hF (hS.dropAt hi ha)
theorem CJ.dropAt{c:Code}(hi:H[i]? =some (b,o))(ha:Above L b)(k:CJ C c Q E D G L (H.eraseIdx i)):CJ C c Q E D G L H:=λa W hN hD hF hS=>k a W hN hD hF (hS.dropAt hi ha)
variable {e':Exit}
theorem PJ.dropAt(hi:H[i]? =some (b,o))(ha:Above L b)(k:PJ C Q e' E D G L (H.eraseIdx i)):PJ C Q e' E D G L H:=λa W hN hD hF hS=>k a W hN hD hF (hS.dropAt hi ha)
end
end Px
