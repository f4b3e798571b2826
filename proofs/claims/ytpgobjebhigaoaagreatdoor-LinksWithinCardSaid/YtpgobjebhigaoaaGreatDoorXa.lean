/- Memory, operations, iterators, slices, maps. No condition beyond those stated. -/
import Derived.Test.YtpgobjebhigaoaaGreatDoorZa
import Derived.TacticsIn
import Derived.DefersIn
import Derived.RangeFuncIn
import Derived.Below
import Derived.WalkKit
import Derived.RangeFuncRecord
set_option linter.unusedSimpArgs false
set_option linter.unusedVariables false
set_option linter.unusedSectionVars false
set_option linter.unnecessarySimpa false
set_option maxRecDepth 20000
set_option maxHeartbeats 8000000
namespace Px
open Go Go.RowKit
/-! ### the environment: what is known of the temporaries -/
abbrev Env:=List (Nat×Value)
def look:Env->Nat->Option Value
 | [],_=>none
 |(k,v)::E,t=>match Nat.beq k t with|true=>some v|false=>look E t
variable {aD:Array Edge} {ops:Array Oper} {cs:Array Value} {assign body y:Code} {R:Ending->World->Prop} {K K':IntKind} {D:List Deferred} {vs:List Value} {L L':List World} {rec:Loop} {N T b e f i j ty u:Nat} {fr:Nat×Nat} {MI RO:Nat->Prop} {o:Obj} {op:Op} {x:Operand} {pos:String} {v:Value} {W W' w1:World} {I:World->Prop}
theorem yq{a:Nat}(e:¬a=b):Nat.beq a b=false:=by
 cases h:Nat.beq a b with
 |false=>rfl
 |true=>exact absurd (NA h) e
theorem yr(a:Nat):Nat.beq a a=true:=by induction a<;>simp_all[Nat.beq]
def Fits (E:Env) (a:Act):Prop:=∀t v,look E t=some v->a.eval (.tmp t)=v
def ev (E:Env):Operand->Option Value
 | .tmp t=>look E t
 | .const v=>some v
 | .global g=>some ((⟨#[],[]⟩:Act).eval (.global g))
 | .func f=>some ((⟨#[],[]⟩:Act).eval (.func f))
variable {E:Env}
theorem Fits.ev{a:Act}(h:Fits E a)(hx:ev E x=some v):a.eval x=v:=by
 cases x with
 |tmp t=>exact h t v hx
 |const u=>simp[Px.ev]at hx;subst hx;rfl
 |global g=>simp only[Px.ev,rF]at hx;rw[<-hx];rfl
 |func f=>simp only[Px.ev,rF]at hx;rw[<-hx];rfl
theorem Fits.put{a:Act}(h:Fits E a){d:Nat}(v:Value)(hd:d<a.tmps.size):Fits ((d,v)::E) (a.put (some d) v):=by
 intro t u ht;simp only[look]at ht;by_cases e:d=t
 ·subst e;simp only[yr,rF]at ht;subst ht;simp[Act.eval,Act.put,hd]
 have:Nat.beq d t=false:=yq e;simp only[this]at ht;have:=h t u ht;simp only[Act.eval,Act.put]at this ⊢;rw[<-this];simp[anp e]
def Sub:Env->Env->Prop
 | [],_=>True
 |(t,v)::E',E=>look E t=some v/\Sub E' E
theorem Sub.fits{E':Env}{a:Act}(hs:Sub E' E)(h:Fits E a):Fits E' a:=by
 induction E' with
 |nil=>intro t v hv;simp[look]at hv
 |cons p E' ih=>
  obtain⟨k,u⟩:=p;intro t v hv;simp only[look]at hv;by_cases e:k=t
  ·subst e;simp only[yr,rF]at hv;subst hv;exact h _ _ hs.1
  have:Nat.beq k t=false:=yq e;simp only[this]at hv;exact ih hs.2 t v hv
def nq (ops:Array Oper) (E:Env) (g:Option (Nat×Bool)):Option Bool:=
 match g with
 |none=>some true
 |some (j,b)=>
  match(ops[j]?).bind (·.dst)with
  |none=>some false
  |some d=>
   match look E d with
   |some (.bool true)=>some b
   |some (.bool false)=>some (!b)
   |some (.tuple _)=>some false
   |_=>none
theorem uW{a:Act}{o:Oper}{c:Bool}(h:Fits E a)(hw:nq ops E o.guard=some c):Region.wanted o (yielded ops a.tmps)=c:=by
 unfold nq at hw;unfold Region.wanted;cases hg:o.guard with
 |none=>simp[hg]at hw;subst hw;rfl
 |some p=>
  obtain⟨j,b⟩:=p;simp only[hg]at hw ⊢;cases hd:(ops[j]?).bind (·.dst)with
  |none=>simp[hd]at hw;subst hw;simp[yielded,hd]
  |some d=>
   simp only[hd]at hw;cases hl:look E d with
   |none=>simp[hl]at hw
   |some v=>
    have hv:=h d v hl;simp only[hl]at hw;have key:∀u,v=u->yielded ops a.tmps j=(match u with| .bool b=>some b|_=>none):=by
     intro u hu;simp only[yielded,hd,Option.bind_some];simp only[Act.eval]at hv;cases ht:a.tmps[d]? with
     |none=>
      have:v=undef:=by rw[<-hv,Array.getD_eq_getD_getElem?,ht];rfl
      subst hu;rw[this];rfl
     |some u'=>
      have:v=u':=by rw[<-hv,Array.getD_eq_getD_getElem?,ht];rfl
      subst hu;subst this;cases v<;>rfl
    split at hw
    ·simp at hw;subst hw;rename_i h1;rw[key _ (by injection h1)];cases b<;>rfl
    ·simp at hw;subst hw;rename_i h1;rw[key _ (by injection h1)];cases c<;>rfl
    ·simp at hw;subst hw;rename_i h1;rw[key _ (by injection h1)];rfl
    simp at hw
/-! ### the memory: ghost (another party's blocks), snapshots, own blocks -/
structure Gh where
 M:Nat->Prop
 V:Nat->Prop
 R:World->Prop
 X:Nat->Prop
 sub:∀k,M k->V k
 subX:∀k,M k->X k
 stab:∀W W':World,R W->W'.os=W.os->W'.tape=W.tape->W'.output=W.output->W.heap.size<=W'.heap.size->(∀k,V k->W'.heap[k]? =W.heap[k]?)->R W'
def Gh.no:Gh:=⟨λ_=>False,λ_=>False,λ_=>True,λ_=>False,λ_ h=>h,λ_ h=>h,λ_ _ _ _ _ _ _ _=>trivial⟩
def Gh.lent (Z:Nat->Prop):Gh:=⟨λ_=>False,λ_=>False,λ_=>True,Z,λ_ h=>h,λ_ h=>h.elim,λ_ _ _ _ _ _ _ _=>trivial⟩
abbrev ae:=List (Nat×Obj)
structure aI (X:Nat->Prop) (w W:World):Prop where
 os:W.os=w.os
 tape:W.tape=w.tape
 output:W.output=w.output
 size:w.heap.size<=W.heap.size
 block:∀k,k<w.heap.size->¬X k->W.heap[k]? =w.heap[k]?
theorem aI.refl(X:Nat->Prop)(w:World):aI X w w:=⟨rfl,rfl,rfl,ao _,λ_ _ _=>rfl⟩
theorem aI.trans{X:Nat->Prop}{a b c:World}(h:aI X a b)(k:aI X b c):aI X a c:=
 ⟨k.os.trans h.os,k.tape.trans h.tape,k.output.trans h.output,aS h.size k.size,
  λi hi hx=>(k.block i (kJ hi h.size) hx).trans (h.block i hi hx)⟩
theorem aI.mono{X Y:Nat->Prop}{a b:World}(h:aI X a b)(hxy:∀k,k<a.heap.size->X k->Y k):aI Y a b:=
 ⟨h.os,h.tape,h.output,h.size,λi hi hy=>h.block i hi (λhx=>hy (hxy i hi hx))⟩
theorem aI.of_below{X:Nat->Prop}{a b:World}(h:Below a.heap.size a b):aI X a b:=
 ⟨h.os,h.tape,h.output,h.size,λi hi _=>h.block i hi⟩
theorem aI.below{X:Nat->Prop}{a b:World}(h:aI X a b)(hx:∀k,k<a.heap.size->¬X k):Below a.heap.size a b:=
 ⟨h.os,h.tape,h.output,h.size,λi hi=>h.block i hi (hx i hi)⟩
def qQ (H:ae):Prop:=∀(i j:Nat) (p q:Nat×Obj),H[i]? =some p->H[j]? =some q->p.1=q.1->i=j
structure St (G:Gh) (L:List World) (H:ae) (W:World):Prop where
 ghost:G.R W
 vlt:∀k,G.V k->k<W.heap.size
 xlt:∀k,G.X k->k<W.heap.size
 links:∀w∈L,aI (λk=>G.X k\/k∈H.map (·.1)) w W
 own:∀p∈H,W.heap[p.1]? =some p.2
 nodup:qQ H
 apart:∀p∈H,¬G.V p.1
def ad:List World->Nat->Prop
 | [],_=>True
 |w::L,b=>w.heap.size<=b/\ad L b
theorem ad.of_mem(h:∀w∈L,w.heap.size<=b):ad L b:=by
 induction L with
 |nil=>trivial
 |cons w L ih=>exact⟨h w z1,ih λw' hw=>h w' (by simp[hw])⟩
theorem ad.mem(h:ad L b):∀w∈L,w.heap.size<=b:=by
 induction L with
 |nil=>intro w hw;simp at hw
 |cons w L ih=>
  intro w' hw;simp only[cP]at hw;rcases hw with rfl|hw
  ·exact h.1
  exact ih h.2 w' hw
def bE:ae->Nat->Prop
 | [],_=>True
 |p::H,b=>p.1≠b/\bE H b
variable {H:ae}
theorem bE.mem(h:bE H b):b∉H.map (·.1):=by
 induction H with
 |nil=>simp
 |cons p H ih=>
  simp only[eE,cP,not_or];exact⟨λe=>h.1 e.symm,ih h.2⟩
theorem bE.of_mem(h:b∉H.map (·.1)):bE H b:=by
 induction H with
 |nil=>trivial
 |cons p H ih=>
  simp only[eE,cP,not_or]at h;exact⟨λe=>h.1 e.symm,ih h.2⟩
def n0:ae->Nat->Prop
 | [],_=>True
 |p::H,b=>p.1<b/\n0 H b
section
variable {G:Gh} {L:List World} {H:ae} {W W':World}
theorem St.lt(h:St G L H W):∀p∈H,p.1<W.heap.size:=λp hp=>(aM.1 (h.own p hp)).1
theorem St.under(h:St G L H W):n0 H W.heap.size:=by
 have:=h.lt;clear h;induction H with
 |nil=>trivial
 |cons p H ih=>exact⟨this p z1,ih λq hq=>this q (by simp[hq])⟩
theorem St.sizes(h:St G L H W):ad L W.heap.size:=ad.of_mem λw hw=>(h.links w hw).size
theorem St.step(h:St G L H W)(hb:Below W.heap.size W W'):St G L H W' where
 ghost:=G.stab W W' h.ghost hb.os hb.tape hb.output hb.size (λk hk=>hb.block k (h.vlt k hk))
 vlt:=λk hk=>kJ (h.vlt k hk) hb.size
 xlt:=λk hk=>kJ (h.xlt k hk) hb.size
 links:=λw hw=>(h.links w hw).trans (aI.of_below hb)
 own:=λp hp=>(hb.block p.1 (h.lt p hp)).trans (h.own p hp)
 nodup:=h.nodup
 apart:=h.apart
theorem St.snap(h:St G L H W):St G (W::L) H W:=by
 refine{h with links:=λw hw=>?_};simp only[cP]at hw;rcases hw with rfl|hw
 ·exact aI.refl _ _
 exact h.links w hw
theorem TI(W:World)(o:Obj):Below W.heap.size W (W.alloc o):=(Below.refl _ _).alloc (ao _) o
theorem FE(W:World)(n:Nat):Below W.heap.size W {W with drawn:=n}:=⟨rfl,rfl,rfl,ao _,λ_ _=>rfl⟩
theorem St.alloc(h:St G L H W)(o:Obj):St G L ((W.heap.size,o)::H) (W.alloc o):=by
 have h1:=h.step (TI W o);refine{h1 with links:=λw hw=>?_,own:=λp hp=>?_,nodup:=?_,apart:=λp hp=>?_}
 ·exact(h1.links w hw).mono λk _ hk=>hk.imp id (λhk=>by simp[hk])
 ·simp only[cP]at hp;rcases hp with rfl|hp
  ·exact heap_alloc_new W o
  exact h1.own p hp
 ·intro i j p q hi hj e;cases i with
  |zero=>
   cases j with
   |zero=>rfl
   |succ j=>
    simp only[Ir,rF,yS]at hi hj;have:=h.lt q (cC hj);subst hi;simp at e;omega
  |succ i=>
   cases j with
   |zero=>
    simp only[Ir,rF,yS]at hi hj;have:=h.lt p (cC hi);subst hj;simp at e;omega
   |succ j=>
    simp only[yS]at hi hj;rw[h.nodup i j p q hi hj e]
 simp only[cP]at hp;rcases hp with rfl|hp
 ·intro hm;have:=h.vlt _ hm;simp at this
 exact h.apart p hp
theorem St.old(h:St G L H W){w:World}(hw:w∈L)(hb:w.heap[b]? =some o)(hm:¬G.X b)(ho:bE H b):W.heap[b]? =some o:=by
 have hlt:=(aM.1 hb).1;rw[(h.links w hw).block b hlt (λhx=>hx.elim hm ho.mem)];exact hb
theorem St.put(h:St G L H W){o':Obj}(hi:H[i]? =some (b,o))(hW:aI (· =b) W W')(hb:W'.heap[b]? =some o'):St G L (H.set i (b,o')) W':=by
 have jO:(b,o)∈H:=cC hi;have tw:i<H.length:=(gD.1 hi).1;have gn:∀(j:Nat) (p:Nat×Obj),(H.set i (b,o'))[j]? =some p->(j=i/\p=(b,o'))\/(j≠i/\H[j]? =some p):=by
  intro j p hp;by_cases e:j=i
  ·subst e;rw[JU tw]at hp;exact .inl ⟨rfl,(Option.some.inj hp).symm⟩
  rw[HK (λx=>e x.symm)]at hp;exact .inr ⟨e,hp⟩
 have NB:∀(j:Nat) (p:Nat×Obj),(H.set i (b,o'))[j]? =some p->∃q,H[j]? =some q/\q.1=p.1:=by
  intro j p hp;rcases gn j p hp with⟨rfl,rfl⟩|⟨_,hp⟩
  ·exact⟨_,hi,rfl⟩
  exact⟨p,hp,rfl⟩
 have bO:∀k,k∈(H.set i (b,o')).map (·.1)↔k∈H.map (·.1):=by
  intro k;rw[List.map_set];constructor
  ·intro hk;rcases Yb hk with hk|rfl
   ·exact hk
   exact bU.2 ⟨_,jO,rfl⟩
  intro hk;obtain⟨j,hj⟩:=jL.1 hk;by_cases e:i=j
  ·subst e;have:k=b:=by simp[hi]at hj;exact hj.symm
   subst this;exact jL.2 ⟨i,by rw[JU (by simpa using tw)]⟩
  exact jL.2 ⟨j,by rw[HK e];exact hj⟩
 have hM:=h.apart _ jO;refine⟨G.stab W W' h.ghost hW.os hW.tape hW.output hW.size (λk hk=>hW.block k (h.vlt k hk) (λe=>hM (e▸hk))),λk hk=>kJ (h.vlt k hk) hW.size,λk hk=>kJ (h.xlt k hk) hW.size,λw hw=>?_,λp hp=>?_,λj j' p q hj uX e=>?_,λp hp=>?_⟩
 ·have h1:=(h.links w hw).trans (hW.mono (Y:=λk=>G.X k\/k∈H.map (·.1)) λk _ hk=>by subst hk;exact .inr (bU.2 ⟨_,jO,rfl⟩));exact h1.mono λk _ hk=>hk.imp id (bO k).2
 ·obtain⟨j,hj⟩:=jL.1 hp;rcases gn j p hj with⟨rfl,rfl⟩|⟨dc,hj⟩
  ·exact hb
  have hm:=cC hj;rw[hW.block p.1 (h.lt p hm) (λe=>dc (h.nodup j i p (b,o) hj hi e))];exact h.own p hm
 ·obtain⟨p',hp',e1⟩:=NB j p hj;obtain⟨q',hq',e2⟩:=NB j' q uX;exact h.nodup j j' p' q' hp' hq' (by rw[e1,e2];exact e)
 obtain⟨j,hj⟩:=jL.1 hp;obtain⟨q,hq,e⟩:=NB j p hj;rw[<-e];exact h.apart q (cC hq)
end
/-! ### the judgements -/
abbrev FW (r:Option Nat):Fence:={fn:=λ_=>True,depth:=none,alive:=false,round:=r}
theorem ntn(r:Option Nat)(n:Nat):(FW r).room n:=λ_ h=>by simp at h
theorem nDg(P:Program)(r:Option Nat):Machine.fenced P (FW r)=Machine.fenced P Fence.wide:=rfl
theorem CG{r:Option Nat}{n:Nat}{P:Program}{f:FuncId}{args:Array Value}{w:World}:CallsIn (FW r) n P f args w R↔Calls P f args w R:=by
 rw[<-callsIn_wide (n:=n)];unfold CallsIn;rw[nDg];exact⟨λh=>⟨trivial,λcs _=>h.2 cs (ntn _ _)⟩,λh=>⟨trivial,λcs _=>h.2 cs (room_wide _)⟩⟩
abbrev aG:=Exit->Act->World->Prop
structure Cx where
 P:Program
 r:Option Nat
 N:Nat
variable (C:Cx)
def PJ (Q:aG) (e:Exit) (E:Env) (D:List Deferred) (G:Gh) (L:List World) (H:ae):Prop:=
 ∀a W,a.tmps.size=C.N->a.defers=D->Fits E a->St G L H W->Q e a W
def CJ (c:Code) (Q:aG) (E:Env) (D:List Deferred) (G:Gh) (L:List World) (H:ae):Prop:=
 ∀a W,a.tmps.size=C.N->a.defers=D->Fits E a->St G L H W->c.wpIn (FW C.r) 0 C.P Q a W
def OJ (ops:Array Oper) (Q:aG) (l:List Oper) (E:Env) (D:List Deferred) (G:Gh) (L:List World) (H:ae):Prop:=
 ∀a W,a.tmps.size=C.N->a.defers=D->Fits E a->St G L H W->wpListIn (FW C.r) 0 C.P ops Q l a W
section
variable {C:Cx} {Q:aG} {E E':Env} {D:List Deferred} {G:Gh} {L L':List World} {H:ae} {ops:Array Oper} {l:List Oper}
theorem CJ.region{id:Nat}(h:OJ C l.toArray Q l E D G L H):CJ C (.region id l.toArray false) Q E D G L H:=
 λa W hN hD hF hS=>wpIn_region_lit (h a W hN hD hF hS)
theorem CJ.seq{x:Code}(h:CJ C x (Exit.then (y.wpIn (FW C.r) 0 C.P Q) Q) E D G L H):CJ C (.seq x y) Q E D G L H:=
 λa W hN hD hF hS=>wpIn_seq (h a W hN hD hF hS)
theorem CJ.block{id:Nat}{c:Code}(h:CJ C c (Exit.inBlock id Q) E D G L H):CJ C (.block id c) Q E D G L H:=
 λa W hN hD hF hS=>wpIn_block (h a W hN hD hF hS)
theorem CJ.skip(h:PJ C Q .normal E D G L H):CJ C .skip Q E D G L H:=λa W hN hD hF hS=>wpIn_skip (h a W hN hD hF hS)
theorem CJ.ret(h:PJ C Q .ret E D G L H):CJ C .ret Q E D G L H:=λa W hN hD hF hS=>wpIn_ret (h a W hN hD hF hS)
theorem CJ.exit{id:Nat}(h:PJ C Q (.exit id) E D G L H):CJ C (.exit id) Q E D G L H:=λa W hN hD hF hS=>wpIn_exit (h a W hN hD hF hS)
theorem PJ.next(h:CJ C y Q E D G L H):PJ C (Exit.then (y.wpIn (FW C.r) 0 C.P Q) Q) .normal E D G L H:=h
theorem OJ.done(h:PJ C Q .normal E D G L H):OJ C ops Q [] E D G L H:=h
theorem CJ.condT{c:Operand}{x:Code}(hc:ev E c=some (.bool true))(h:CJ C x Q E D G L H):CJ C (.cond c x y) Q E D G L H:=
 λa W hN hD hF hS=>wpIn_cond_true (hF.ev hc) (h a W hN hD hF hS)
theorem CJ.condF{c:Operand}{x:Code}(hc:ev E c=some (.bool false))(h:CJ C y Q E D G L H):CJ C (.cond c x y) Q E D G L H:=
 λa W hN hD hF hS=>wpIn_cond_false (hF.ev hc) (h a W hN hD hF hS)
theorem CJ.cond{c:Operand}{x:Code}{t:Bool}(hc:ev E c=some (.bool t))(h1:t=true->CJ C x Q E D G L H)(h2:t=false->CJ C y Q E D G L H):CJ C (.cond c x y) Q E D G L H:=
 λa W hN hD hF hS=>wpIn_cond_split (hF.ev hc) (λht=>h1 ht a W hN hD hF hS) (λht=>h2 ht a W hN hD hF hS)
theorem ng{c:Code}(hs:Sub E' E)(h:CJ C c Q E' D G L H):CJ C c Q E D G L H:=
 λa W hN hD hF hS=>h a W hN hD (hs.fits hF) hS
theorem St.lessL(h:St G L H W)(hs:∀w∈L',w∈L):St G L' H W:=
 {h with links:=λw hw=>h.links w (hs w hw)}
theorem nh{t:Nat}{c:Bool}(hc:look E t=some (.bool c))(h1:c=true->OJ C ops Q l ((t,.bool true)::E) D G L H)(h2:c=false->OJ C ops Q l ((t,.bool false)::E) D G L H):OJ C ops Q l E D G L H:=by
 intro a W hN hD hF hS;have JV:∀b,c=b->Fits ((t,.bool b)::E) a:=by
  rintro b rfl u v hv;simp only[look]at hv;by_cases e:t=u
  ·subst e;simp only[yr,rF]at hv;subst hv;exact hF _ _ hc
  simp only[yq e]at hv;exact hF _ _ hv
 cases c with
 |true=>exact h1 rfl a W hN hD (JV _ rfl) hS
 |false=>exact h2 rfl a W hN hD (JV _ rfl) hS
theorem OJ.off{o:Oper}{d:Nat}(hd:o.dst=some d)(iu:d<C.N)(hw:nq ops E o.guard=some false)(h:OJ C ops Q l ((d,undef)::E) D G L H):OJ C ops Q (o::l) E D G L H:=by
 intro a W hN hD hF hS;unfold wpListIn;rw[if_neg (by rw[uW hF hw];simp)];refine⟨λ_ _=>trivial,?_⟩;rw[hd];exact h (a.put (some d) undef) W (by simp[Act.put,hN]) jW (hF.put _ zM) hS
variable {H':ae}
theorem OJ.run{o:Oper}{d:Nat}(hd:o.dst=some d)(hnd:∀c,o.op≠ .defer c)(iu:d<C.N)(hw:nq ops E o.guard=some true)(h:∀a W,Fits E a->St G L H W->∃W',(execOp a.eval o).run C.P W= .ok (.value v) W'/\St G L' H' W')(k:OJ C ops Q l ((d,v)::E) D G L' H'):OJ C ops Q (o::l) E D G L H:=by
 intro a W hN hD hF hS;obtain⟨W',hr,fZ⟩:=h a W hF hS;unfold wpListIn;rw[if_pos (uW hF hw)];refine⟨λ_ _=>trivial,?_⟩;rw[Oper.semAt_eq _ _ _ hnd,hr,Oper.uponIn_value,hd];exact k (a.put (some d) v) W' (by simp[Act.put,hN]) jW (hF.put _ zM) fZ
theorem OJ.val{o:Oper}{d:Nat}(hd:o.dst=some d)(hnd:∀c,o.op≠ .defer c)(iu:d<C.N)(hw:nq ops E o.guard=some true)(h:∀a W,Fits E a->St G L H W->(execOp a.eval o).run C.P W= .ok (.value v) W)(k:OJ C ops Q l ((d,v)::E) D G L H):OJ C ops Q (o::l) E D G L H:=
 OJ.run hd hnd iu hw (λa W hF hS=>⟨W,h a W hF hS,hS⟩) k
theorem HL{o:Oper}(hd:o.dst=none)(hnd:∀c,o.op≠ .defer c)(hw:nq ops E o.guard=some true)(h:∀a W,Fits E a->St G L H W->∃n W',(n= .skip\/∃v,n= .value v)/\(execOp a.eval o).run C.P W= .ok n W'/\St G L' H' W')(k:OJ C ops Q l E D G L' H'):OJ C ops Q (o::l) E D G L H:=by
 intro a W hN hD hF hS;obtain⟨n,W',hn,hr,fZ⟩:=h a W hF hS;unfold wpListIn;rw[if_pos (uW hF hw)];refine⟨λ_ _=>trivial,?_⟩;rw[Oper.semAt_eq _ _ _ hnd,hr];rcases hn with rfl|⟨v,rfl⟩
 ·rw[Oper.uponIn_skip,hd];exact k a W' hN hD hF fZ
 rw[Oper.uponIn_value,hd];exact k a W' hN hD hF fZ
end
end Px
namespace Px
open Go Go.RowKit
section
variable {C:Cx} {Q:aG} {E:Env} {D:List Deferred} {G:Gh} {L:List World} {H:ae} {ops:Array Oper} {l:List Oper}
variable {d T U ty:Nat} {pos:String} {aD:Array Edge} {g:Option (Nat×Bool)} {x y z:Operand}
variable {b:Nat}
theorem nX{a:Nat}(h:Nat.blt a b=true):a<b:=aV h
def RV (C:Cx) (G:Gh) (L:List World) (H:ae) (E:Env) (op:Op) (v:Value):Prop:=
 ∀(d ty:Nat) (pos:String) (aD:Array Edge) (g:Option (Nat×Bool)) (a:Act) (W:World),Fits E a->St G L H W->(execOp a.eval ⟨some d,op,ty,pos,aD,g⟩).run C.P W= .ok (.value v) W
variable {op:Op} {v:Value}
theorem NC(hnd:∀c,op≠ .defer c)(hw:nq ops E g=some true)(hN:Nat.blt d C.N=true)(h:∀a W,Fits E a->St G L H W->(execOp a.eval ⟨some d,op,ty,pos,aD,g⟩).run C.P W= .ok (.value v) W)(k:OJ C ops Q l ((d,v)::E) D G L H):OJ C ops Q (⟨some d,op,ty,pos,aD,g⟩::l) E D G L H:=
 OJ.val rfl hnd (nX hN) hw h k
theorem fW(hx:ev E x=some v):RV C G L H E (.move x) (v):=λd ty pos aD g a W hF hS=>by
 exact(λa W hF _=>by simp[execOp,hF.ev hx]:∀(a:Act) (W:World),Fits E a->St G L H W->(execOp a.eval ⟨some d,.move x,ty,pos,aD,g⟩).run C.P W= .ok (.value (v)) W) a W hF hS
theorem kg(hx:ev E x=some v):RV C G L H E (.assign x) (v):=λd ty pos aD g a W hF hS=>by
 exact(λa W hF _=>by simp[execOp,hF.ev hx]:∀(a:Act) (W:World),Fits E a->St G L H W->(execOp a.eval ⟨some d,.assign x,ty,pos,aD,g⟩).run C.P W= .ok (.value (v)) W) a W hF hS
theorem CH(hc:ev E x=some (.bool true))(hx:ev E y=some v):RV C G L H E (.pick x y z) (v):=λd ty pos aD g a W hF hS=>by
 exact(λa W hF _=>by simp[execOp,asBool,hF.ev hx,hF.ev hc]:∀(a:Act) (W:World),Fits E a->St G L H W->(execOp a.eval ⟨some d,.pick x y z,ty,pos,aD,g⟩).run C.P W= .ok (.value (v)) W) a W hF hS
theorem vY(hc:ev E x=some (.bool false))(hx:ev E z=some v):RV C G L H E (.pick x y z) (v):=λd ty pos aD g a W hF hS=>by
 exact(λa W hF _=>by simp[execOp,asBool,hF.ev hx,hF.ev hc]:∀(a:Act) (W:World),Fits E a->St G L H W->(execOp a.eval ⟨some d,.pick x y z,ty,pos,aD,g⟩).run C.P W= .ok (.value (v)) W) a W hF hS
/-! #### integers -/
section ints
variable {K:IntKind} {m n:Int}
theorem mR(hx:ev E x=some (.int K m))(hy:ev E y=some (.int K n)):RV C G L H E (.binOp .lss T x y U) (.bool (decide (m<n))):=λd ty pos aD g a W hF hS=>by
 exact(λa W hF _=>by simp[execOp,eqGuard,binOp,Op.intCmp,hF.ev hx,hF.ev hy]:∀(a:Act) (W:World),Fits E a->St G L H W->(execOp a.eval ⟨some d,.binOp .lss T x y U,ty,pos,aD,g⟩).run C.P W= .ok (.value (.bool (decide (m<n)))) W) a W hF hS
theorem sT(hx:ev E x=some (.int K m))(hy:ev E y=some (.int K n)):RV C G L H E (.binOp .leq T x y U) (.bool (decide (m<=n))):=λd ty pos aD g a W hF hS=>by
 exact(λa W hF _=>by simp[execOp,eqGuard,binOp,Op.intCmp,hF.ev hx,hF.ev hy]:∀(a:Act) (W:World),Fits E a->St G L H W->(execOp a.eval ⟨some d,.binOp .leq T x y U,ty,pos,aD,g⟩).run C.P W= .ok (.value (.bool (decide (m<=n)))) W) a W hF hS
theorem pV(hx:ev E x=some (.int K m))(hy:ev E y=some (.int K n)):RV C G L H E (.binOp .gtr T x y U) (.bool (decide (n<m))):=λd ty pos aD g a W hF hS=>by
 exact(λa W hF _=>by simp[execOp,eqGuard,binOp,Op.intCmp,hF.ev hx,hF.ev hy]:∀(a:Act) (W:World),Fits E a->St G L H W->(execOp a.eval ⟨some d,.binOp .gtr T x y U,ty,pos,aD,g⟩).run C.P W= .ok (.value (.bool (decide (n<m)))) W) a W hF hS
theorem pW(hx:ev E x=some (.int K m))(hy:ev E y=some (.int K n)):RV C G L H E (.binOp .geq T x y U) (.bool (decide (n<=m))):=λd ty pos aD g a W hF hS=>by
 exact(λa W hF _=>by simp[execOp,eqGuard,binOp,Op.intCmp,hF.ev hx,hF.ev hy]:∀(a:Act) (W:World),Fits E a->St G L H W->(execOp a.eval ⟨some d,.binOp .geq T x y U,ty,pos,aD,g⟩).run C.P W= .ok (.value (.bool (decide (n<=m)))) W) a W hF hS
theorem dH(hx:ev E x=some (.int K m))(hy:ev E y=some (.int K n)):RV C G L H E (.binOp .eql T x y U) (.bool (decide (m=n))):=λd ty pos aD g a W hF hS=>by
 exact(λa W hF _=>by
  simp only[execOp,eqGuard,binOp,Op.intCmp,hF.ev hx,hF.ev hy];simp;rfl:∀(a:Act) (W:World),Fits E a->St G L H W->(execOp a.eval ⟨some d,.binOp .eql T x y U,ty,pos,aD,g⟩).run C.P W= .ok (.value (.bool (decide (m=n)))) W) a W hF hS
theorem cy(hx:ev E x=some (.int K m))(hy:ev E y=some (.int K n)):RV C G L H E (.binOp .neq T x y U) (.bool (!decide (m=n))):=λd ty pos aD g a W hF hS=>by
 exact(λa W hF _=>by
  simp only[execOp,eqGuard,binOp,Op.intCmp,hF.ev hx,hF.ev hy];simp;rfl:∀(a:Act) (W:World),Fits E a->St G L H W->(execOp a.eval ⟨some d,.binOp .neq T x y U,ty,pos,aD,g⟩).run C.P W= .ok (.value (.bool (!decide (m=n)))) W) a W hF hS
theorem lv(hx:ev E x=some (.int K m))(hy:ev E y=some (.int K n)):RV C G L H E (.binOp .add T x y U) (.int K (K.wrap (m+n))):=λd ty pos aD g a W hF hS=>by
 exact(λa W hF _=>by simp[execOp,eqGuard,binOp,Op.intArith,hF.ev hx,hF.ev hy]:∀(a:Act) (W:World),Fits E a->St G L H W->(execOp a.eval ⟨some d,.binOp .add T x y U,ty,pos,aD,g⟩).run C.P W= .ok (.value (.int K (K.wrap (m+n)))) W) a W hF hS
theorem qR(hx:ev E x=some (.int K m))(hy:ev E y=some (.int K n)):RV C G L H E (.binOp .sub T x y U) (.int K (K.wrap (m-n))):=λd ty pos aD g a W hF hS=>by
 exact(λa W hF _=>by simp[execOp,eqGuard,binOp,Op.intArith,hF.ev hx,hF.ev hy]:∀(a:Act) (W:World),Fits E a->St G L H W->(execOp a.eval ⟨some d,.binOp .sub T x y U,ty,pos,aD,g⟩).run C.P W= .ok (.value (.int K (K.wrap (m-n)))) W) a W hF hS
theorem iF(hx:ev E x=some (.int K m))(hy:ev E y=some (.int K n)):RV C G L H E (.binOp .mul T x y U) (.int K (K.wrap (m*n))):=λd ty pos aD g a W hF hS=>by
 exact(λa W hF _=>by simp[execOp,eqGuard,binOp,Op.intArith,hF.ev hx,hF.ev hy]:∀(a:Act) (W:World),Fits E a->St G L H W->(execOp a.eval ⟨some d,.binOp .mul T x y U,ty,pos,aD,g⟩).run C.P W= .ok (.value (.int K (K.wrap (m*n)))) W) a W hF hS
theorem Io{n:Int}(h1: -9223372036854775808<=n)(h2:n<=9223372036854775807):IntKind.i64.wrap n=n:=by
 unfold IntKind.wrap;simp[IntKind.bits,IntKind.signed];split<;>omega
theorem JW{n:Int}(h1:0<=n)(h2:n<18446744073709551616):IntKind.u64.wrap n=n:=by
 unfold IntKind.wrap;simp[IntKind.bits,IntKind.signed];omega
theorem nD(n:Int):IntKind.u64.wrap n=n%18446744073709551616:=by
 exact zll
theorem nOl(n:Int):IntKind.u8.wrap n=n%256:=by
 exact zll
theorem Yw(n:Int):IntKind.u32.wrap n=n%4294967296:=by
 exact zll
theorem ql(hx:ev E x=some (.int .i64 m))(hy:ev E y=some (.int .i64 n))(h1: -9223372036854775808<=m+n)(h2:m+n<=9223372036854775807):RV C G L H E (.binOp .add T x y U) (.int .i64 (m+n)):=by
 have:=lv (C:=C) (G:=G) (L:=L) (H:=H) (T:=T) (U:=U) hx hy;rwa[Io h1 h2]at this
theorem gT(hx:ev E x=some (.int .i64 m))(hy:ev E y=some (.int .i64 n))(h1: -9223372036854775808<=m-n)(h2:m-n<=9223372036854775807):RV C G L H E (.binOp .sub T x y U) (.int .i64 (m-n)):=by
 have:=qR (C:=C) (G:=G) (L:=L) (H:=H) (T:=T) (U:=U) hx hy;rwa[Io h1 h2]at this
theorem ND(hx:ev E x=some (.int .i64 m))(hy:ev E y=some (.int .i64 n))(h1: -9223372036854775808<=m*n)(h2:m*n<=9223372036854775807):RV C G L H E (.binOp .mul T x y U) (.int .i64 (m*n)):=by
 have:=iF (C:=C) (G:=G) (L:=L) (H:=H) (T:=T) (U:=U) hx hy;rwa[Io h1 h2]at this
/-! #### division, shifts, bits -/
theorem CI(hx:ev E x=some (.int K m))(hy:ev E y=some (.int K n))(h0:n≠0):RV C G L H E (.binOp .quo T x y U) (.int K (K.wrap (m.tdiv n))):=λd ty pos aD g a W hF _=>by
 simp[execOp,eqGuard,binOp,Op.intDiv,hF.ev hx,hF.ev hy,h0]
theorem NF(hx:ev E x=some (.int K m))(hy:ev E y=some (.int K n))(h0:n≠0):RV C G L H E (.binOp .rem T x y U) (.int K (m.tmod n)):=λd ty pos aD g a W hF _=>by
 simp[execOp,eqGuard,binOp,Op.intDiv,hF.ev hx,hF.ev hy,h0]
variable {K':IntKind}
theorem mF(hx:ev E x=some (.int K m))(hy:ev E y=some (.int K' n))(h0:0<=n):RV C G L H E (.binOp .shl T x y U) (.int K (K.wrap (m*2^(min n.toNat K.bits)))):=λd ty pos aD g a W hF _=>by
 simp[execOp,eqGuard,binOp,Op.shift,hF.ev hx,hF.ev hy,show ¬n<0 by omega]
theorem iG(hx:ev E x=some (.int K m))(hy:ev E y=some (.int K' n))(h0:0<=n):RV C G L H E (.binOp .shr T x y U) (.int K (m.fdiv (2^(min n.toNat K.bits)))):=λd ty pos aD g a W hF _=>by
 simp[execOp,eqGuard,binOp,Op.shift,hF.ev hx,hF.ev hy,show ¬n<0 by omega]
theorem tP(hx:ev E x=some (.int K m))(hy:ev E y=some (.int K n)):RV C G L H E (.binOp .and T x y U) (.int K (K.wrap (BitVec.ofInt K.bits m&&&BitVec.ofInt K.bits n).toNat)):=λd ty pos aD g a W hF _=>by
 simp only[execOp,eqGuard,binOp,Op.intBits,hF.ev hx,hF.ev hy];simp
theorem u6(hx:ev E x=some (.int K m))(hy:ev E y=some (.int K n)):RV C G L H E (.binOp .or T x y U) (.int K (K.wrap (BitVec.ofInt K.bits m|||BitVec.ofInt K.bits n).toNat)):=λd ty pos aD g a W hF _=>by
 simp only[execOp,eqGuard,binOp,Op.intBits,hF.ev hx,hF.ev hy];simp
theorem tZ(hx:ev E x=some (.int K m))(hy:ev E y=some (.int K n)):RV C G L H E (.binOp .xor T x y U) (.int K (K.wrap (BitVec.ofInt K.bits m^^^BitVec.ofInt K.bits n).toNat)):=λd ty pos aD g a W hF _=>by
 simp only[execOp,eqGuard,binOp,Op.intBits,hF.ev hx,hF.ev hy];simp
theorem yy{s:ByteArray}{b:UInt8}(hU:C.P.underlying T=some .string)(hx:ev E x=some (.string s))(hy:ev E y=some (.int K n))(h0:0<=n)(hb:s[n.toNat]? =some b):RV C G L H E (.index T x y) (.int .u8 b.toNat):=λd ty pos aD g a W hF _=>by
 simp[execOp,hF.ev hx,hF.ev hy,Instr.index,asIntOf,run_underlying hU,h0,hb]
def nth:Op->Bool
 | .defer _=>false
 |_=>true
theorem CK(h:nth op=true):∀c,op≠ .defer c:=λc e=>by subst e;cases h
theorem rv(hnd:nth op=true)(hw:nq ops E g=some true)(hN:Nat.blt d C.N=true)(h:RV C G L H E op v)(k:OJ C ops Q l ((d,v)::E) D G L H):OJ C ops Q (⟨some d,op,ty,pos,aD,g⟩::l) E D G L H:=
 NC (CK hnd) hw hN (λa W hF hS=>h d ty pos aD g a W hF hS) k
theorem RV.re{v':Value}(h:RV C G L H E op v)(e:v=v'):RV C G L H E op v':=e▸h
theorem OJ.re{v':Value}(e:v=v')(k:OJ C ops Q l ((d,v')::E) D G L H):OJ C ops Q l ((d,v)::E) D G L H:=by rw[e];exact k
theorem QZ(m:Int)(j:Nat):m.fdiv (2^j)=m/2^j:=Int.fdiv_eq_ediv_of_nonneg _ (Int.le_of_lt (Int.pow_pos zQ))
theorem nio{m:Int}(h0:0<=m)(h1:m<18446744073709551616)(j:Nat)(hj:j<=64):IntKind.u64.wrap (BitVec.ofInt IntKind.u64.bits m&&&BitVec.ofInt IntKind.u64.bits (2^j-1)).toNat=m%2^j:=by
 obtain⟨k,rfl⟩:=Df h0;have hk:k<18446744073709551616:=by omega
 have e1:(BitVec.ofInt IntKind.u64.bits (k:Int)).toNat=k:=by
  rw[BitVec.ofInt_natCast,BitVec.toNat_ofNat];exact Nat.mod_eq_of_lt hk
 have hp:(2:Int)^j-1=((2^j-1:Nat):Int):=by
  have:0<2^j:=Nat.two_pow_pos j;rw[Int.ofNat_sub zM];simp
 have hle:2^j<=18446744073709551616:=by
  have:=Nat.pow_le_pow_right (show 0<2 by decide) hj;simpa using this
 have e2:(BitVec.ofInt IntKind.u64.bits ((2:Int)^j-1)).toNat=2^j-1:=by
  rw[hp,BitVec.ofInt_natCast,BitVec.toNat_ofNat];exact Nat.mod_eq_of_lt (by have:0<2^j:=Nat.two_pow_pos j;simp[IntKind.bits];omega)
 rw[BitVec.toNat_and,e1,e2,Nat.and_two_pow_sub_one_eq_mod];have:k%2^j<=k:=Nat.mod_le _ _;rw[JW zM zM];simp
theorem CL(hx:ev E x=some (.int .u64 m))(hy:ev E y=some (.int .u64 n))(h1:0<=m+n)(h2:m+n<18446744073709551616):RV C G L H E (.binOp .add T x y U) (.int .u64 (m+n)):=by
 have:=lv (C:=C) (G:=G) (L:=L) (H:=H) (T:=T) (U:=U) hx hy;rwa[JW h1 h2]at this
theorem mH(hx:ev E x=some (.int .u64 m))(hy:ev E y=some (.int .u64 n))(h1:0<=m-n)(h2:m-n<18446744073709551616):RV C G L H E (.binOp .sub T x y U) (.int .u64 (m-n)):=by
 have:=qR (C:=C) (G:=G) (L:=L) (H:=H) (T:=T) (U:=U) hx hy;rwa[JW h1 h2]at this
theorem qS(hx:ev E x=some (.int .u64 m))(hy:ev E y=some (.int .u64 n))(h1:0<=m*n)(h2:m*n<18446744073709551616):RV C G L H E (.binOp .mul T x y U) (.int .u64 (m*n)):=by
 have:=iF (C:=C) (G:=G) (L:=L) (H:=H) (T:=T) (U:=U) hx hy;rwa[JW h1 h2]at this
theorem tH(hx:ev E x=some (.int .u64 m))(hy:ev E y=some (.int .u64 n))(h0:0<=m)(h1:m<18446744073709551616)(h2:1<=n):RV C G L H E (.binOp .quo T x y U) (.int .u64 (m/n)):=by
 have:=CI (C:=C) (G:=G) (L:=L) (H:=H) (T:=T) (U:=U) hx hy zM;rw[Int.tdiv_eq_ediv_of_nonneg h0,JW (Int.ediv_nonneg h0 zM) (Int.lt_of_le_of_lt (Int.ediv_le_self _ h0) h1)]at this;exact this
theorem yD(hx:ev E x=some (.int K m))(hy:ev E y=some (.int K n))(h0:0<=m)(h2:1<=n):RV C G L H E (.binOp .rem T x y U) (.int K (m%n)):=by
 have:=NF (C:=C) (G:=G) (L:=L) (H:=H) (T:=T) (U:=U) hx hy zM;rw[Int.tmod_eq_emod_of_nonneg h0]at this;exact this
theorem K5(hx:ev E x=some (.int .i64 m))(hy:ev E y=some (.int .i64 n))(h0:0<=m)(h1:m<9223372036854775808)(h2:1<=n):RV C G L H E (.binOp .quo T x y U) (.int .i64 (m/n)):=by
 have:=CI (C:=C) (G:=G) (L:=L) (H:=H) (T:=T) (U:=U) hx hy zM;have h3:m/n<=m:=Int.ediv_le_self _ h0;have h4:0<=m/n:=Int.ediv_nonneg h0 zM;rw[Int.tdiv_eq_ediv_of_nonneg h0,Io zM zM]at this;exact this
variable {j:Nat}
theorem n3l(hj:Nat.ble j K.bits=true):min (Int.toNat (j:Int)) K.bits=j:=by
 have:=aV hj;simp;omega
theorem gp(j:Nat)(q:Int)(hq:(2:Int)^j=q)(hj:Nat.ble j K.bits=true)(hx:ev E x=some (.int K m))(hy:ev E y=some (.int K' (j:Int))):RV C G L H E (.binOp .shr T x y U) (.int K (m/q)):=by
 have:=iG (C:=C) (G:=G) (L:=L) (H:=H) (T:=T) (U:=U) hx hy zM;rw[n3l hj,QZ,hq]at this;exact this
theorem yH(j:Nat)(q:Int)(hq:(2:Int)^j=q)(hj:Nat.ble j K.bits=true)(hx:ev E x=some (.int K m))(hy:ev E y=some (.int K' (j:Int))):RV C G L H E (.binOp .shl T x y U) (.int K (K.wrap (m*q))):=by
 have:=mF (C:=C) (G:=G) (L:=L) (H:=H) (T:=T) (U:=U) hx hy zM;rw[n3l hj,hq]at this;exact this
theorem mG(j:Nat)(q:Int)(hq:(2:Int)^j=q)(hj:Nat.ble j 64=true)(hx:ev E x=some (.int .u64 m))(hy:ev E y=some (.int .u64 n))(hn:n=q-1)(h0:0<=m)(h1:m<18446744073709551616):RV C G L H E (.binOp .and T x y U) (.int .u64 (m%q)):=by
 have:=tP (C:=C) (G:=G) (L:=L) (H:=H) (T:=T) (U:=U) hx hy;rw[hn,<-hq,nio h0 h1 j (aV hj)]at this;rwa[<-hq]
theorem iI{S T':Nat}{ds:TypeDesc}(CM:C.P.underlying S=some ds)(hT:C.P.underlying T'=some (.int K'))(hx:ev E x=some (.int K m)):RV C G L H E (.convert S T' x) (.int K' (K'.wrap m)):=λd ty pos aD g a W hF hS=>by
 exact(λa W hF _=>by
  simp[execOp,convert,hF.ev hx,run_underlying CM,run_underlying hT,Conv.intToInt]:∀(a:Act) (W:World),Fits E a->St G L H W->(execOp a.eval ⟨some d,.convert S T' x,ty,pos,aD,g⟩).run C.P W= .ok (.value (.int K' (K'.wrap m))) W) a W hF hS
theorem tO{S T':Nat}{ds:TypeDesc}(CM:C.P.underlying S=some ds)(hT:C.P.underlying T'=some (.int .i64))(hx:ev E x=some (.int K m))(h1: -9223372036854775808<=m)(h2:m<=9223372036854775807):RV C G L H E (.convert S T' x) (.int .i64 m):=by
 have:=iI (C:=C) (G:=G) (L:=L) (H:=H) CM hT hx;rwa[Io h1 h2]at this
theorem tG{S T':Nat}{ds:TypeDesc}(CM:C.P.underlying S=some ds)(hT:C.P.underlying T'=some (.int .u64))(hx:ev E x=some (.int K m))(h1:0<=m)(h2:m<18446744073709551616):RV C G L H E (.convert S T' x) (.int .u64 m):=by
 have:=iI (C:=C) (G:=G) (L:=L) (H:=H) CM hT hx;rwa[JW h1 h2]at this
theorem mJ{S T':Nat}{ds:TypeDesc}(CM:C.P.underlying S=some ds)(hT:C.P.underlying T'=some (.int .u8))(hx:ev E x=some (.int K m)):RV C G L H E (.convert S T' x) (.int .u8 (m%256)):=by
 have:=iI (C:=C) (G:=G) (L:=L) (H:=H) CM hT hx;rwa[nOl]at this
theorem HM{S T':Nat}{ds:TypeDesc}(CM:C.P.underlying S=some ds)(hT:C.P.underlying T'=some (.int .u8))(hx:ev E x=some (.int K m))(h0:0<=m)(h1:m<256):RV C G L H E (.convert S T' x) (.int .u8 m):=by
 have:=mJ (C:=C) (G:=G) (L:=L) (H:=H) CM hT hx;rwa[Int.emod_eq_of_lt h0 h1]at this
end ints
theorem dI{b:Bool}(hx:ev E x=some (.bool b)):RV C G L H E (.unOp .not T x) (.bool (!b)):=λd ty pos aD g a W hF hS=>by
 exact(λa W hF _=>by simp[execOp,Op.unary,hF.ev hx]:∀(a:Act) (W:World),Fits E a->St G L H W->(execOp a.eval ⟨some d,.unOp .not T x,ty,pos,aD,g⟩).run C.P W= .ok (.value (.bool (!b))) W) a W hF hS
variable {i:Nat}
theorem gE{vs:Array Value}(hx:ev E x=some (.tuple vs))(hv:vs[i]? =some v):RV C G L H E (.extract x i) (v):=λd ty pos aD g a W hF hS=>by
 exact(λa W hF _=>by simp[execOp,Instr.extract,hF.ev hx,hv]:∀(a:Act) (W:World),Fits E a->St G L H W->(execOp a.eval ⟨some d,.extract x i,ty,pos,aD,g⟩).run C.P W= .ok (.value (v)) W) a W hF hS
/-! #### calls -/
/-- What a contract says that leaves all that lay as_ it lay: it returns v. -/
def av (w:World) (v:Value):Ending->World->Prop:=λe w'=>e= .returned v/\Below w.heap.size w w'
def cu {α:Type} (w:World) (v:α->Value) (Φ:α->World->Prop):Ending->World->Prop:=λe w'=>∃x,e= .returned (v x)/\Below w.heap.size w w'/\Φ x w'
def dR (P:Program) (f:Nat):Prop:=∀(args:Array Value) (w:World),(callFunc f args).run P w= .ok (.enter f args) w
def iv (E:Env):List Operand->Option (List Value)
 | []=>some []
 |x::xs=>
  match ev E x with
  |some v=>
   match iv E xs with
   |some vs=>some (v::vs)
   |none=>none
  |none=>none
theorem HN{E:Env}{a:Act}(h:Fits E a):∀(xs:List Operand) (vs:List Value),iv E xs=some vs->xs.map a.eval=vs
 | [],vs,hv=>by simp[iv]at hv;simp[hv]
 |x::xs,vs,hv=>by
  simp only[iv]at hv;cases hx:ev E x with
  |none=>simp[hx]at hv
  |some v=>
   simp only[hx]at hv;cases hs:iv E xs with
   |none=>simp[hs]at hv
   |some us=>
    simp only[hs,rF]at hv;subst hv;simp[h.ev hx,HN h xs us hs]
variable {f:Nat} {xs:List Operand} {vs:List Value} {ea:Array Nat}
theorem nZ{o:Oper}(ho:o.op= .call ⟨.value x,xs.toArray,ea⟩){first cap iX:Array Value}(hw:nq ops E o.guard=some true)(hx:ev E x=some (.func (.func f) first cap))(ha:iv E xs=some vs)(has:first++vs.toArray++cap=iX)(az:dR C.P f)(hc:∀a W,a.tmps.size=C.N->a.defers=D->Fits E a->St G L H W->Calls C.P f iX W λ| .returned v,W'=>wpListIn (FW C.r) 0 C.P ops Q l (a.put o.dst v) W'| .panicked ch,W'=>Q (.panic ch) a W'| .outgrown,_=>LetsOut Q):OJ C ops Q (o::l) E D G L H:=by
 intro a W hN hD hF hS;unfold wpListIn;rw[if_pos (uW hF hw)];refine⟨λ_ _=>trivial,?_⟩;have hr:(execOp a.eval o).run C.P W= .ok (.enter f iX) W:=by
  have h2:(xs.toArray).map a.eval=vs.toArray:=by rw[yt,HN hF xs vs ha]
  simp only[execOp,ho,resolve,hF.ev hx,Deferred.ofValue,h2];simp[invoke,has,az iX W]
 rw[Oper.semAt_eq _ _ _ (by rw[ho];simp),hr,Oper.uponIn_enter];exact⟨by simp,CG.2 (hc a W hN hD hF hS)⟩
theorem call(az:dR C.P f)(hw:nq ops E g=some true)(hN:Nat.blt d C.N=true)(ha:iv E xs=some vs)(hc:∀W,St G L H W->Calls C.P f vs.toArray W (av W v))(k:OJ C ops Q l ((d,v)::E) D G L H):OJ C ops Q (⟨some d,.call ⟨.value (.func f),xs.toArray,ea⟩,ty,pos,aD,g⟩::l) E D G L H:=
 nZ rfl hw rfl ha z1 az λa W iu hD hF hS=>(hc W hS).mono (by
  rintro e W' ⟨rfl,hb⟩;exact k (a.put (some d) v) W' kO jW (hF.put _ lM) (hS.step hb))
theorem nu{α:Type}{v:α->Value}{Φ:World->α->World->Prop}(az:dR C.P f)(hw:nq ops E g=some true)(hN:Nat.blt d C.N=true)(ha:iv E xs=some vs)(hc:∀W,St G L H W->Calls C.P f vs.toArray W (cu W v (Φ W)))(k:∀W x w1,St G L H W->Below W.heap.size W w1->Φ W x w1->OJ C ops Q l ((d,v x)::E) D G (w1::L) H):OJ C ops Q (⟨some d,.call ⟨.value (.func f),xs.toArray,ea⟩,ty,pos,aD,g⟩::l) E D G L H:=
 nZ rfl hw rfl ha z1 az λa W iu hD hF hS=>(hc W hS).mono (by
  rintro e W' ⟨x,rfl,hb,hx⟩;exact k W x W' hS hb hx (a.put (some d) (v x)) W' kO jW (hF.put _ lM) (hS.step hb).snap)
end
/-! #### into a function, and out of it -/
def yu:Nat->List Value->Env
 |_,[]=>[]
 |i,v::vs=>(i,v)::yu (i+1) vs
theorem nhi:∀(vs:List Value) (i t:Nat) (v:Value),look (yu i vs) t=some v->i<=t/\vs[t-i]? =some v
 | [],i,t,v,h=>by simp[yu,look]at h
 |u::vs,i,t,v,h=>by
  simp only[yu,look]at h;by_cases e:i=t
  ·subst e;simp only[yr,rF]at h;subst h;simp
  simp only[yq e]at h;obtain⟨h1,h2⟩:=nhi vs (i+1) t v h;refine⟨by omega,?_⟩;have:t-i=(t-(i+1))+1:=by omega
  rw[this];simpa using h2
theorem UQ(vs:List Value)(n:Nat):Fits (yu 0 vs) ⟨vs.toArray++Array.replicate n undef,[]⟩:=by
 intro t v h;obtain⟨_,h⟩:=nhi vs 0 t v h;simp only[Nat.sub_zero]at h;have hlt:=(gD.1 h).1;simp only[Act.eval,Array.getD_eq_getD_getElem?];rw[PS (by simpa using hlt)];simp[h]
variable {R:Ending->World->Prop} {vs:List Value} {N f:Nat}
theorem nN{P:Program}{fn:Func}{c:Code}{w:World}(G:Gh)(H:ae)(hf:P.funcs[f]? =some fn)(hb:fn.body=some c)(hN:fn.ntmps=N)(hl:Nat.ble vs.length N=true)(hS:St G [w] H w)(h:CJ ⟨P,none,N⟩ c (bodyPost P fn R) (yu 0 vs) [] G [w] H):Calls P f vs.toArray w R:=by
 rw[<-CG (r:=none) (n:=0)];refine callsIn_of_wp hf hb trivial (h _ w ?_ rfl ?_ hS)
 ·exact UR
 exact UQ vs _
theorem u7(w:World):St Gh.no [w] [] w:=
 ⟨trivial,λ_ h=>h.elim,λ_ h=>h.elim,λw' hw=>by simp at hw;subst hw;exact aI.refl _ _,λ_ h=>by simp at h,λ_ _ _ _ h=>by simp at h,λ_ h=>by simp at h⟩
theorem enter{P:Program}{fn:Func}{c:Code}{w:World}(hf:P.funcs[f]? =some fn)(hb:fn.body=some c)(hN:fn.ntmps=N)(hl:Nat.ble vs.length N=true)(h:CJ ⟨P,none,N⟩ c (bodyPost P fn R) (yu 0 vs) [] Gh.no [w] []):Calls P f vs.toArray w R:=
 nN Gh.no [] hf hb hN hl (u7 w) h
section
variable {C:Cx} {fn:Func} {R:Ending->World->Prop} {E:Env} {G:Gh} {L:List World} {H:ae}
variable {W:World}
theorem St.belowNo{w:World}(h:St Gh.no L [] W)(hw:w∈L):Below w.heap.size w W:=
 (h.links w hw).below λk _ hx=>by simp[Gh.no]at hx
variable {v:Value}
theorem US{t:Nat}(hr:fn.results=#[.tmp t])(hv:look E t=some v)(h:∀W,St G L H W->R (.returned v) W):PJ C (bodyPost C.P fn R) .ret E [] G L H:=
 λa W _ hD hF hS=>⟨hD,v,by rw[results_tmp hr];exact congrArg (λu=>Result.ok u W) (hF t v hv),h W hS⟩
variable {u:Nat}
theorem afp{t:Nat}{v':Value}(hr:fn.results=#[.tmp t,.tmp u])(hv:look E t=some v)(hv':look E u=some v')(h:∀W,St G L H W->R (.returned (.tuple #[v,v'])) W):PJ C (bodyPost C.P fn R) .ret E [] G L H:=
 λa W _ hD hF hS=>⟨hD,.tuple #[v,v'],by
  rw[results_tmp2 hr];have h1:=hF t v hv;have h2:=hF u v' hv';simp only[Act.eval]at h1 h2;rw[h1,h2],h W hS⟩
theorem jG{α:Type}{t:Nat}{w:World}{u:α->Value}{Φ:α->World->Prop}(x:α)(hr:fn.results=#[.tmp t])(hv:look E t=some v)(hw:w∈L)(e:v=u x)(h:∀W,St Gh.no L [] W->Φ x W):PJ C (bodyPost C.P fn (cu w u Φ)) .ret E [] Gh.no L []:=
 US hr hv λW hS=>⟨x,by rw[e],hS.belowNo hw,h W hS⟩
theorem ax{t:Nat}{v':Value}{w:World}(hr:fn.results=#[.tmp t])(hv:look E t=some v)(hw:w∈L)(e:v=v'):PJ C (bodyPost C.P fn (av w v')) .ret E [] Gh.no L []:=
 US hr hv λ_ hS=>⟨by rw[e],hS.belowNo hw⟩
theorem nT{t:Nat}{v' v1 v2:Value}{w:World}(hr:fn.results=#[.tmp t,.tmp u])(hv:look E t=some v)(hv':look E u=some v')(hw:w∈L)(e:v=v1)(e':v'=v2):PJ C (bodyPost C.P fn (av w (.tuple #[v1,v2]))) .ret E [] Gh.no L []:=
 afp hr hv hv' λ_ hS=>⟨by rw[e,e'],hS.belowNo hw⟩
end
end Px
namespace Px
open Go Go.RowKit
section
variable {C:Cx} {Q:aG} {E:Env} {D:List Deferred} {G:Gh} {L:List World} {H:ae} {K:Act->World->Prop} {id j:Nat}
theorem PJ.retThen(h:PJ C Q .ret E D G L H):PJ C (Exit.then K Q) .ret E D G L H:=h
theorem PJ.retBlock(h:PJ C Q .ret E D G L H):PJ C (Exit.inBlock id Q) .ret E D G L H:=h
theorem PJ.norBlock(h:PJ C Q .normal E D G L H):PJ C (Exit.inBlock id Q) .normal E D G L H:=h
theorem PJ.exThen(h:PJ C Q (.exit id) E D G L H):PJ C (Exit.then K Q) (.exit id) E D G L H:=h
theorem PJ.exHit(h:PJ C Q .normal E D G L H):PJ C (Exit.inBlock id Q) (.exit id) E D G L H:=λa W hN hD hF hS=>by
 simp only[Exit.inBlock,if_true];exact h a W hN hD hF hS
theorem nkc(dc:Nat.beq id j=false)(h:PJ C Q (.exit id) E D G L H):PJ C (Exit.inBlock j Q) (.exit id) E D G L H:=λa W hN hD hF hS=>by
 have:¬id=j:=λe=>by subst e;rw[yr]at dc;cases dc
 simp only[Exit.inBlock,this,if_false];exact h a W hN hD hF hS
theorem nQg(p:Nat->Prop):∀n,p n->∃m,p m/\∀k,p k->m<=k:=by
 intro n;induction n using Nat.strongRecOn with
 |_ n ih=>
  intro hn;by_cases h:∃k,k<n/\p k
  ·obtain⟨k,hk,hp⟩:=h;exact ih k hk hp
  exact⟨n,hn,λk hk=>UT λhlt=>h ⟨k,hlt,hk⟩⟩
open Classical in
noncomputable def PT (p:Nat->Prop):Nat:=if h:∃m,p m/\∀k,p k->m<=k then Classical.choose h else 0
theorem nSe{p:Nat->Prop}(h:∃n,p n):p (PT p):=by
 obtain⟨n,hn⟩:=h;have h:=nQg p n hn;unfold PT;rw[dif_pos h];exact(Classical.choose_spec h).1
theorem nKf{p:Nat->Prop}{n:Nat}(hn:p n):PT p<=n:=by
 have h:=nQg p n hn;unfold PT;rw[dif_pos h];exact(Classical.choose_spec h).2 n hn
def JX {α:Type} (C:Cx) (D:List Deferred) (Ei:α->Env) (Hi:α->ae) (Li:α->List World) (Gi:α->Gh) (ok:α->Prop) (μ:α->Nat) (x:α) (a:Act) (W:World):Prop:=
 ∃x',ok x'/\μ x'<μ x/\a.tmps.size=C.N/\a.defers=D/\Fits (Ei x') a/\St (Gi x') (Li x') (Hi x') W
theorem CJ.loop{α:Type}{c:Code}(Ei:α->Env)(Hi:α->ae)(Li:α->List World)(Gi:α->Gh)(ok:α->Prop)(μ:α->Nat)(x0:α)(h0:ok x0)(hE:Sub (Ei x0) E)(hH:Hi x0=H)(hG:Gi x0=G)(hL:∀w∈Li x0,w∈L)(round:∀x,ok x->CJ C c (Exit.then (JX C D Ei Hi Li Gi ok μ x) Q) (Ei x) D (Gi x) (Li x) (Hi x)):CJ C (.loop c) Q E D G L H:=by
 intro a W hN hD hF hS;subst hH;subst hG
 let Inv:Act->World->Nat->Prop:=λa W m=>∃x,μ x=m/\ok x/\a.tmps.size=C.N/\a.defers=D/\Fits (Ei x) a/\St (Gi x) (Li x) (Hi x) W
 refine zJh ?_;exact znj
theorem PJ.again{α:Type}{Ei:α->Env}{Hi:α->ae}{Li:α->List World}{Gi:α->Gh}{ok:α->Prop}{μ:α->Nat}{x:α}(x':α)(h0:ok x')(hlt:μ x'<μ x)(hE:Sub (Ei x') E)(hH:Hi x'=H)(hG:Gi x'=G)(hL:∀w∈Li x',w∈L):PJ C (Exit.then (JX C D Ei Hi Li Gi ok μ x) Q) .normal E D G L H:=by
 intro a W hN hD hF hS;subst hH;subst hG;exact⟨x',h0,hlt,hN,hD,hE.fits hF,hS.lessL hL⟩
end
end Px
namespace Px
open Go Go.RowKit
abbrev ptr (b off:Nat):Value:=.pointer (some ⟨b,off,none⟩)
abbrev n9 (P:Program) (t n:Nat):Prop:=∀w:World,(Go.sizeOf t).run P w= .ok n w
abbrev fq (P:Program) (t:Nat) (b:Bool):Prop:=∀w:World,(isAgg t).run P w= .ok b w
abbrev uY (P:Program) (t:Nat) (v:Value):Prop:=∀w:World,(zeroValue t).run P w= .ok v w
theorem JY(b off n:Nat):(⟨b,off,none⟩:Addr).add n=⟨b,off+n,none⟩:=by
 unfold Addr.add;split<;>simp_all
variable {cs:Array Value} {b:Nat} {fr:Nat×Nat} {W:World}
theorem Dz{t:Nat}(h:W.heap[b]? =some (.cells cs t fr))(i:Nat):W.cell? ⟨b,i,none⟩=cs[i]? :=by
 simp[World.cell?,h]
variable {T:Nat} {v:Value}
theorem n7g{P:Program}{t off:Nat}(hA:fq P T false)(h:W.heap[b]? =some (.cells cs t fr))(hv:cs[off]? =some v):(loadVar T ⟨b,off,none⟩).run P W= .ok v W:=by
 have:W.cell? ⟨b,off,none⟩=some v:=by rw[Dz h,hv]
 simp[loadVar,hA,load,Sem.run,this]
theorem nqg{P:Program}{t off n:Nat}(h:W.heap[b]? =some (.cells cs t fr))(hn:off+n<=cs.size):(loadCells ⟨b,off,none⟩ n).run P W= .ok (cs.extract off (off+n)) W:=by
 have hl:(cs.extract off (off+n)).toList.length=n:=by simp;omega
 have:=run_loadCells_list (P:=P) W ⟨b,off,none⟩ (cs.extract off (off+n)).toList (λj v hv=>by
  rw[JY,Dz h];have hj:j<n:=by
   have:=(gD.1 hv).1;omega
  rw[xO,Array.getElem?_extract]at hv;simpa[show j<min (off+n) cs.size-off by omega]using hv)
 rw[hl]at this;rw[this,Array.toArray_toList]
def cut (cs:Array Value) (off n:Nat):Array Value:=((cs.toList.drop off).take n).toArray
theorem nGh(cs:Array Value)(off n:Nat):cs.extract off (off+n)=cut cs off n:=by
 apply Array.ext';rw[Array.toList_extract,cut,List.extract_eq_take_drop];simp
theorem nnh(cs:Array Value)(n:Nat)(h:cs.size=n):cut cs 0 n=cs:=by
 apply Array.ext';have:cs.toList.length=n:=by simpa using h
 simp[cut,<-this,-Array.length_toList]
theorem nPg{P:Program}{t off n:Nat}(hA:fq P T true)(hZ:n9 P T n)(h:W.heap[b]? =some (.cells cs t fr))(hn:off+n<=cs.size):(loadVar T ⟨b,off,none⟩).run P W= .ok (.agg (cut cs off n)) W:=by
 simp[loadVar,hA W,hZ W,nqg h hn,nGh]
def setCells (cs:Array Value) (off:Nat):List Value->Array Value
 | []=>cs
 |x::xs=>setCells (cs.setIfInBounds off x) (off+1) xs
theorem n7d(cs:Array Value)(off:Nat)(xs:List Value):(setCells cs off xs).size=cs.size:=by
 induction xs generalizing cs off with
 |nil=>rfl
 |cons x xs ih=>simp[setCells,ih]
def tU:Value->Bool
 | .agg _| .tuple _=>false
 |_=>true
def nV:List Value->Bool
 | []=>true
 |x::xs=>tU x&&nV xs
theorem nno{P:Program}{t off:Nat}(h:W.heap[b]? =some (.cells cs t (0,0)))(mL:off<cs.size)(h1:tU v=true):(store ⟨b,off,none⟩ v).run P W= .ok () (W.setCell ⟨b,off,none⟩ v):=by
 have hc:W.cell? ⟨b,off,none⟩=some cs[off]:=by rw[Dz h];simp[mL]
 have hf:W.frozen? ⟨b,off,none⟩=false:=by simp[World.frozen?,h]
 cases v<;>simp_all[store,Sem.run,tU]
theorem nah{t off:Nat}(v:Value)(h:W.heap[b]? =some (.cells cs t fr)):(W.setCell ⟨b,off,none⟩ v).heap[b]? =some (.cells (cs.setIfInBounds off v) t fr):=by
 have hlt:=(aM.1 h);simp only[World.setCell,Yx,if_true,h];simp
theorem nCg(W:World)(b off:Nat)(v:Value):aI (· =b) W (W.setCell ⟨b,off,none⟩ v):=
 ⟨rfl,rfl,rfl,by simp[World.setCell],λk _ hk=>by
  simp only[World.setCell,Yx];rw[if_neg (λe=>hk e.symm)]⟩
theorem Yy{P:Program}{b t off:Nat}:∀(xs:List Value) (i:Nat) (cs:Array Value) (W:World),W.heap[b]? =some (.cells cs t (0,0))->off+i+xs.length<=cs.size->nV xs=true->∃W',(storeCells ⟨b,off,none⟩ xs i).run P W= .ok () W'/\aI (· =b) W W'/\W'.heap[b]? =some (.cells (setCells cs (off+i) xs) t (0,0))
 | [],i,cs,W,h,_,_=>⟨W,by simp[storeCells],aI.refl _ _,h⟩
 |x::xs,i,cs,W,h,hn,h1=>by
  simp only[nV,gb]at h1;simp only[dW]at hn;have hs:=nno (P:=P) h (show off+i<cs.size by omega) h1.1;obtain⟨W',hr,hk,hb⟩:=Yy (P:=P) (off:=off) xs (i+1) (cs.setIfInBounds (off+i) x) (W.setCell ⟨b,off+i,none⟩ x) (nah x h) jZ h1.2;refine⟨W',?_,(nCg W b (off+i) x).trans hk,?_⟩
  ·unfold storeCells;rw[Sem.run_bind,JY,hs];simpa using hr
  rw[hb,setCells];rfl
theorem n1l{P:Program}{t off n:Nat}(hZ:n9 P T n)(hv:v.cells.size=n)(h:W.heap[b]? =some (.cells cs t (0,0)))(hn:off+n<=cs.size)(h1:nV v.cells.toList=true):∃W',(storeVar T ⟨b,off,none⟩ v).run P W= .ok () W'/\aI (· =b) W W'/\W'.heap[b]? =some (.cells (setCells cs off v.cells.toList) t (0,0)):=by
 obtain⟨W',hr,hk,hb⟩:=Yy (P:=P) (off:=off) v.cells.toList 0 cs W h (by simp[hv];omega) h1;exact⟨W',by simp[storeVar,hZ W,hv,hr],hk,hb⟩
section
variable {C:Cx} {Q:aG} {E:Env} {D:List Deferred} {G:Gh} {L:List World} {H:ae} {ops:Array Oper} {l:List Oper}
variable {d T ty:Nat} {pos:String} {aD:Array Edge} {g:Option (Nat×Bool)} {x y:Operand}
variable {op:Op}
theorem pw(hnd:∀c,op≠ .defer c)(hw:nq ops E g=some true)(hN:Nat.blt d C.N=true)(h:∀a W,Fits E a->St G L H W->∃v W' L' H',(execOp a.eval ⟨some d,op,ty,pos,aD,g⟩).run C.P W= .ok (.value v) W'/\St G L' H' W'/\OJ C ops Q l ((d,v)::E) D G L' H'):OJ C ops Q (⟨some d,op,ty,pos,aD,g⟩::l) E D G L H:=by
 intro a W iu hD hF hS;obtain⟨v,W',L',H',hr,fZ,k⟩:=h a W hF hS;unfold wpListIn;rw[if_pos (uW hF hw)];refine⟨λ_ _=>trivial,?_⟩;rw[Oper.semAt_eq _ _ _ hnd,hr,Oper.uponIn_value];exact k (a.put (some d) v) W' kO jW (hF.put _ lM) fZ
theorem St.offNew(h:St G L H W):bE H W.heap.size:=bE.of_mem λhm=>by
 obtain⟨p,hp,e⟩:=bU.1 hm;have:=h.lt p hp;omega
theorem St.mNew(h:St G L H W):¬G.X W.heap.size:=λhm=>by have:=h.xlt _ hm;omega
theorem naj{P:Program}{a:Act}(hx:a.eval x=v):(execOp a.eval ⟨some d,.box T x,ty,pos,aD,g⟩).run P W= .ok (.value (ptr W.heap.size 0)) (W.alloc (.cells v.cells T (0,0))):=by
 simp[execOp,hx,Instr.box,newVar,newRow,newObj,Sem.run]
theorem nWo{P:Program}{z:Value}{a:Act}(hz:uY P T z):(execOp a.eval ⟨some d,.alloc T,ty,pos,aD,g⟩).run P W= .ok (.value (ptr W.heap.size 0)) (W.alloc (.cells z.cells T (0,0))):=by
 simp[execOp,Instr.alloc,hz W,newVar,newRow,newObj,Sem.run]
theorem UU(hw:nq ops E g=some true)(hN:Nat.blt d C.N=true)(hx:ev E x=some v)(k:∀(b:Nat) (w1:World),w1.heap[b]? =some (.cells v.cells T (0,0))->ad L b->bE H b->¬G.X b->w1.heap.size=b+1->OJ C ops Q l ((d,ptr b 0)::E) D G (w1::L) H):OJ C ops Q (⟨some d,.box T x,ty,pos,aD,g⟩::l) E D G L H:=
 pw z1 hw hN λ_ W hF hS=>⟨_,_,_,_,naj (hF.ev hx),(hS.step (TI W _)).snap,
  k W.heap.size _ (heap_alloc_new W _) hS.sizes hS.offNew hS.mNew z1⟩
theorem QQ(hw:nq ops E g=some true)(hN:Nat.blt d C.N=true)(hx:ev E x=some v)(k:∀(b:Nat),ad L b->bE H b->OJ C ops Q l ((d,ptr b 0)::E) D G L ((b,.cells v.cells T (0,0))::H)):OJ C ops Q (⟨some d,.box T x,ty,pos,aD,g⟩::l) E D G L H:=
 pw z1 hw hN λ_ W hF hS=>⟨_,_,_,_,naj (hF.ev hx),hS.alloc _,k W.heap.size hS.sizes hS.offNew⟩
theorem aU{z:Value}(hz:uY C.P T z)(hw:nq ops E g=some true)(hN:Nat.blt d C.N=true)(k:∀(b:Nat),ad L b->bE H b->OJ C ops Q l ((d,ptr b 0)::E) D G L ((b,.cells z.cells T (0,0))::H)):OJ C ops Q (⟨some d,.alloc T,ty,pos,aD,g⟩::l) E D G L H:=
 pw z1 hw hN λ_ W _ hS=>⟨_,_,_,_,nWo hz,hS.alloc _,k W.heap.size hS.sizes hS.offNew⟩
variable {f:Nat}
theorem ak{off n:Nat}{fs:Array Field}{fi:Field}(hU:C.P.underlying T=some (.struct fs))(hf:fs[f]? =some fi)(hZ:n9 C.P fi.type (n+1))(hx:ev E x=some (ptr b off)):RV C G L H E (.fieldAddr T x f) (ptr b (off+fi.offset)):=λd ty pos aD g a W hF hS=>by
 exact(λa W hF _=>by
  simp[execOp,hF.ev hx,Instr.fieldAt,run_underlying hU,hf,Instr.sureAddr,fieldPlace,hZ W,JY]:∀(a:Act) (W:World),Fits E a->St G L H W->(execOp a.eval ⟨some d,.fieldAddr T x f,ty,pos,aD,g⟩).run C.P W= .ok (.value (ptr b (off+fi.offset))) W) a W hF hS
variable {K:IntKind} {e:Nat}
theorem kU{off len n:Nat}{i:Int}(hU:C.P.underlying T=some (.array len e))(hZ:n9 C.P e n)(hx:ev E x=some (ptr b off))(hy:ev E y=some (.int K i))(h0:0<=i)(h1:i<len):RV C G L H E (.indexAddr T x y) (ptr b (off+i.toNat*n)):=λd ty pos aD g a W hF hS=>by
 exact(λa W hF _=>by
  simp[execOp,hF.ev hx,hF.ev hy,Instr.indexAt,asIntOf,run_underlying hU,Instr.sureAddr,h0,h1,hZ W,JY]:∀(a:Act) (W:World),Fits E a->St G L H W->(execOp a.eval ⟨some d,.indexAddr T x y,ty,pos,aD,g⟩).run C.P W= .ok (.value (ptr b (off+i.toNat*n))) W) a W hF hS
theorem cx{off len cap n:Nat}{i:Int}(hU:C.P.underlying T=some (.slice e))(hZ:n9 C.P e n)(hx:ev E x=some (.slice (some ⟨b,off,none⟩) len cap))(hy:ev E y=some (.int K i))(h0:0<=i)(h1:i<len):RV C G L H E (.indexAddr T x y) (ptr b (off+i.toNat*n)):=λd ty pos aD g a W hF hS=>by
 exact(λa W hF _=>by
  simp[execOp,hF.ev hx,hF.ev hy,Instr.indexAt,asIntOf,run_underlying hU,h0,h1,hZ W,JY]:∀(a:Act) (W:World),Fits E a->St G L H W->(execOp a.eval ⟨some d,.indexAddr T x y,ty,pos,aD,g⟩).run C.P W= .ok (.value (ptr b (off+i.toNat*n))) W) a W hF hS
variable {vs:List Value}
theorem UW{fn:Fn}{xs:List Operand}(ha:iv E xs=some vs):RV C G L H E (.makeFunc fn #[] xs.toArray) (.func fn #[] vs.toArray):=λd ty pos aD g a W hF _=>by
 have h2:(xs.toArray).map a.eval=vs.toArray:=by rw[yt,HN hF xs vs ha]
 simp[execOp,Instr.makeFunc,h2]
/-! #### loads -/
theorem nak{P:Program}{t off:Nat}{a:Act}(hA:fq P T false)(hx:a.eval x=ptr b off)(h:W.heap[b]? =some (.cells cs t fr))(hv:cs[off]? =some v):(execOp a.eval ⟨some d,.load T x,ty,pos,aD,g⟩).run P W= .ok (.value v) W:=by
 simp[execOp,hx,Instr.loadAt,Instr.sureAddr,n7g hA h hv]
theorem nSj{P:Program}{t off n:Nat}{a:Act}(hA:fq P T true)(hZ:n9 P T n)(hx:a.eval x=ptr b off)(h:W.heap[b]? =some (.cells cs t fr))(hn:off+n<=cs.size):(execOp a.eval ⟨some d,.load T x,ty,pos,aD,g⟩).run P W= .ok (.value (.agg (cut cs off n))) W:=by
 simp[execOp,hx,Instr.loadAt,Instr.sureAddr,nPg hA hZ h hn]
variable {w1:World}
theorem aa{off t:Nat}(hA:fq C.P T false)(hx:ev E x=some (ptr b off))(hm:w1∈L)(hb:w1.heap[b]? =some (.cells cs t fr))(hG:¬G.X b)(hO:bE H b)(hv:cs[off]? =some v):RV C G L H E (.load T x) (v):=λd ty pos aD g a W hF hS=>by
 exact(λ_ _ hF hS=>nak hA (hF.ev hx) (hS.old hm hb hG hO) hv:∀(a:Act) (W:World),Fits E a->St G L H W->(execOp a.eval ⟨some d,.load T x,ty,pos,aD,g⟩).run C.P W= .ok (.value (v)) W) a W hF hS
theorem ag{off t n:Nat}(hA:fq C.P T true)(hZ:n9 C.P T n)(hx:ev E x=some (ptr b off))(hm:w1∈L)(hb:w1.heap[b]? =some (.cells cs t fr))(hG:¬G.X b)(hO:bE H b)(hn:off+n<=cs.size):RV C G L H E (.load T x) (.agg (cut cs off n)):=λd ty pos aD g a W hF hS=>by
 exact(λ_ _ hF hS=>nSj hA hZ (hF.ev hx) (hS.old hm hb hG hO) hn:∀(a:Act) (W:World),Fits E a->St G L H W->(execOp a.eval ⟨some d,.load T x,ty,pos,aD,g⟩).run C.P W= .ok (.value (.agg (cut cs off n))) W) a W hF hS
variable {i:Nat}
theorem aO{off t:Nat}(hi:H[i]? =some (b,.cells cs t fr))(hA:fq C.P T false)(hx:ev E x=some (ptr b off))(hv:cs[off]? =some v):RV C G L H E (.load T x) (v):=λd ty pos aD g a W hF hS=>by
 exact(λ_ _ hF hS=>nak hA (hF.ev hx) (hS.own _ (cC hi)) hv:∀(a:Act) (W:World),Fits E a->St G L H W->(execOp a.eval ⟨some d,.load T x,ty,pos,aD,g⟩).run C.P W= .ok (.value (v)) W) a W hF hS
theorem de{off t n:Nat}(hi:H[i]? =some (b,.cells cs t fr))(hA:fq C.P T true)(hZ:n9 C.P T n)(hx:ev E x=some (ptr b off))(hn:off+n<=cs.size):RV C G L H E (.load T x) (.agg (cut cs off n)):=λd ty pos aD g a W hF hS=>by
 exact(λ_ _ hF hS=>nSj hA hZ (hF.ev hx) (hS.own _ (cC hi)) hn:∀(a:Act) (W:World),Fits E a->St G L H W->(execOp a.eval ⟨some d,.load T x,ty,pos,aD,g⟩).run C.P W= .ok (.value (.agg (cut cs off n))) W) a W hF hS
theorem af{t n:Nat}(hA:fq C.P T true)(hZ:n9 C.P T n)(hx:ev E x=some (ptr b 0))(hm:w1∈L)(hb:w1.heap[b]? =some (.cells cs t fr))(hG:¬G.X b)(hO:bE H b)(hn:cs.size=n):RV C G L H E (.load T x) (.agg cs):=by
 have:=ag (E:=E) (C:=C) (H:=H) hA hZ hx hm hb hG hO zM;rw[nnh cs n hn]at this;exact this
theorem aP{t n:Nat}(hi:H[i]? =some (b,.cells cs t fr))(hA:fq C.P T true)(hZ:n9 C.P T n)(hx:ev E x=some (ptr b 0))(hn:cs.size=n):RV C G L H E (.load T x) (.agg cs):=by
 have:=de (E:=E) (C:=C) (H:=H) (L:=L) (G:=G) hi hA hZ hx zM;rw[nnh cs n hn]at this;exact this
theorem kS{off t n:Nat}(hi:H[i]? =some (b,.cells cs t (0,0)))(hZ:n9 C.P T n)(hw:nq ops E g=some true)(hx:ev E x=some (ptr b off))(hy:ev E y=some v)(hv:v.cells.size=n)(hn:off+n<=cs.size)(h1:nV v.cells.toList=true)(k:OJ C ops Q l E D G L (H.set i (b,.cells (setCells cs off v.cells.toList) t (0,0)))):OJ C ops Q (⟨none,.store T x y,ty,pos,aD,g⟩::l) E D G L H:=
 HL rfl z1 hw (λa W hF hS=>by
  have hb:=hS.own _ (cC hi);obtain⟨W',hr,hk,eI⟩:=n1l (P:=C.P) (off:=off) hZ hv hb hn h1;refine⟨.skip,W',.inl rfl,?_,hS.put hi hk eI⟩;simp[execOp,hF.ev hx,hF.ev hy,Instr.storeAt,Instr.sureAddr,hr]) k
end
variable {aD:Array Edge} {ops:Array Oper} {C:Cx} {E:Env} {G:Gh} {H:ae} {D:List Deferred} {L:List World} {ty:Nat} {op:Op} {pos:String}
theorem rvA{Q:aG}{l:List Oper}{d:Nat}{g:Option (Nat×Bool)}(hnd:nth op=true)(hw:nq ops E g=some true)(hN:Nat.blt d C.N=true)(k:OJ C ops Q l ((d,v)::E) D G L H)(h:RV C G L H E op v:=by first|(first|((with_reducible show RV _ _ _ _ _ (.move _) _);exact fW zY)|((with_reducible show RV _ _ _ _ _ (.assign _) _);exact kg zY)|((with_reducible show RV _ _ _ _ _ (.fieldAddr _ _ _) _);exact ak bM zY gL zY)|((with_reducible show RV _ _ _ _ _ (.pick _ _ _) _);first|exact vY zY zY|exact CH zY zY)|((with_reducible show RV _ _ _ _ _ (.extract _ _) _);exact gE zY zY)|((with_reducible show RV _ _ _ _ _ (.binOp .add _ _ _ _) _);exact ql zY zY zM zM)|((with_reducible show RV _ _ _ _ _ (.call _) _);first|exact iK bM zY|exact NG bM zY))|(first|((with_reducible show RV _ _ _ _ _ (.unOp .not _ _) _);exact dI zY)|((with_reducible show RV _ _ _ _ _ (.binOp .lss _ _ _ _) _);exact mR zY zY)|((with_reducible show RV _ _ _ _ _ (.load _ _) _);first|exact aO (i:=0) zY kF zY zY|exact aP (i:=0) zY kF gL zY zY|exact aP (i:=1) zY kF gL zY zY|exact aO (i:=1) zY kF zY zY|exact afw kF zY UX UY UX UZ zY)|((with_reducible show RV _ _ _ _ _ (.indexAddr _ _ _) _);first|exact cx bM gL zY zY zM zM|exact kU bM gL zY zY zM zM)|((with_reducible show RV _ _ _ _ _ (.binOp .geq _ _ _ _) _);exact pW zY zY)|((with_reducible show RV _ _ _ _ _ (.binOp .eql _ _ _ _) _);first|exact dH zY zY|exact Kv zY zY)|((with_reducible show RV _ _ _ _ _ (.makeFunc _ _ _) _);exact UW zY))|(first|((with_reducible show RV _ _ _ _ _ (.binOp .neq _ _ _ _) _);exact cy zY zY)|((with_reducible show RV _ _ _ _ _ (.binOp .gtr _ _ _ _) _);exact pV zY zY)|((with_reducible show RV _ _ _ _ _ (.nilCheck _) _);exact CN zY)|((with_reducible show RV _ _ _ _ _ (.convert _ _ _) _);first|exact tG bM bM zY zM zM|exact tO bM bM zY zM zM)|((with_reducible show RV _ _ _ _ _ (.binOp .sub _ _ _ _) _);exact gT zY zY zM zM)|((with_reducible show RV _ _ _ _ _ (.binOp .leq _ _ _ _) _);exact sT zY zY)|((with_reducible show RV _ _ _ _ _ (.build _ _) _);exact qu bM sU gL zY zY))|(first|((with_reducible show RV _ _ _ _ _ (.binOp .mul _ _ _ _) _);exact ND zY zY zM zM))):OJ C ops Q (⟨some d,op,ty,pos,aD,g⟩::l) E D G L H:=rv hnd hw hN h k
variable {x:Operand} {w1:World}
theorem afw{off t:Nat}(hA:fq C.P T false)(hx:ev E x=some (ptr b off))(hb:w1.heap[b]? =some (.cells cs t fr))(hm:w1∈L)(hG:¬G.X b)(hO:bE H b)(hv:cs[off]? =some v):RV C G L H E (.load T x) v:=aa hA hx hm hb hG hO hv
theorem rq{Q:aG}{l:List Oper}{d:Nat}{g:Option (Nat×Bool)}(v':Value)(h:RV C G L H E op v)(e:v=v')(k:OJ C ops Q l ((d,v')::E) D G L H)(hnd:nth op=true:=by exact rfl)(hw:nq ops E g=some true:=by exact rfl)(hN:Nat.blt d C.N=true:=by exact rfl):OJ C ops Q (⟨some d,op,ty,pos,aD,g⟩::l) E D G L H:=rv hnd hw hN (RV.re h e) k
theorem rr{Q:aG}{l:List Oper}{d:Nat}{g:Option (Nat×Bool)}(v':Value)(h:RV C G L H E op v)(k:OJ C ops Q l ((d,v')::E) D G L H)(e:v=v':=by exact rfl)(hnd:nth op=true:=by exact rfl)(hw:nq ops E g=some true:=by exact rfl)(hN:Nat.blt d C.N=true:=by exact rfl):OJ C ops Q (⟨some d,op,ty,pos,aD,g⟩::l) E D G L H:=rv hnd hw hN (RV.re h e) k
abbrev yv (l:Nat):Value:=.func (.yield l) #[] #[]
def JZ (P:Program) (l:Nat) (vs:Array Value) (W:World) (Φ:Bool->World->Prop):Prop:=
 ∃fn tmps assign body,(Instr.yield l vs).run P W= .ok (.round l fn tmps assign body) W/\
  RoundIn (FW none) 0 P l fn tmps assign body W (λe W'=>∃b,e= .returned (.bool b)/\Φ b W')
variable {assign body:Code} {R:Ending->World->Prop}
theorem nQi{r:Option Nat}{n:Nat}{P:Program}{l:Nat}{f:FuncId}{tmps:Array Value}{w:World}:RoundIn (FW none) 0 P l f tmps assign body w R->RoundIn (FW r) n P l f tmps assign body w R:=by
 unfold RoundIn;rw[nDg,nDg];exact λh=>⟨trivial,λc cs _=>h.2 c cs (ntn _ _)⟩
variable {W':World}
theorem St.yield{G':Gh}(h:St G L H W)(hk:aI G.M W W')(hX:G'.X=G.X)(hV:G'.V=G.V)(hR:G'.R W'):St G' L H W' where
 ghost:=hR
 vlt:=λk hv=>kJ (h.vlt k (hV▸hv)) hk.size
 xlt:=λk hv=>kJ (h.xlt k (hX▸hv)) hk.size
 links:=λw hw=>by rw[hX];exact(h.links w hw).trans (hk.mono λk _ hm=>.inl (G.subX k hm))
 own:=λp hp=>by rw[hk.block p.1 (h.lt p hp) (λhm=>h.apart p hp (G.sub _ hm))];exact h.own p hp
 nodup:=h.nodup
 apart:=λp hp=>by rw[hV];exact h.apart p hp
section
variable {C:Cx} {Q:aG} {E:Env} {D:List Deferred} {G:Gh} {L:List World} {H:ae} {ops:Array Oper} {l:List Oper}
variable {d ty:Nat} {pos:String} {aD:Array Edge} {g:Option (Nat×Bool)} {x:Operand} {xs:List Operand} {vs:List Value} {ea:Array Nat}
theorem yld{y:Nat}(G1 G2:Gh)(hw:nq ops E g=some true)(hN:Nat.blt d C.N=true)(hx:ev E x=some (yv y))(ha:iv E xs=some vs)(hy:∀W,St G L H W->JZ C.P y vs.toArray W (λb W'=>aI G.M W W'/\(if b then G1.R W' else G2.R W')))(m1:G1.X=G.X)(v1:G1.V=G.V)(m2:G2.X=G.X)(v2:G2.V=G.V)(k1:OJ C ops Q l ((d,.bool true)::E) D G1 L H)(k2:OJ C ops Q l ((d,.bool false)::E) D G2 L H):OJ C ops Q (⟨some d,.call ⟨.value x,xs.toArray,ea⟩,ty,pos,aD,g⟩::l) E D G L H:=by
 intro a W iu hD hF hS;obtain⟨fn,tmps,assign,body,gy,gz⟩:=hy W hS;unfold wpListIn;rw[if_pos (uW hF hw)];refine⟨λ_ _=>trivial,?_⟩;have hr:(execOp a.eval ⟨some d,.call ⟨.value x,xs.toArray,ea⟩,ty,pos,aD,g⟩).run C.P W= .ok (.round y fn tmps assign body) W:=by
  exact ztk
 rw[Oper.semAt_eq _ _ _ z1,hr,Oper.uponIn_round];refine⟨by simp,(nQi gz).mono ?_⟩;rintro e W' ⟨b,rfl,hk,hb⟩;have bT:=λv=>hF.put (d:=d) v lM;cases b with
 |true=>exact k1 (a.put (some d) (.bool true)) W' kO jW (bT _) (hS.yield hk m1 v1 hb)
 |false=>exact k2 (a.put (some d) (.bool false)) W' kO jW (bT _) (hS.yield hk m2 v2 hb)
end
def eA (V:Nat->Prop) (R:World->Prop):Prop:=
 ∀W W':World,R W->W'.os=W.os->W'.tape=W.tape->W'.output=W.output->W.heap.size<=W'.heap.size->(∀k,V k->W'.heap[k]? =W.heap[k]?)->R W'
def Ow (P:Program) (f:Nat) (cap:List Value) {α:Type} (enc:α->List Value) (xs:List α) (MI RO:Nat->Prop) (W:World):Prop:=
 ∀(l:Nat) (M:Nat->Prop) (I:List α->World->Prop) (X:World->Prop),
  (∀k,M k->k<W.heap.size/\¬MI k/\¬RO k)->
  (∀pre,eA (λk=>k<W.heap.size/\¬MI k) (I pre))->eA (λk=>k<W.heap.size/\¬MI k) X->
  (∀pre x W1,(pre++[x]) <+:xs->I pre W1->JZ P l (enc x).toArray W1 (λb W2=>aI M W1 W2/\(if b then I (pre++[x]) W2 else X W2)))->
  I [] W->
  Calls P f (yv l::cap).toArray W (λe W'=>(∃v,e= .returned v)/\aI (λk=>M k\/MI k) W W'/\(I xs W'\/X W'))
/-! #### the consumer -/
/-- the memory of a loop over an iterator: own blocks, the loop's record, and what else was laid -/
abbrev book (Hc:ae) (l:Nat) (rec:Loop) (bx:ae):ae:=Hc++(l,.loop rec)::bx
def rI {α:Type} (G:Gh) (L:List World) (Inv:List α->ae->Prop) (l:Nat) (rec:Loop) (bx:ae) (pre:List α) (W:World):Prop:=
 ∃Hc,Inv pre Hc/\St G L (book Hc l rec bx) W
def rX (G:Gh) (L:List World) (bX:Code->ae->Prop) (l:Nat) (rec:Loop) (bx:ae) (W:World):Prop:=
 ∃c Hc,bX c Hc/\St G L (book Hc l {rec with state:=.done,pending:=some c} bx) W
def Yz {α:Type} (P:Program) (G:Gh) (L:List World) (W1:World) (M:Nat->Prop) (Inv:List α->ae->Prop) (bX:Code->ae->Prop) (l:Nat) (rec:Loop) (bx:ae) (pre:List α):aG:=
 roundPost P l (λe W'=>∃b,e= .returned (.bool b)/\aI M W1 W'/\(if b then rI G L Inv l rec bx pre W' else rX G L bX l rec bx W'))
theorem HO(W:World)(b:Nat)(o:Obj):aI (· =b) W (W.putObj b o):=
 ⟨rfl,rfl,rfl,by simp,λ_ _ hk=>World.putObj_heap_other hk⟩
theorem HP(Hc:ae)(l:Nat)(rec:Loop)(bx:ae):(book Hc l rec bx)[Hc.length]? =some (l,.loop rec):=by simp[book]
theorem CP(Hc:ae)(l:Nat)(rec ik:Loop)(bx:ae):(book Hc l rec bx).set Hc.length (l,.loop ik)=book Hc l ik bx:=by simp[book]
variable {rec:Loop}
theorem St.loop{Hc bx:ae}{l:Nat}(h:St G L (book Hc l rec bx) W)(ik:Loop):St G L (book Hc l ik bx) (W.putObj l (.loop ik)):=by
 have hl:l<W.heap.size:=h.lt (l,.loop rec) z1;have:=h.put (HP Hc l rec bx) (HO W l (.loop ik)) (World.putObj_heap_same hl);rwa[CP]at this
theorem St.loopAt{Hc bx:ae}{l:Nat}(h:St G L (book Hc l rec bx) W):W.heap[l]? =some (.loop rec):=h.own (l,.loop rec) z1
section
variable {C:Cx} {α:Type} {E:Env} {D:List Deferred} {G:Gh} {L:List World} {Hc bx:ae} {W1:World} {Inv:List α->ae->Prop} {bX:Code->ae->Prop} {l:Nat} {rec ik:Loop} {pre:List α} {M:Nat->Prop}
theorem Pb{Qb:aG}{K:aG}(hs:rec.state= .ready)(h:CJ C body Qb E D G L (book Hc l {rec with state:=.busy} bx)):PJ C (Exit.then (λa W=>∃W2,(Instr.beginRound l).run C.P W= .ok () W2/\body.wpIn (FW C.r) 0 C.P Qb a W2) K) .normal E D G L (book Hc l rec bx):=by
 intro a W hN hD hF hS;exact⟨_,run_beginRound hS.loopAt hs,h a _ hN hD hF (hS.loop _)⟩
theorem VD(hM:∀k,(G.X k\/k∈(book Hc l rec bx).map (·.1))->M k)(hr:{ik with state:=.ready,pending:=none}=rec)(hI:Inv pre Hc):PJ C (Yz C.P G L W1 M Inv bX l rec bx pre) .normal E D G (W1::L) (book Hc l ik bx):=by
 intro a W hN hD hF hS;refine⟨_,_,run_endRound none hS.loopAt,true,rfl,?_,?_⟩
 ·refine((hS.loop _).links W1 A0).mono λk _ hk=>hM k ?_;simpa[book]using hk
 refine⟨Hc,hI,?_⟩;have:=(hS.loop {ik with state:=.ready,pending:=none}).lessL (L':=L) (λw hw=>.tail _ hw);rw[hr]at this;simpa[hr]using this
end
theorem YA{zs:List (Nat×Value)}:∀{E:Env} {a:Act},Fits E a->(∀p∈zs,p.1<a.tmps.size)->(zs.foldl (λt (p:Nat×Value)=>t.setIfInBounds p.1 p.2) a.tmps).size=a.tmps.size/\Fits (zs.reverse++E) ⟨zs.foldl (λt (p:Nat×Value)=>t.setIfInBounds p.1 p.2) a.tmps,[]⟩:=by
 induction zs with
 |nil=>intro E a h _;exact⟨rfl,λt v hv=>h t v hv⟩
 |cons p zs ih=>
  intro E a h hp;have h1:=h.put p.2 (hp p z1);obtain⟨i1,i2⟩:=ih (E:=(p.1,p.2)::E) (a:=a.put (some p.1) p.2) h1 (λq hq=>by simp[Act.put];exact hp q (by simp[hq]));refine⟨by simpa[Act.put]using i1,?_⟩;simpa[Act.put]using i2
variable {f:Nat} {MI RO:Nat->Prop}
theorem n0n{B:World->Prop}{Q:aG}{g:Operand}{ps:Array Tmp}{cap:List Value}{α:Type}{enc:α->List Value}{xs:List α}(hg:ev E g=some (.func (.func f) #[] cap.toArray))(az:dR C.P f)(o3:∀W W2,St G L H W->B W->Below W.heap.size W W2->Ow C.P f cap enc xs MI RO W2)(xC:∀W,St G L H W->(∀k,MI k->k<W.heap.size/\ad L k/\k∉H.map (·.1)/\¬G.V k/\¬G.X k))(my:∀W,St G L H W->(∀k,RO k->k<W.heap.size/\k∉H.map (·.1)/\¬G.X k))(pT:∀x,(enc x).length=ps.size)(Inv:List α->ae->Prop)(bX:Code->ae->Prop)(h0:Inv [] H)(pX:∀pre Hc,Inv pre Hc->Hc.map (·.1)=H.map (·.1))(oh:∀c Hc,bX c Hc->Hc.map (·.1)=H.map (·.1))(tF:∀p∈ps.toList,p<C.N)(NH:∀(a:Act) W fn,St G L H W->∃l mark bx W1 rec,(Instr.enterLoop fn a.tmps ps assign body C.r).run C.P W= .ok (l,mark) W1/\rec.state= .ready/\rec.pending=none/\rec.fn=fn/\rec.tmps=a.tmps/\rec.params=ps/\rec.assign=assign/\rec.body=body/\St G L (book H l rec bx) W1/\Below W.heap.size W W1/\(∀p∈(l,.loop rec)::bx,W.heap.size<=p.1)/\(∀(pre:List α) (x:α) (Hc:ae) (Wy:World),(pre++[x]) <+:xs->Inv pre Hc->(∀a1,a1.tmps.size=C.N->a1.defers=[]->Fits ((ps.toList.zip (enc x)).reverse++E) a1->St G (Wy::L) (book Hc l rec bx) Wy->assign.wpIn (FW (some l)) 0 C.P (Exit.then (λa₁ w₁=>∃w₂,(Instr.beginRound l).run C.P w₁= .ok () w₂/\body.wpIn (FW (some l)) 0 C.P (Yz C.P G L Wy (λk=>G.X k\/k∈(book H l rec bx).map (·.1)) Inv bX l rec bx (pre++[x])) a₁ w₂) (λ_ _ _=>False)) a1 Wy))/\(∀uZ Hc,Inv xs Hc->PJ C Q .normal E (mark++D) G L (book Hc l uZ bx))/\(∀uZ c Hc,bX c Hc->CJ C c Q E (mark++D) G L (book Hc l uZ bx))):∀a W,a.tmps.size=C.N->a.defers=D->Fits E a->St G L H W->B W->(Code.rangeFunc g ps assign body).wpIn (FW C.r) 0 C.P Q a W:=by
 intro a W hN hD hF hS NI;refine wpIn_rangeFunc ?_;intro fn _;obtain⟨l,mark,bx,W1,rec,he,jX,ov,bG,hrt,NJ,hra,hrb,mm,NK,afx,gz,U0,U1⟩:=NH a W fn hS;refine⟨l,mark,W1,{target:=.fn (.func f) cap.toArray,args:=#[yv l]},W1,f,(yv l::cap).toArray,W1,he,?_,λ_ _=>trivial,?_,by simp,?_⟩
 ·simp[resolve,hF.ev hg,Deferred.ofValue];rfl
 ·simp[invoke,az _ W1]
 refine CG.2 ?_;have lx:∀k,MI k->k<W.heap.size/\ad L k/\k∉H.map (·.1)/\¬G.V k/\¬G.X k:=xC W hS;have hbk:∀k,k∈(book H l rec bx).map (·.1)->k<W1.heap.size:=λk hk=>by
  obtain⟨p,hp,rfl⟩:=bU.1 hk;exact mm.lt p hp
 have jb:∀k,k∈(book H l rec bx).map (·.1)->¬MI k:=λk hk hm=>by
  obtain⟨hlt,_,hH,_,_⟩:=lx k hm;exact zHk
 have Ho:∀k,k∈(book H l rec bx).map (·.1)->¬RO k:=λk hk hm=>by
  obtain⟨hlt,hH,_⟩:=my W hS k hm;exact zHk
 have bO:∀{Hc:ae} {r2:Loop},Hc.map (·.1)=H.map (·.1)->(book Hc l r2 bx).map (·.1)=(book H l rec bx).map (·.1):=by
  intro Hc r2 h;simp[book,h]
 have stab:∀{Hb:ae},Hb.map (·.1)=(book H l rec bx).map (·.1)->eA (λk=>k<W1.heap.size/\¬MI k) (St G L Hb):=by
  intro Hb hk A B hA ho ht oX hs ee;have NL:∀w∈L,∀k,k<w.heap.size->k<W1.heap.size/\¬MI k:=λw hw k hk=>by
   refine⟨kJ hk (mm.links w hw).size,λhm=>?_⟩;have:=(lx k hm).2.1.mem w hw;omega
  refine⟨G.stab A B hA.ghost ho ht oX hs (λk hv=>ee k ⟨mm.vlt k hv,λhm=>(lx k hm).2.2.2.1 hv⟩),λk hv=>kJ (hA.vlt k hv) hs,λk hv=>kJ (hA.xlt k hv) hs,λw hw=>?_,λp hp=>?_,hA.nodup,hA.apart⟩
  ·have h1:=hA.links w hw;exact⟨ho.trans h1.os,ht.trans h1.tape,oX.trans h1.output,aS h1.size hs,λk hk hx=>(ee k (NL w hw k hk)).trans (h1.block k hk hx)⟩
  have hm:p.1∈(book H l rec bx).map (·.1):=by rw[<-hk];exact bU.2 ⟨p,hp,rfl⟩
  rw[ee p.1 ⟨hbk _ hm,jb _ hm⟩];exact hA.own p hp
 have pY:∀x,(ps.zip (enc x).toArray).foldl (λtmps (p:Tmp×Value)=>match p with|(t,a)=>tmps.setIfInBounds t a) a.tmps=(ps.toList.zip (enc x)).foldl (λt (p:Nat×Value)=>t.setIfInBounds p.1 p.2) a.tmps:=by
  exact zil
 have sV:=o3 W W1 hS NI NK l (λk=>G.X k\/k∈(book H l rec bx).map (·.1)) (rI G L Inv l rec bx) (rX G L bX l rec bx)
  (λk hk=>hk.elim (λhm=>⟨mm.xlt k hm,λh=>(lx k h).2.2.2.2 hm,λh=>(my W hS k h).2.2 hm⟩) (λhk=>⟨hbk k hk,jb k hk,λh=>Ho k hk h⟩))
  (λpre A B hA ho ht oX hs ee=>by
   obtain⟨Hc,hi,bY⟩:=hA;exact⟨Hc,hi,stab (bO (pX pre Hc hi)) A B bY ho ht oX hs ee⟩)
  (λA B hA ho ht oX hs ee=>by
   obtain⟨c,Hc,hi,bY⟩:=hA;exact⟨c,Hc,hi,stab (bO (oh c Hc hi)) A B bY ho ht oX hs ee⟩)
  (λpre x Wy dU hI=>by
   obtain⟨Hc,hi,bY⟩:=hI;have hy:=run_yield (P:=C.P) (args:=(enc x).toArray) bY.loopAt (by simp[pT,NJ]);refine⟨_,_,_,_,hy,roundIn_of_wpIn (F:=FW none) trivial ?_⟩;rw[hra,hrb];refine gz pre x Hc Wy dU hi ⟨_,[]⟩ ?_ rfl ?_ bY.snap
   ·rw[hrt,NJ,pY x];have:=(YA (zs:=ps.toList.zip (enc x)) hF (λp hp=>by rw[hN];exact tF p.1 (List.of_mem_zip hp).1)).1;rw[hN]at this;exact this
   rw[hrt,NJ,pY x];exact(YA (zs:=ps.toList.zip (enc x)) hF (λp hp=>by rw[hN];exact tF p.1 (List.of_mem_zip hp).1)).2)
  ⟨H,h0,mm⟩
 refine sV.mono ?_;rintro e W2 ⟨⟨v,rfl⟩,J0,hI|hX⟩
 ·obtain⟨Hc,hi,bY⟩:=hI;refine⟨rec.pending,_,run_endLoop bY.loopAt (by rw[jX];simp),?_⟩;rw[ov];exact U0 _ Hc hi _ _ (by simpa using hN) (by simp[hD]) (λt v hv=>hF t v hv) (bY.loop _)
 obtain⟨c,Hc,hi,bY⟩:=hX;refine⟨some c,_,run_endLoop bY.loopAt z1,?_⟩;exact U1 _ c Hc hi _ _ (by simpa using hN) (by simp[hD]) (λt v hv=>hF t v hv) (bY.loop _)
theorem xD(H:ae):qQ H↔(H.map (·.1)).Nodup:=by
 rw[List.Nodup,List.pairwise_iff_getElem];constructor
 ·intro h i j hi hj hlt e;simp only[fl]at hi hj;have:=h i j H[i] H[j] (by simp[hi]) (by simp[hj]) (by simpa using e);omega
 intro h i j p q hi hj e;obtain⟨wP,DI⟩:=gD.1 hi;obtain⟨Ze,hj2⟩:=gD.1 hj;rcases Nat.lt_trichotomy i j with hlt|heq|hlt
 ·have dc:=h i j (by simpa using wP) (by simpa using Ze) hlt;rw[JQ,JQ,DI,hj2]at dc;exact absurd e dc
 ·exact heq
 have dc:=h j i (by simpa using Ze) (by simpa using wP) hlt;rw[JQ,JQ,DI,hj2]at dc;exact absurd e.symm dc
variable {H':ae}
theorem St.perm(h:St G L H W)(hp:H.Perm H'):St G L H' W where
 ghost:=h.ghost
 vlt:=h.vlt
 xlt:=h.xlt
 links:=λw hw=>(h.links w hw).mono λk _ hk=>hk.imp id (λhk=>(hp.map (·.1)).mem_iff.1 hk)
 own:=λp hm=>h.own p (hp.mem_iff.2 hm)
 nodup:=by rw[xD];exact(hp.map (·.1)).nodup_iff.1 ((xD H).1 h.nodup)
 apart:=λp hm=>h.apart p (hp.mem_iff.2 hm)
abbrev er (Dk:Nat):Deferred:={target:=.collected Dk,args:=#[]}
abbrev bQ (Dk:Nat):ae:=[(Dk,.deferred (some []))]
abbrev NM (C:Cx) (l:Nat) (body:Code) (Qb:aG):aG:=
 Exit.then (λa W=>∃W2,(Instr.beginRound l).run C.P W= .ok () W2/\body.wpIn (FW C.r) 0 C.P Qb a W2) (λ_ _ _=>False)
variable {N:Nat}
theorem NN{B:World->Prop}{P:Program}{Q:aG}{g:Operand}{ps:Array Tmp}{cap:List Value}{α:Type}{enc:α->List Value}{xs:List α}(hg:ev E g=some (.func (.func f) #[] cap.toArray))(az:dR P f)(o3:∀W W2,St G L H W->B W->Below W.heap.size W W2->Ow P f cap enc xs MI RO W2)(xC:∀W,St G L H W->(∀k,MI k->k<W.heap.size/\ad L k/\k∉H.map (·.1)/\¬G.V k/\¬G.X k))(my:∀W,St G L H W->(∀k,RO k->k<W.heap.size/\k∉H.map (·.1)/\¬G.X k))(pT:∀x,(enc x).length=ps.size)(Inv:List α->ae->Prop)(bX:Code->ae->Prop)(h0:Inv [] H)(pX:∀pre Hc,Inv pre Hc->Hc.map (·.1)=H.map (·.1))(oh:∀c Hc,bX c Hc->Hc.map (·.1)=H.map (·.1))(tF:∀p∈ps.toList,p<N)(round:∀(pre:List α) (x:α) (Hc:ae) (l Dk:Nat) (rec:Loop) (Wy:World),rec.state= .ready->rec.pending=none->(pre++[x]) <+:xs->Inv pre Hc->ad L Dk->l=Dk+1->l<Wy.heap.size->ad L Wy.heap.size->CJ ⟨P,some l,N⟩ assign (NM ⟨P,some l,N⟩ l body (Yz P G L Wy (λk=>G.X k\/k∈(book Hc l rec (bQ Dk)).map (·.1)) Inv bX l rec (bQ Dk) (pre++[x]))) ((ps.toList.zip (enc x)).reverse++E) [] G (Wy::L) (book Hc l rec (bQ Dk)))(done:∀l Dk rec Hc,ad L Dk->l=Dk+1->Inv xs Hc->PJ ⟨P,none,N⟩ Q .normal E (er Dk::D) G L (book Hc l rec (bQ Dk)))(stop:∀l Dk rec c Hc,ad L Dk->l=Dk+1->bX c Hc->CJ ⟨P,none,N⟩ c Q E (er Dk::D) G L (book Hc l rec (bQ Dk))):∀a W,a.tmps.size=N->a.defers=D->Fits E a->St G L H W->B W->(Code.rangeFunc g ps assign body).wpIn (FW none) 0 P Q a W:=by
 refine n0n (C:=⟨P,none,N⟩) hg az o3 xC my pT Inv bX h0 pX oh tF ?_;intro a W fn hS;have mm:=((hS.alloc (.deferred (some []))).alloc (.loop {state:=.ready,pending:=none,fn,tmps:=a.tmps,params:=ps,assign,body,defers:=W.heap.size}));have jy:(W.alloc (.deferred (some []))).heap.size=W.heap.size+1:=by simp
 rw[jy]at mm;have NK:Below W.heap.size W ((W.alloc (.deferred (some []))).alloc (.loop {state:=.ready,pending:=none,fn,tmps:=a.tmps,params:=ps,assign,body,defers:=W.heap.size})):=
  ((Below.refl _ _).alloc (ao _) _).alloc z1 _
 refine⟨W.heap.size+1,[er W.heap.size],bQ W.heap.size,_,{state:=.ready,pending:=none,fn,tmps:=a.tmps,params:=ps,assign,body,defers:=W.heap.size},run_enterLoop_outer _ _ _ _ _,rfl,rfl,rfl,rfl,rfl,rfl,rfl,mm.perm ?_,NK,?_,?_,λuZ Hc hi=>done _ _ uZ Hc hS.sizes rfl hi,λuZ c Hc hi=>stop _ _ uZ c Hc hS.sizes rfl hi⟩
 ·exact(List.perm_append_comm (l₁:=[_,_]) (l₂:=H))
 ·intro p hp;simp only[cP,fG,or_false]at hp;rcases hp with rfl|rfl<;>simp
 intro pre x Hc Wy dU hi a1 hN1 tI hF1 hSt;have hm:∀k,k∈(book Hc (W.heap.size+1) {state:=.ready,pending:=none,fn,tmps:=a.tmps,params:=ps,assign,body,defers:=W.heap.size} (bQ W.heap.size)).map (·.1)↔k∈(book H (W.heap.size+1) {state:=.ready,pending:=none,fn,tmps:=a.tmps,params:=ps,assign,body,defers:=W.heap.size} (bQ W.heap.size)).map (·.1):=by
  intro k;simp only[book,gj,eE,pX pre Hc hi]
 have hr:=round pre x Hc (W.heap.size+1) W.heap.size {state:=.ready,pending:=none,fn,tmps:=a.tmps,params:=ps,assign,body,defers:=W.heap.size} Wy rfl rfl dU hi hS.sizes rfl (aM.1 hSt.loopAt).1 (hSt.lessL (L':=L) λw hw=>.tail _ hw).sizes;rw[show(λk=>G.X k\/k∈(book Hc (W.heap.size+1) {state:=.ready,pending:=none,fn,tmps:=a.tmps,params:=ps,assign,body,defers:=W.heap.size} (bQ W.heap.size)).map (·.1))=
  (λk=>G.X k\/k∈(book H (W.heap.size+1) {state:=.ready,pending:=none,fn,tmps:=a.tmps,params:=ps,assign,body,defers:=W.heap.size} (bQ W.heap.size)).map (·.1))from funext λk=>propext (or_congr Iff.rfl (hm k))]at hr
 exact hr a1 Wy hN1 tI hF1 hSt
theorem CJ.range{P:Program}{Q:aG}{g:Operand}{ps:Array Tmp}{cap:List Value}{α:Type}{enc:α->List Value}{xs:List α}(hg:ev E g=some (.func (.func f) #[] cap.toArray))(az:dR P f)(o3:∀W W2,St G L H W->Below W.heap.size W W2->Ow P f cap enc xs MI RO W2)(xC:∀W,St G L H W->(∀k,MI k->k<W.heap.size/\ad L k/\k∉H.map (·.1)/\¬G.V k/\¬G.X k))(my:∀W,St G L H W->(∀k,RO k->k<W.heap.size/\k∉H.map (·.1)/\¬G.X k))(pT:∀x,(enc x).length=ps.size)(Inv:List α->ae->Prop)(bX:Code->ae->Prop)(h0:Inv [] H)(pX:∀pre Hc,Inv pre Hc->Hc.map (·.1)=H.map (·.1))(oh:∀c Hc,bX c Hc->Hc.map (·.1)=H.map (·.1))(tF:∀p∈ps.toList,p<N)(round:∀(pre:List α) (x:α) (Hc:ae) (l Dk:Nat) (rec:Loop) (Wy:World),rec.state= .ready->rec.pending=none->(pre++[x]) <+:xs->Inv pre Hc->ad L Dk->l=Dk+1->l<Wy.heap.size->ad L Wy.heap.size->CJ ⟨P,some l,N⟩ assign (NM ⟨P,some l,N⟩ l body (Yz P G L Wy (λk=>G.X k\/k∈(book Hc l rec (bQ Dk)).map (·.1)) Inv bX l rec (bQ Dk) (pre++[x]))) ((ps.toList.zip (enc x)).reverse++E) [] G (Wy::L) (book Hc l rec (bQ Dk)))(done:∀l Dk rec Hc,ad L Dk->l=Dk+1->Inv xs Hc->PJ ⟨P,none,N⟩ Q .normal E (er Dk::D) G L (book Hc l rec (bQ Dk)))(stop:∀l Dk rec c Hc,ad L Dk->l=Dk+1->bX c Hc->CJ ⟨P,none,N⟩ c Q E (er Dk::D) G L (book Hc l rec (bQ Dk))):CJ ⟨P,none,N⟩ (.rangeFunc g ps assign body) Q E D G L H:=by
 exact λa W hN hD hF hS=>NN (B:=λ_=>True) hg az (λW W2 h _ hb=>o3 W W2 h hb) xC my pT Inv bX h0 pX oh tF round done stop a W hN hD hF hS True.intro
variable {vs:List Value}
/-! #### functions that leave with marks -/
theorem xK{P:Program}{fn:Func}{c:Code}{w:World}(G:Gh)(H:ae)(hf:P.funcs[f]? =some fn)(hb:fn.body=some c)(hN:fn.ntmps=N)(hl:Nat.ble vs.length N=true)(hS:St G [w] H w)(h:CJ ⟨P,none,N⟩ c (bodyPostM (FW none) 0 P fn R) (yu 0 vs) [] G [w] H):Calls P f vs.toArray w R:=by
 rw[<-CG (r:=none) (n:=0)];refine callsIn_of_wp_marks hf hb trivial (h _ w ?_ rfl ?_ hS)
 ·exact UR
 exact UQ vs _
section
variable {C:Cx} {fn:Func} {R:Ending->World->Prop} {E:Env} {G:Gh} {L:List World} {H:ae}
theorem nEg{P:Program}{tmps:Array Value}{Ds:List Nat}(hD:D=Ds.map er):∀{H:ae} {W:World},St G L H W->(∀k∈Ds,(k,.deferred (some []))∈H)->Ds.Nodup->(∀W' H',St G L H' W'->(∀p∈H,(∀k∈Ds,p.1≠k)->p∈H')->H'.map (·.1)=H.map (·.1)->∃v,(results fn tmps).run P W'= .ok v W'/\R (.returned v) W')->LeavesInM (FW none) 0 P fn tmps R D .returning W:=by
 subst hD;induction Ds with
 |nil=>
  intro H W hS _ _ h;exact h W H hS (λp hp _=>hp) rfl
 |cons k Ds ih=>
  intro H W hS jO hnd h;obtain⟨hk,hnd⟩:=List.nodup_cons.1 hnd;have hkm:=jO k z1;obtain⟨i,hi⟩:=jL.1 hkm;have gn:W.heap[k]? =some (.deferred (some [])):=hS.own _ hkm;have hlt:k<W.heap.size:=(aM.1 gn).1;have fZ:=hS.put hi (HO W k (.deferred none)) (World.putObj_heap_same hlt);have tw:i<H.length:=(gD.1 hi).1;have J1:∀p∈H,p.1≠k->p∈H.set i (k,.deferred none):=by
   intro p hp dc;obtain⟨j,hj⟩:=jL.1 hp;refine jL.2 ⟨j,?_⟩;rw[HK]
   ·exact hj
   rintro rfl;rw[hi]at hj;cases hj;exact dc rfl
  have bO:(H.set i (k,.deferred none)).map (·.1)=H.map (·.1):=by
   rw[List.map_set];apply vg;intro j;by_cases e:i=j
   ·subst e;rw[JU (by simpa using tw)];simp[hi]
   rw[HK e]
  refine⟨by simp,.inl ⟨k,_,rfl,run_takeDeferred gn,?_⟩⟩;refine ih fZ (λk' Ej=>J1 _ (jO k' (by simp[Ej])) (λe=>hk (e▸Ej))) hnd ?_;intro W' H' afA hH' U2;refine h W' H' afA (λp hp dc=>hH' p (J1 p hp (dc k z1)) (λk' Ej=>dc k' (by simp[Ej]))) (U2.trans bO)
theorem uk{Dk:Nat}{e:Exit}(he:e= .ret\/e= .normal)(hm:(Dk,.deferred (some []))∈H)(h:∀a W H',Fits E a->St G L H' W->(∀p∈H,p.1≠Dk->p∈H')->H'.map (·.1)=H.map (·.1)->∃v,(results fn a.tmps).run C.P W= .ok v W/\R (.returned v) W):PJ C (bodyPostM (FW none) 0 C.P fn R) e E [er Dk] G L H:=by
 intro a W hN hD hF hS;have key:LeavesInM (FW none) 0 C.P fn a.tmps R a.defers .returning W:=
  nEg (Ds:=[Dk]) (by rw[hD];rfl) hS (λk hk=>by simp at hk;subst hk;exact hm) z1 (λW' H' fZ hH bO=>
   h a W' H' hF fZ (λp hp dc=>hH p hp (λk hk=>by simp at hk;subst hk;exact dc)) bO)
 exact PU
theorem Il{Dk t:Nat}{e:Exit}(he:e= .ret\/e= .normal)(hr:fn.results=#[.tmp t])(hv:look E t=some v)(hm:(Dk,.deferred (some []))∈H)(h:∀W H',St G L H' W->H'.map (·.1)=H.map (·.1)->R (.returned v) W):PJ C (bodyPostM (FW none) 0 C.P fn R) e E [er Dk] G L H:=
 uk he hm λa W H' hF hS _ bO=>⟨v,by rw[results_tmp hr];exact congrArg (λu=>Result.ok u W) (hF t v hv),h W H' hS bO⟩
end
/-! #### inside of an iterator -/
/-- the consumer, as_ the iterator sees it -/
def Dg {W:World} {MI RO M:Nat->Prop} (hM:∀k,M k->k<W.heap.size/\¬MI k/\¬RO k) {I:World->Prop} (hI:eA (λk=>k<W.heap.size/\¬MI k) I):Gh where
 M:=M
 V:=λk=>k<W.heap.size/\¬MI k
 R:=I
 X:=M
 sub:=λk hk=>⟨(hM k hk).1,(hM k hk).2.1⟩
 subX:=λ_ hk=>hk
 stab:=hI
variable {I:World->Prop}
theorem yE{M:Nat->Prop}(hM:∀k,M k->k<W.heap.size/\¬MI k/\¬RO k)(hI:eA (λk=>k<W.heap.size/\¬MI k) I)(h0:I W):St (Dg hM hI) [W] [] W where
 ghost:=h0
 vlt:=λ_ hk=>hk.1
 xlt:=λk hk=>(hM k hk).1
 links:=λw hw=>by simp at hw;subst hw;exact aI.refl _ _
 own:=λ_ h=>by simp at h
 nodup:=λ_ _ _ _ h=>by simp at h
 apart:=λ_ h=>by simp at h
theorem St.keepM{w:World}(h:St G L [] W)(hw:w∈L):aI G.X w W:=(h.links w hw).mono λk _ hk=>by simpa using hk
theorem Qj{fn:Func}{M:Nat->Prop}{hM:∀k,M k->k<W.heap.size/\¬MI k/\¬RO k}{I' X:World->Prop}{hI:eA (λk=>k<W.heap.size/\¬MI k) I}{e:Exit}(he:e= .ret\/e= .normal)(hr:fn.results=#[])(hw:W∈L)(h:∀A,I A->I' A\/X A):PJ C (bodyPost C.P fn (λe W'=>(∃v,e= .returned v)/\aI (λk=>M k\/MI k) W W'/\(I' W'\/X W'))) e E [] (Dg hM hI) L []:=by
 intro a W' _ hD _ hS;have key:bodyPost C.P fn (λe W'=>(∃v,e= .returned v)/\aI (λk=>M k\/MI k) W W'/\(I' W'\/X W')) .normal a W':=
  ⟨hD,.tuple #[],results_none hr _ _ _,⟨_,rfl⟩,(hS.keepM hw).mono λk _ hk=>.inl hk,h W' hS.ghost⟩
 exact PU
end Px
