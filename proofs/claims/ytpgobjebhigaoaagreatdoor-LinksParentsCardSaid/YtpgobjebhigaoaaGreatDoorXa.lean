/- Memory, operations, iterators, slices, maps. No condition beyond those stated. -/
import Derived.Test.YtpgobjebhigaoaaGreatDoorZa
import Derived.TacticsIn
import Derived.DefersIn
import Derived.RangeFuncIn
import Derived.Below
import Derived.WalkKit
import Derived.RangeFuncRecord
set_option linter.unusedSimpArgs false
set_option linter.unusedVariables false
set_option linter.unusedSectionVars false
set_option linter.unnecessarySimpa false
set_option maxRecDepth 20000
set_option maxHeartbeats 8000000
namespace Px
open Go Go.RowKit
/-! ### the environment: what is known of the temporaries -/
abbrev Env:=List (Nat×Value)
def look:Env->Nat->Option Value
 | [],_=>none
 |(k,v)::E,t=>match Nat.beq k t with|true=>some v|false=>look E t
variable {aA:Array Edge} {ops:Array Oper} {cs:Array Value} {assign body y:Code} {R:Ending->World->Prop} {K K':IntKind} {D:List Deferred} {vs:List Value} {L L':List World} {rec:Loop} {N T b e f i j ty u:Nat} {fr:Nat×Nat} {MI RO:Nat->Prop} {o:Obj} {op:Op} {x:Operand} {pos:String} {v:Value} {W W' w1:World} {I:World->Prop}
theorem wI{a:Nat}(e:¬a=b):Nat.beq a b=false:=by
 cases h:Nat.beq a b with
 |false=>rfl
 |true=>exact absurd (LW h) e
theorem wJ(a:Nat):Nat.beq a a=true:=by induction a<;>simp_all[Nat.beq]
def Fits (E:Env) (a:Act):Prop:=∀t v,look E t=some v->a.eval (.tmp t)=v
def ev (E:Env):Operand->Option Value
 | .tmp t=>look E t
 | .const v=>some v
 | .global g=>some ((⟨#[],[]⟩:Act).eval (.global g))
 | .func f=>some ((⟨#[],[]⟩:Act).eval (.func f))
variable {E:Env}
theorem Fits.ev{a:Act}(h:Fits E a)(hx:ev E x=some v):a.eval x=v:=by
 cases x with
 |tmp t=>exact h t v hx
 |const u=>simp[Px.ev]at hx;subst hx;rfl
 |global g=>simp only[Px.ev,qE]at hx;rw[<-hx];rfl
 |func f=>simp only[Px.ev,qE]at hx;rw[<-hx];rfl
theorem Fits.put{a:Act}(h:Fits E a){d:Nat}(v:Value)(hd:d<a.tmps.size):Fits ((d,v)::E) (a.put (some d) v):=by
 intro t u ht;simp only[look]at ht;by_cases e:d=t
 ·subst e;simp only[wJ,qE]at ht;subst ht;simp[Act.eval,Act.put,hd]
 have:Nat.beq d t=false:=wI e;simp only[this]at ht;have:=h t u ht;simp only[Act.eval,Act.put]at this ⊢;rw[<-this];simp[aRo e]
def Sub:Env->Env->Prop
 | [],_=>True
 |(t,v)::E',E=>look E t=some v/\Sub E' E
theorem Sub.fits{E':Env}{a:Act}(hs:Sub E' E)(h:Fits E a):Fits E' a:=by
 induction E' with
 |nil=>intro t v hv;simp[look]at hv
 |cons p E' ih=>
  obtain⟨k,u⟩:=p;intro t v hv;simp only[look]at hv;by_cases e:k=t
  ·subst e;simp only[wJ,qE]at hv;subst hv;exact h _ _ hs.1
  have:Nat.beq k t=false:=wI e;simp only[this]at hv;exact ih hs.2 t v hv
def np (ops:Array Oper) (E:Env) (g:Option (Nat×Bool)):Option Bool:=
 match g with
 |none=>some true
 |some (j,b)=>
  match(ops[j]?).bind (·.dst)with
  |none=>some false
  |some d=>
   match look E d with
   |some (.bool true)=>some b
   |some (.bool false)=>some (!b)
   |some (.tuple _)=>some false
   |_=>none
theorem tD{a:Act}{o:Oper}{c:Bool}(h:Fits E a)(hw:np ops E o.guard=some c):Region.wanted o (yielded ops a.tmps)=c:=by
 unfold np at hw;unfold Region.wanted;cases hg:o.guard with
 |none=>simp[hg]at hw;subst hw;rfl
 |some p=>
  obtain⟨j,b⟩:=p;simp only[hg]at hw ⊢;cases hd:(ops[j]?).bind (·.dst)with
  |none=>simp[hd]at hw;subst hw;simp[yielded,hd]
  |some d=>
   simp only[hd]at hw;cases hl:look E d with
   |none=>simp[hl]at hw
   |some v=>
    have hv:=h d v hl;simp only[hl]at hw;have key:∀u,v=u->yielded ops a.tmps j=(match u with| .bool b=>some b|_=>none):=by
     intro u hu;simp only[yielded,hd,Option.bind_some];simp only[Act.eval]at hv;cases ht:a.tmps[d]? with
     |none=>
      have:v=undef:=by rw[<-hv,Array.getD_eq_getD_getElem?,ht];rfl
      subst hu;rw[this];rfl
     |some u'=>
      have:v=u':=by rw[<-hv,Array.getD_eq_getD_getElem?,ht];rfl
      subst hu;subst this;cases v<;>rfl
    split at hw
    ·simp at hw;subst hw;rename_i h1;rw[key _ (by injection h1)];cases b<;>rfl
    ·simp at hw;subst hw;rename_i h1;rw[key _ (by injection h1)];cases c<;>rfl
    ·simp at hw;subst hw;rename_i h1;rw[key _ (by injection h1)];rfl
    simp at hw
/-! ### the memory: ghost (another party's blocks), snapshots, own blocks -/
structure Gh where
 M:Nat->Prop
 V:Nat->Prop
 R:World->Prop
 X:Nat->Prop
 sub:∀k,M k->V k
 subX:∀k,M k->X k
 stab:∀W W':World,R W->W'.os=W.os->W'.tape=W.tape->W'.output=W.output->W.heap.size<=W'.heap.size->(∀k,V k->W'.heap[k]? =W.heap[k]?)->R W'
def Gh.no:Gh:=⟨λ_=>False,λ_=>False,λ_=>True,λ_=>False,λ_ h=>h,λ_ h=>h,λ_ _ _ _ _ _ _ _=>trivial⟩
def Gh.lent (Z:Nat->Prop):Gh:=⟨λ_=>False,λ_=>False,λ_=>True,Z,λ_ h=>h,λ_ h=>h.elim,λ_ _ _ _ _ _ _ _=>trivial⟩
abbrev ab:=List (Nat×Obj)
structure aF (X:Nat->Prop) (w W:World):Prop where
 os:W.os=w.os
 tape:W.tape=w.tape
 output:W.output=w.output
 size:w.heap.size<=W.heap.size
 block:∀k,k<w.heap.size->¬X k->W.heap[k]? =w.heap[k]?
theorem aF.refl(X:Nat->Prop)(w:World):aF X w w:=⟨rfl,rfl,rfl,ao _,λ_ _ _=>rfl⟩
theorem aF.trans{X:Nat->Prop}{a b c:World}(h:aF X a b)(k:aF X b c):aF X a c:=
 ⟨k.os.trans h.os,k.tape.trans h.tape,k.output.trans h.output,aR h.size k.size,
  λi hi hx=>(k.block i (jT hi h.size) hx).trans (h.block i hi hx)⟩
theorem aF.mono{X Y:Nat->Prop}{a b:World}(h:aF X a b)(hxy:∀k,k<a.heap.size->X k->Y k):aF Y a b:=
 ⟨h.os,h.tape,h.output,h.size,λi hi hy=>h.block i hi (λhx=>hy (hxy i hi hx))⟩
theorem aF.of_below{X:Nat->Prop}{a b:World}(h:Below a.heap.size a b):aF X a b:=
 ⟨h.os,h.tape,h.output,h.size,λi hi _=>h.block i hi⟩
theorem aF.below{X:Nat->Prop}{a b:World}(h:aF X a b)(hx:∀k,k<a.heap.size->¬X k):Below a.heap.size a b:=
 ⟨h.os,h.tape,h.output,h.size,λi hi=>h.block i hi (hx i hi)⟩
def jk (H:ab):Prop:=∀(i j:Nat) (p q:Nat×Obj),H[i]? =some p->H[j]? =some q->p.1=q.1->i=j
structure St (G:Gh) (L:List World) (H:ab) (W:World):Prop where
 ghost:G.R W
 vlt:∀k,G.V k->k<W.heap.size
 xlt:∀k,G.X k->k<W.heap.size
 links:∀w∈L,aF (λk=>G.X k\/k∈H.map (·.1)) w W
 own:∀p∈H,W.heap[p.1]? =some p.2
 nodup:jk H
 apart:∀p∈H,¬G.V p.1
def ad:List World->Nat->Prop
 | [],_=>True
 |w::L,b=>w.heap.size<=b/\ad L b
theorem ad.of_mem(h:∀w∈L,w.heap.size<=b):ad L b:=by
 induction L with
 |nil=>trivial
 |cons w L ih=>exact⟨h w zX,ih λw' hw=>h w' (by simp[hw])⟩
theorem ad.mem(h:ad L b):∀w∈L,w.heap.size<=b:=by
 induction L with
 |nil=>intro w hw;simp at hw
 |cons w L ih=>
  intro w' hw;simp only[cI]at hw;rcases hw with rfl|hw
  ·exact h.1
  exact ih h.2 w' hw
def bD:ab->Nat->Prop
 | [],_=>True
 |p::H,b=>p.1≠b/\bD H b
variable {H:ab}
theorem bD.mem(h:bD H b):b∉H.map (·.1):=by
 induction H with
 |nil=>simp
 |cons p H ih=>
  simp only[eh,cI,not_or];exact⟨λe=>h.1 e.symm,ih h.2⟩
theorem bD.of_mem(h:b∉H.map (·.1)):bD H b:=by
 induction H with
 |nil=>trivial
 |cons p H ih=>
  simp only[eh,cI,not_or]at h;exact⟨λe=>h.1 e.symm,ih h.2⟩
def nY:ab->Nat->Prop
 | [],_=>True
 |p::H,b=>p.1<b/\nY H b
section
variable {G:Gh} {L:List World} {H:ab} {W W':World}
theorem St.lt(h:St G L H W):∀p∈H,p.1<W.heap.size:=λp hp=>(aT.1 (h.own p hp)).1
theorem St.under(h:St G L H W):nY H W.heap.size:=by
 have:=h.lt;clear h;induction H with
 |nil=>trivial
 |cons p H ih=>exact⟨this p zX,ih λq hq=>this q (by simp[hq])⟩
theorem St.sizes(h:St G L H W):ad L W.heap.size:=ad.of_mem λw hw=>(h.links w hw).size
theorem St.step(h:St G L H W)(hb:Below W.heap.size W W'):St G L H W' where
 ghost:=G.stab W W' h.ghost hb.os hb.tape hb.output hb.size (λk hk=>hb.block k (h.vlt k hk))
 vlt:=λk hk=>jT (h.vlt k hk) hb.size
 xlt:=λk hk=>jT (h.xlt k hk) hb.size
 links:=λw hw=>(h.links w hw).trans (aF.of_below hb)
 own:=λp hp=>(hb.block p.1 (h.lt p hp)).trans (h.own p hp)
 nodup:=h.nodup
 apart:=h.apart
theorem St.snap(h:St G L H W):St G (W::L) H W:=by
 refine{h with links:=λw hw=>?_};simp only[cI]at hw;rcases hw with rfl|hw
 ·exact aF.refl _ _
 exact h.links w hw
theorem Sg(W:World)(o:Obj):Below W.heap.size W (W.alloc o):=(Below.refl _ _).alloc (ao _) o
theorem Eb(W:World)(n:Nat):Below W.heap.size W {W with drawn:=n}:=⟨rfl,rfl,rfl,ao _,λ_ _=>rfl⟩
theorem St.alloc(h:St G L H W)(o:Obj):St G L ((W.heap.size,o)::H) (W.alloc o):=by
 have h1:=h.step (Sg W o);refine{h1 with links:=λw hw=>?_,own:=λp hp=>?_,nodup:=?_,apart:=λp hp=>?_}
 ·exact(h1.links w hw).mono λk _ hk=>hk.imp id (λhk=>by simp[hk])
 ·simp only[cI]at hp;rcases hp with rfl|hp
  ·exact heap_alloc_new W o
  exact h1.own p hp
 ·intro i j p q hi hj e;cases i with
  |zero=>
   cases j with
   |zero=>rfl
   |succ j=>
    simp only[GS,qE,xm]at hi hj;have:=h.lt q (cb hj);subst hi;simp at e;omega
  |succ i=>
   cases j with
   |zero=>
    simp only[GS,qE,xm]at hi hj;have:=h.lt p (cb hi);subst hj;simp at e;omega
   |succ j=>
    simp only[xm]at hi hj;rw[h.nodup i j p q hi hj e]
 simp only[cI]at hp;rcases hp with rfl|hp
 ·intro hm;have:=h.vlt _ hm;simp at this
 exact h.apart p hp
theorem St.old(h:St G L H W){w:World}(hw:w∈L)(hb:w.heap[b]? =some o)(hm:¬G.X b)(ho:bD H b):W.heap[b]? =some o:=by
 have hlt:=(aT.1 hb).1;rw[(h.links w hw).block b hlt (λhx=>hx.elim hm ho.mem)];exact hb
theorem St.put(h:St G L H W){o':Obj}(hi:H[i]? =some (b,o))(hW:aF (· =b) W W')(hb:W'.heap[b]? =some o'):St G L (H.set i (b,o')) W':=by
 have jj:(b,o)∈H:=cb hi;have rO:i<H.length:=(gi.1 hi).1;have fJ:∀(j:Nat) (p:Nat×Obj),(H.set i (b,o'))[j]? =some p->(j=i/\p=(b,o'))\/(j≠i/\H[j]? =some p):=by
  intro j p hp;by_cases e:j=i
  ·subst e;rw[Iu rO]at hp;exact .inl ⟨rfl,(Option.some.inj hp).symm⟩
  rw[F8 (λx=>e x.symm)]at hp;exact .inr ⟨e,hp⟩
 have LX:∀(j:Nat) (p:Nat×Obj),(H.set i (b,o'))[j]? =some p->∃q,H[j]? =some q/\q.1=p.1:=by
  intro j p hp;rcases fJ j p hp with⟨rfl,rfl⟩|⟨_,hp⟩
  ·exact⟨_,hi,rfl⟩
  exact⟨p,hp,rfl⟩
 have bO:∀k,k∈(H.set i (b,o')).map (·.1)↔k∈H.map (·.1):=by
  intro k;rw[List.map_set];constructor
  ·intro hk;rcases Ww hk with hk|rfl
   ·exact hk
   exact bW.2 ⟨_,jj,rfl⟩
  intro hk;obtain⟨j,hj⟩:=ju.1 hk;by_cases e:i=j
  ·subst e;have:k=b:=by simp[hi]at hj;exact hj.symm
   subst this;exact ju.2 ⟨i,by rw[Iu (by simpa using rO)]⟩
  exact ju.2 ⟨j,by rw[F8 e];exact hj⟩
 have hM:=h.apart _ jj;refine⟨G.stab W W' h.ghost hW.os hW.tape hW.output hW.size (λk hk=>hW.block k (h.vlt k hk) (λe=>hM (e▸hk))),λk hk=>jT (h.vlt k hk) hW.size,λk hk=>jT (h.xlt k hk) hW.size,λw hw=>?_,λp hp=>?_,λj j' p q hj tE e=>?_,λp hp=>?_⟩
 ·have h1:=(h.links w hw).trans (hW.mono (Y:=λk=>G.X k\/k∈H.map (·.1)) λk _ hk=>by subst hk;exact .inr (bW.2 ⟨_,jj,rfl⟩));exact h1.mono λk _ hk=>hk.imp id (bO k).2
 ·obtain⟨j,hj⟩:=ju.1 hp;rcases fJ j p hj with⟨rfl,rfl⟩|⟨dn,hj⟩
  ·exact hb
  have hm:=cb hj;rw[hW.block p.1 (h.lt p hm) (λe=>dn (h.nodup j i p (b,o) hj hi e))];exact h.own p hm
 ·obtain⟨p',hp',e1⟩:=LX j p hj;obtain⟨q',hq',e2⟩:=LX j' q tE;exact h.nodup j j' p' q' hp' hq' (by rw[e1,e2];exact e)
 obtain⟨j,hj⟩:=ju.1 hp;obtain⟨q,hq,e⟩:=LX j p hj;rw[<-e];exact h.apart q (cb hq)
end
/-! ### the judgements -/
abbrev FW (r:Option Nat):Fence:={fn:=λ_=>True,depth:=none,alive:=false,round:=r}
theorem nRm(r:Option Nat)(n:Nat):(FW r).room n:=λ_ h=>by simp at h
theorem nxg(P:Program)(r:Option Nat):Machine.fenced P (FW r)=Machine.fenced P Fence.wide:=rfl
theorem Bp{r:Option Nat}{n:Nat}{P:Program}{f:FuncId}{args:Array Value}{w:World}:CallsIn (FW r) n P f args w R↔Calls P f args w R:=by
 rw[<-callsIn_wide (n:=n)];unfold CallsIn;rw[nxg];exact⟨λh=>⟨trivial,λcs _=>h.2 cs (nRm _ _)⟩,λh=>⟨trivial,λcs _=>h.2 cs (room_wide _)⟩⟩
abbrev aC:=Exit->Act->World->Prop
structure Cx where
 P:Program
 r:Option Nat
 N:Nat
variable (C:Cx)
def PJ (Q:aC) (e:Exit) (E:Env) (D:List Deferred) (G:Gh) (L:List World) (H:ab):Prop:=
 ∀a W,a.tmps.size=C.N->a.defers=D->Fits E a->St G L H W->Q e a W
def CJ (c:Code) (Q:aC) (E:Env) (D:List Deferred) (G:Gh) (L:List World) (H:ab):Prop:=
 ∀a W,a.tmps.size=C.N->a.defers=D->Fits E a->St G L H W->c.wpIn (FW C.r) 0 C.P Q a W
def OJ (ops:Array Oper) (Q:aC) (l:List Oper) (E:Env) (D:List Deferred) (G:Gh) (L:List World) (H:ab):Prop:=
 ∀a W,a.tmps.size=C.N->a.defers=D->Fits E a->St G L H W->wpListIn (FW C.r) 0 C.P ops Q l a W
section
variable {C:Cx} {Q:aC} {E E':Env} {D:List Deferred} {G:Gh} {L L':List World} {H:ab} {ops:Array Oper} {l:List Oper}
theorem CJ.region{id:Nat}(h:OJ C l.toArray Q l E D G L H):CJ C (.region id l.toArray false) Q E D G L H:=
 λa W hN hD hF hS=>wpIn_region_lit (h a W hN hD hF hS)
theorem CJ.seq{x:Code}(h:CJ C x (Exit.then (y.wpIn (FW C.r) 0 C.P Q) Q) E D G L H):CJ C (.seq x y) Q E D G L H:=
 λa W hN hD hF hS=>wpIn_seq (h a W hN hD hF hS)
theorem CJ.block{id:Nat}{c:Code}(h:CJ C c (Exit.inBlock id Q) E D G L H):CJ C (.block id c) Q E D G L H:=
 λa W hN hD hF hS=>wpIn_block (h a W hN hD hF hS)
theorem CJ.skip(h:PJ C Q .normal E D G L H):CJ C .skip Q E D G L H:=λa W hN hD hF hS=>wpIn_skip (h a W hN hD hF hS)
theorem CJ.ret(h:PJ C Q .ret E D G L H):CJ C .ret Q E D G L H:=λa W hN hD hF hS=>wpIn_ret (h a W hN hD hF hS)
theorem CJ.exit{id:Nat}(h:PJ C Q (.exit id) E D G L H):CJ C (.exit id) Q E D G L H:=λa W hN hD hF hS=>wpIn_exit (h a W hN hD hF hS)
theorem PJ.next(h:CJ C y Q E D G L H):PJ C (Exit.then (y.wpIn (FW C.r) 0 C.P Q) Q) .normal E D G L H:=h
theorem OJ.done(h:PJ C Q .normal E D G L H):OJ C ops Q [] E D G L H:=h
theorem CJ.condT{c:Operand}{x:Code}(hc:ev E c=some (.bool true))(h:CJ C x Q E D G L H):CJ C (.cond c x y) Q E D G L H:=
 λa W hN hD hF hS=>wpIn_cond_true (hF.ev hc) (h a W hN hD hF hS)
theorem CJ.condF{c:Operand}{x:Code}(hc:ev E c=some (.bool false))(h:CJ C y Q E D G L H):CJ C (.cond c x y) Q E D G L H:=
 λa W hN hD hF hS=>wpIn_cond_false (hF.ev hc) (h a W hN hD hF hS)
theorem CJ.cond{c:Operand}{x:Code}{t:Bool}(hc:ev E c=some (.bool t))(h1:t=true->CJ C x Q E D G L H)(h2:t=false->CJ C y Q E D G L H):CJ C (.cond c x y) Q E D G L H:=
 λa W hN hD hF hS=>wpIn_cond_split (hF.ev hc) (λht=>h1 ht a W hN hD hF hS) (λht=>h2 ht a W hN hD hF hS)
theorem ng{c:Code}(hs:Sub E' E)(h:CJ C c Q E' D G L H):CJ C c Q E D G L H:=
 λa W hN hD hF hS=>h a W hN hD (hs.fits hF) hS
theorem St.lessL(h:St G L H W)(hs:∀w∈L',w∈L):St G L' H W:=
 {h with links:=λw hw=>h.links w (hs w hw)}
theorem nh{t:Nat}{c:Bool}(hc:look E t=some (.bool c))(h1:c=true->OJ C ops Q l ((t,.bool true)::E) D G L H)(h2:c=false->OJ C ops Q l ((t,.bool false)::E) D G L H):OJ C ops Q l E D G L H:=by
 intro a W hN hD hF hS;have Iv:∀b,c=b->Fits ((t,.bool b)::E) a:=by
  rintro b rfl u v hv;simp only[look]at hv;by_cases e:t=u
  ·subst e;simp only[wJ,qE]at hv;subst hv;exact hF _ _ hc
  simp only[wI e]at hv;exact hF _ _ hv
 cases c with
 |true=>exact h1 rfl a W hN hD (Iv _ rfl) hS
 |false=>exact h2 rfl a W hN hD (Iv _ rfl) hS
theorem OJ.off{o:Oper}{d:Nat}(hd:o.dst=some d)(gQ:d<C.N)(hw:np ops E o.guard=some false)(h:OJ C ops Q l ((d,undef)::E) D G L H):OJ C ops Q (o::l) E D G L H:=by
 intro a W hN hD hF hS;unfold wpListIn;rw[if_neg (by rw[tD hF hw];simp)];refine⟨λ_ _=>trivial,?_⟩;rw[hd];exact h (a.put (some d) undef) W (by simp[Act.put,hN]) jr (hF.put _ zJ) hS
variable {H':ab}
theorem OJ.run{o:Oper}{d:Nat}(hd:o.dst=some d)(hnd:∀c,o.op≠ .defer c)(gQ:d<C.N)(hw:np ops E o.guard=some true)(h:∀a W,Fits E a->St G L H W->∃W',(execOp a.eval o).run C.P W= .ok (.value v) W'/\St G L' H' W')(k:OJ C ops Q l ((d,v)::E) D G L' H'):OJ C ops Q (o::l) E D G L H:=by
 intro a W hN hD hF hS;obtain⟨W',hr,fq⟩:=h a W hF hS;unfold wpListIn;rw[if_pos (tD hF hw)];refine⟨λ_ _=>trivial,?_⟩;rw[Oper.semAt_eq _ _ _ hnd,hr,Oper.uponIn_value,hd];exact k (a.put (some d) v) W' (by simp[Act.put,hN]) jr (hF.put _ zJ) fq
theorem OJ.val{o:Oper}{d:Nat}(hd:o.dst=some d)(hnd:∀c,o.op≠ .defer c)(gQ:d<C.N)(hw:np ops E o.guard=some true)(h:∀a W,Fits E a->St G L H W->(execOp a.eval o).run C.P W= .ok (.value v) W)(k:OJ C ops Q l ((d,v)::E) D G L H):OJ C ops Q (o::l) E D G L H:=
 OJ.run hd hnd gQ hw (λa W hF hS=>⟨W,h a W hF hS,hS⟩) k
theorem F9{o:Oper}(hd:o.dst=none)(hnd:∀c,o.op≠ .defer c)(hw:np ops E o.guard=some true)(h:∀a W,Fits E a->St G L H W->∃n W',(n= .skip\/∃v,n= .value v)/\(execOp a.eval o).run C.P W= .ok n W'/\St G L' H' W')(k:OJ C ops Q l E D G L' H'):OJ C ops Q (o::l) E D G L H:=by
 intro a W hN hD hF hS;obtain⟨n,W',hn,hr,fq⟩:=h a W hF hS;unfold wpListIn;rw[if_pos (tD hF hw)];refine⟨λ_ _=>trivial,?_⟩;rw[Oper.semAt_eq _ _ _ hnd,hr];rcases hn with rfl|⟨v,rfl⟩
 ·rw[Oper.uponIn_skip,hd];exact k a W' hN hD hF fq
 rw[Oper.uponIn_value,hd];exact k a W' hN hD hF fq
end
end Px
namespace Px
open Go Go.RowKit
section
variable {C:Cx} {Q:aC} {E:Env} {D:List Deferred} {G:Gh} {L:List World} {H:ab} {ops:Array Oper} {l:List Oper}
variable {d T U ty:Nat} {pos:String} {aA:Array Edge} {g:Option (Nat×Bool)} {x y z:Operand}
variable {b:Nat}
theorem nV{a:Nat}(h:Nat.blt a b=true):a<b:=bj h
def RV (C:Cx) (G:Gh) (L:List World) (H:ab) (E:Env) (op:Op) (v:Value):Prop:=
 ∀(d ty:Nat) (pos:String) (aA:Array Edge) (g:Option (Nat×Bool)) (a:Act) (W:World),Fits E a->St G L H W->(execOp a.eval ⟨some d,op,ty,pos,aA,g⟩).run C.P W= .ok (.value v) W
variable {op:Op} {v:Value}
theorem LY(hnd:∀c,op≠ .defer c)(hw:np ops E g=some true)(hN:Nat.blt d C.N=true)(h:∀a W,Fits E a->St G L H W->(execOp a.eval ⟨some d,op,ty,pos,aA,g⟩).run C.P W= .ok (.value v) W)(k:OJ C ops Q l ((d,v)::E) D G L H):OJ C ops Q (⟨some d,op,ty,pos,aA,g⟩::l) E D G L H:=
 OJ.val rfl hnd (nV hN) hw h k
theorem fW(hx:ev E x=some v):RV C G L H E (.move x) (v):=λd ty pos aA g a W hF hS=>by
 exact(λa W hF _=>by simp[execOp,hF.ev hx]:∀(a:Act) (W:World),Fits E a->St G L H W->(execOp a.eval ⟨some d,.move x,ty,pos,aA,g⟩).run C.P W= .ok (.value (v)) W) a W hF hS
theorem jz(hx:ev E x=some v):RV C G L H E (.assign x) (v):=λd ty pos aA g a W hF hS=>by
 exact(λa W hF _=>by simp[execOp,hF.ev hx]:∀(a:Act) (W:World),Fits E a->St G L H W->(execOp a.eval ⟨some d,.assign x,ty,pos,aA,g⟩).run C.P W= .ok (.value (v)) W) a W hF hS
theorem Bq(hc:ev E x=some (.bool true))(hx:ev E y=some v):RV C G L H E (.pick x y z) (v):=λd ty pos aA g a W hF hS=>by
 exact(λa W hF _=>by simp[execOp,asBool,hF.ev hx,hF.ev hc]:∀(a:Act) (W:World),Fits E a->St G L H W->(execOp a.eval ⟨some d,.pick x y z,ty,pos,aA,g⟩).run C.P W= .ok (.value (v)) W) a W hF hS
theorem uE(hc:ev E x=some (.bool false))(hx:ev E z=some v):RV C G L H E (.pick x y z) (v):=λd ty pos aA g a W hF hS=>by
 exact(λa W hF _=>by simp[execOp,asBool,hF.ev hx,hF.ev hc]:∀(a:Act) (W:World),Fits E a->St G L H W->(execOp a.eval ⟨some d,.pick x y z,ty,pos,aA,g⟩).run C.P W= .ok (.value (v)) W) a W hF hS
/-! #### integers -/
section ints
variable {K:IntKind} {m n:Int}
theorem me(hx:ev E x=some (.int K m))(hy:ev E y=some (.int K n)):RV C G L H E (.binOp .lss T x y U) (.bool (decide (m<n))):=λd ty pos aA g a W hF hS=>by
 exact(λa W hF _=>by simp[execOp,eqGuard,binOp,Op.intCmp,hF.ev hx,hF.ev hy]:∀(a:Act) (W:World),Fits E a->St G L H W->(execOp a.eval ⟨some d,.binOp .lss T x y U,ty,pos,aA,g⟩).run C.P W= .ok (.value (.bool (decide (m<n)))) W) a W hF hS
theorem qW(hx:ev E x=some (.int K m))(hy:ev E y=some (.int K n)):RV C G L H E (.binOp .leq T x y U) (.bool (decide (m<=n))):=λd ty pos aA g a W hF hS=>by
 exact(λa W hF _=>by simp[execOp,eqGuard,binOp,Op.intCmp,hF.ev hx,hF.ev hy]:∀(a:Act) (W:World),Fits E a->St G L H W->(execOp a.eval ⟨some d,.binOp .leq T x y U,ty,pos,aA,g⟩).run C.P W= .ok (.value (.bool (decide (m<=n)))) W) a W hF hS
theorem pd(hx:ev E x=some (.int K m))(hy:ev E y=some (.int K n)):RV C G L H E (.binOp .gtr T x y U) (.bool (decide (n<m))):=λd ty pos aA g a W hF hS=>by
 exact(λa W hF _=>by simp[execOp,eqGuard,binOp,Op.intCmp,hF.ev hx,hF.ev hy]:∀(a:Act) (W:World),Fits E a->St G L H W->(execOp a.eval ⟨some d,.binOp .gtr T x y U,ty,pos,aA,g⟩).run C.P W= .ok (.value (.bool (decide (n<m)))) W) a W hF hS
theorem pe(hx:ev E x=some (.int K m))(hy:ev E y=some (.int K n)):RV C G L H E (.binOp .geq T x y U) (.bool (decide (n<=m))):=λd ty pos aA g a W hF hS=>by
 exact(λa W hF _=>by simp[execOp,eqGuard,binOp,Op.intCmp,hF.ev hx,hF.ev hy]:∀(a:Act) (W:World),Fits E a->St G L H W->(execOp a.eval ⟨some d,.binOp .geq T x y U,ty,pos,aA,g⟩).run C.P W= .ok (.value (.bool (decide (n<=m)))) W) a W hF hS
theorem er(hx:ev E x=some (.int K m))(hy:ev E y=some (.int K n)):RV C G L H E (.binOp .eql T x y U) (.bool (decide (m=n))):=λd ty pos aA g a W hF hS=>by
 exact(λa W hF _=>by
  simp only[execOp,eqGuard,binOp,Op.intCmp,hF.ev hx,hF.ev hy];simp;rfl:∀(a:Act) (W:World),Fits E a->St G L H W->(execOp a.eval ⟨some d,.binOp .eql T x y U,ty,pos,aA,g⟩).run C.P W= .ok (.value (.bool (decide (m=n)))) W) a W hF hS
theorem cq(hx:ev E x=some (.int K m))(hy:ev E y=some (.int K n)):RV C G L H E (.binOp .neq T x y U) (.bool (!decide (m=n))):=λd ty pos aA g a W hF hS=>by
 exact(λa W hF _=>by
  simp only[execOp,eqGuard,binOp,Op.intCmp,hF.ev hx,hF.ev hy];simp;rfl:∀(a:Act) (W:World),Fits E a->St G L H W->(execOp a.eval ⟨some d,.binOp .neq T x y U,ty,pos,aA,g⟩).run C.P W= .ok (.value (.bool (!decide (m=n)))) W) a W hF hS
theorem kC(hx:ev E x=some (.int K m))(hy:ev E y=some (.int K n)):RV C G L H E (.binOp .add T x y U) (.int K (K.wrap (m+n))):=λd ty pos aA g a W hF hS=>by
 exact(λa W hF _=>by simp[execOp,eqGuard,binOp,Op.intArith,hF.ev hx,hF.ev hy]:∀(a:Act) (W:World),Fits E a->St G L H W->(execOp a.eval ⟨some d,.binOp .add T x y U,ty,pos,aA,g⟩).run C.P W= .ok (.value (.int K (K.wrap (m+n)))) W) a W hF hS
theorem p8(hx:ev E x=some (.int K m))(hy:ev E y=some (.int K n)):RV C G L H E (.binOp .sub T x y U) (.int K (K.wrap (m-n))):=λd ty pos aA g a W hF hS=>by
 exact(λa W hF _=>by simp[execOp,eqGuard,binOp,Op.intArith,hF.ev hx,hF.ev hy]:∀(a:Act) (W:World),Fits E a->St G L H W->(execOp a.eval ⟨some d,.binOp .sub T x y U,ty,pos,aA,g⟩).run C.P W= .ok (.value (.int K (K.wrap (m-n)))) W) a W hF hS
theorem gX(hx:ev E x=some (.int K m))(hy:ev E y=some (.int K n)):RV C G L H E (.binOp .mul T x y U) (.int K (K.wrap (m*n))):=λd ty pos aA g a W hF hS=>by
 exact(λa W hF _=>by simp[execOp,eqGuard,binOp,Op.intArith,hF.ev hx,hF.ev hy]:∀(a:Act) (W:World),Fits E a->St G L H W->(execOp a.eval ⟨some d,.binOp .mul T x y U,ty,pos,aA,g⟩).run C.P W= .ok (.value (.int K (K.wrap (m*n)))) W) a W hF hS
theorem GP{n:Int}(h1: -9223372036854775808<=n)(h2:n<=9223372036854775807):IntKind.i64.wrap n=n:=by
 unfold IntKind.wrap;simp[IntKind.bits,IntKind.signed];split<;>omega
theorem Iw{n:Int}(h1:0<=n)(h2:n<18446744073709551616):IntKind.u64.wrap n=n:=by
 unfold IntKind.wrap;simp[IntKind.bits,IntKind.signed];omega
theorem nz(n:Int):IntKind.u64.wrap n=n%18446744073709551616:=by
 exact zlk
theorem ngl(n:Int):IntKind.u8.wrap n=n%256:=by
 exact zlk
theorem WR(n:Int):IntKind.u32.wrap n=n%4294967296:=by
 exact zlk
theorem pE(hx:ev E x=some (.int .i64 m))(hy:ev E y=some (.int .i64 n))(h1: -9223372036854775808<=m+n)(h2:m+n<=9223372036854775807):RV C G L H E (.binOp .add T x y U) (.int .i64 (m+n)):=by
 have:=kC (C:=C) (G:=G) (L:=L) (H:=H) (T:=T) (U:=U) hx hy;rwa[GP h1 h2]at this
theorem gz(hx:ev E x=some (.int .i64 m))(hy:ev E y=some (.int .i64 n))(h1: -9223372036854775808<=m-n)(h2:m-n<=9223372036854775807):RV C G L H E (.binOp .sub T x y U) (.int .i64 (m-n)):=by
 have:=p8 (C:=C) (G:=G) (L:=L) (H:=H) (T:=T) (U:=U) hx hy;rwa[GP h1 h2]at this
theorem LZ(hx:ev E x=some (.int .i64 m))(hy:ev E y=some (.int .i64 n))(h1: -9223372036854775808<=m*n)(h2:m*n<=9223372036854775807):RV C G L H E (.binOp .mul T x y U) (.int .i64 (m*n)):=by
 have:=gX (C:=C) (G:=G) (L:=L) (H:=H) (T:=T) (U:=U) hx hy;rwa[GP h1 h2]at this
/-! #### division, shifts, bits -/
theorem Br(hx:ev E x=some (.int K m))(hy:ev E y=some (.int K n))(h0:n≠0):RV C G L H E (.binOp .quo T x y U) (.int K (K.wrap (m.tdiv n))):=λd ty pos aA g a W hF _=>by
 simp[execOp,eqGuard,binOp,Op.intDiv,hF.ev hx,hF.ev hy,h0]
theorem L0(hx:ev E x=some (.int K m))(hy:ev E y=some (.int K n))(h0:n≠0):RV C G L H E (.binOp .rem T x y U) (.int K (m.tmod n)):=λd ty pos aA g a W hF _=>by
 simp[execOp,eqGuard,binOp,Op.intDiv,hF.ev hx,hF.ev hy,h0]
variable {K':IntKind}
theorem lK(hx:ev E x=some (.int K m))(hy:ev E y=some (.int K' n))(h0:0<=n):RV C G L H E (.binOp .shl T x y U) (.int K (K.wrap (m*2^(min n.toNat K.bits)))):=λd ty pos aA g a W hF _=>by
 simp[execOp,eqGuard,binOp,Op.shift,hF.ev hx,hF.ev hy,show ¬n<0 by omega]
theorem gY(hx:ev E x=some (.int K m))(hy:ev E y=some (.int K' n))(h0:0<=n):RV C G L H E (.binOp .shr T x y U) (.int K (m.fdiv (2^(min n.toNat K.bits)))):=λd ty pos aA g a W hF _=>by
 simp[execOp,eqGuard,binOp,Op.shift,hF.ev hx,hF.ev hy,show ¬n<0 by omega]
theorem sd(hx:ev E x=some (.int K m))(hy:ev E y=some (.int K n)):RV C G L H E (.binOp .and T x y U) (.int K (K.wrap (BitVec.ofInt K.bits m&&&BitVec.ofInt K.bits n).toNat)):=λd ty pos aA g a W hF _=>by
 simp only[execOp,eqGuard,binOp,Op.intBits,hF.ev hx,hF.ev hy];simp
theorem tL(hx:ev E x=some (.int K m))(hy:ev E y=some (.int K n)):RV C G L H E (.binOp .or T x y U) (.int K (K.wrap (BitVec.ofInt K.bits m|||BitVec.ofInt K.bits n).toNat)):=λd ty pos aA g a W hF _=>by
 simp only[execOp,eqGuard,binOp,Op.intBits,hF.ev hx,hF.ev hy];simp
theorem sq(hx:ev E x=some (.int K m))(hy:ev E y=some (.int K n)):RV C G L H E (.binOp .xor T x y U) (.int K (K.wrap (BitVec.ofInt K.bits m^^^BitVec.ofInt K.bits n).toNat)):=λd ty pos aA g a W hF _=>by
 simp only[execOp,eqGuard,binOp,Op.intBits,hF.ev hx,hF.ev hy];simp
theorem wO{s:ByteArray}{b:UInt8}(hU:C.P.underlying T=some .string)(hx:ev E x=some (.string s))(hy:ev E y=some (.int K n))(h0:0<=n)(hb:s[n.toNat]? =some b):RV C G L H E (.index T x y) (.int .u8 b.toNat):=λd ty pos aA g a W hF _=>by
 simp[execOp,hF.ev hx,hF.ev hy,Instr.index,asIntOf,run_underlying hU,h0,hb]
def L1:Op->Bool
 | .defer _=>false
 |_=>true
theorem Bs(h:L1 op=true):∀c,op≠ .defer c:=λc e=>by subst e;cases h
theorem rv(hnd:L1 op=true)(hw:np ops E g=some true)(hN:Nat.blt d C.N=true)(h:RV C G L H E op v)(k:OJ C ops Q l ((d,v)::E) D G L H):OJ C ops Q (⟨some d,op,ty,pos,aA,g⟩::l) E D G L H:=
 LY (Bs hnd) hw hN (λa W hF hS=>h d ty pos aA g a W hF hS) k
theorem RV.re{v':Value}(h:RV C G L H E op v)(e:v=v'):RV C G L H E op v':=e▸h
theorem OJ.re{v':Value}(e:v=v')(k:OJ C ops Q l ((d,v')::E) D G L H):OJ C ops Q l ((d,v)::E) D G L H:=by rw[e];exact k
theorem Pt(m:Int)(j:Nat):m.fdiv (2^j)=m/2^j:=Int.fdiv_eq_ediv_of_nonneg _ (Int.le_of_lt (Int.pow_pos zO))
theorem nUn{m:Int}(h0:0<=m)(h1:m<18446744073709551616)(j:Nat)(hj:j<=64):IntKind.u64.wrap (BitVec.ofInt IntKind.u64.bits m&&&BitVec.ofInt IntKind.u64.bits (2^j-1)).toNat=m%2^j:=by
 obtain⟨k,rfl⟩:=BZ h0;have hk:k<18446744073709551616:=by omega
 have e1:(BitVec.ofInt IntKind.u64.bits (k:Int)).toNat=k:=by
  rw[BitVec.ofInt_natCast,BitVec.toNat_ofNat];exact Nat.mod_eq_of_lt hk
 have hp:(2:Int)^j-1=((2^j-1:Nat):Int):=by
  have:0<2^j:=Nat.two_pow_pos j;rw[Int.ofNat_sub zJ];simp
 have hle:2^j<=18446744073709551616:=by
  have:=Nat.pow_le_pow_right (show 0<2 by decide) hj;simpa using this
 have e2:(BitVec.ofInt IntKind.u64.bits ((2:Int)^j-1)).toNat=2^j-1:=by
  rw[hp,BitVec.ofInt_natCast,BitVec.toNat_ofNat];exact Nat.mod_eq_of_lt (by have:0<2^j:=Nat.two_pow_pos j;simp[IntKind.bits];omega)
 rw[BitVec.toNat_and,e1,e2,Nat.and_two_pow_sub_one_eq_mod];have:k%2^j<=k:=Nat.mod_le _ _;rw[Iw zJ zJ];simp
theorem Bt(hx:ev E x=some (.int .u64 m))(hy:ev E y=some (.int .u64 n))(h1:0<=m+n)(h2:m+n<18446744073709551616):RV C G L H E (.binOp .add T x y U) (.int .u64 (m+n)):=by
 have:=kC (C:=C) (G:=G) (L:=L) (H:=H) (T:=T) (U:=U) hx hy;rwa[Iw h1 h2]at this
theorem lM(hx:ev E x=some (.int .u64 m))(hy:ev E y=some (.int .u64 n))(h1:0<=m-n)(h2:m-n<18446744073709551616):RV C G L H E (.binOp .sub T x y U) (.int .u64 (m-n)):=by
 have:=p8 (C:=C) (G:=G) (L:=L) (H:=H) (T:=T) (U:=U) hx hy;rwa[Iw h1 h2]at this
theorem qa(hx:ev E x=some (.int .u64 m))(hy:ev E y=some (.int .u64 n))(h1:0<=m*n)(h2:m*n<18446744073709551616):RV C G L H E (.binOp .mul T x y U) (.int .u64 (m*n)):=by
 have:=gX (C:=C) (G:=G) (L:=L) (H:=H) (T:=T) (U:=U) hx hy;rwa[Iw h1 h2]at this
theorem rW(hx:ev E x=some (.int .u64 m))(hy:ev E y=some (.int .u64 n))(h0:0<=m)(h1:m<18446744073709551616)(h2:1<=n):RV C G L H E (.binOp .quo T x y U) (.int .u64 (m/n)):=by
 have:=Br (C:=C) (G:=G) (L:=L) (H:=H) (T:=T) (U:=U) hx hy zJ;rw[Int.tdiv_eq_ediv_of_nonneg h0,Iw (Int.ediv_nonneg h0 zJ) (Int.lt_of_le_of_lt (Int.ediv_le_self _ h0) h1)]at this;exact this
theorem wT(hx:ev E x=some (.int K m))(hy:ev E y=some (.int K n))(h0:0<=m)(h2:1<=n):RV C G L H E (.binOp .rem T x y U) (.int K (m%n)):=by
 have:=L0 (C:=C) (G:=G) (L:=L) (H:=H) (T:=T) (U:=U) hx hy zJ;rw[Int.tmod_eq_emod_of_nonneg h0]at this;exact this
theorem JH(hx:ev E x=some (.int .i64 m))(hy:ev E y=some (.int .i64 n))(h0:0<=m)(h1:m<9223372036854775808)(h2:1<=n):RV C G L H E (.binOp .quo T x y U) (.int .i64 (m/n)):=by
 have:=Br (C:=C) (G:=G) (L:=L) (H:=H) (T:=T) (U:=U) hx hy zJ;have h3:m/n<=m:=Int.ediv_le_self _ h0;have h4:0<=m/n:=Int.ediv_nonneg h0 zJ;rw[Int.tdiv_eq_ediv_of_nonneg h0,GP zJ zJ]at this;exact this
variable {j:Nat}
theorem nOl(hj:Nat.ble j K.bits=true):min (Int.toNat (j:Int)) K.bits=j:=by
 have:=bj hj;simp;omega
theorem fK(j:Nat)(q:Int)(hq:(2:Int)^j=q)(hj:Nat.ble j K.bits=true)(hx:ev E x=some (.int K m))(hy:ev E y=some (.int K' (j:Int))):RV C G L H E (.binOp .shr T x y U) (.int K (m/q)):=by
 have:=gY (C:=C) (G:=G) (L:=L) (H:=H) (T:=T) (U:=U) hx hy zJ;rw[nOl hj,Pt,hq]at this;exact this
theorem wY(j:Nat)(q:Int)(hq:(2:Int)^j=q)(hj:Nat.ble j K.bits=true)(hx:ev E x=some (.int K m))(hy:ev E y=some (.int K' (j:Int))):RV C G L H E (.binOp .shl T x y U) (.int K (K.wrap (m*q))):=by
 have:=lK (C:=C) (G:=G) (L:=L) (H:=H) (T:=T) (U:=U) hx hy zJ;rw[nOl hj,hq]at this;exact this
theorem lL(j:Nat)(q:Int)(hq:(2:Int)^j=q)(hj:Nat.ble j 64=true)(hx:ev E x=some (.int .u64 m))(hy:ev E y=some (.int .u64 n))(hn:n=q-1)(h0:0<=m)(h1:m<18446744073709551616):RV C G L H E (.binOp .and T x y U) (.int .u64 (m%q)):=by
 have:=sd (C:=C) (G:=G) (L:=L) (H:=H) (T:=T) (U:=U) hx hy;rw[hn,<-hq,nUn h0 h1 j (bj hj)]at this;rwa[<-hq]
theorem hJ{S T':Nat}{ds:TypeDesc}(Bu:C.P.underlying S=some ds)(hT:C.P.underlying T'=some (.int K'))(hx:ev E x=some (.int K m)):RV C G L H E (.convert S T' x) (.int K' (K'.wrap m)):=λd ty pos aA g a W hF hS=>by
 exact(λa W hF _=>by
  simp[execOp,convert,hF.ev hx,run_underlying Bu,run_underlying hT,Conv.intToInt]:∀(a:Act) (W:World),Fits E a->St G L H W->(execOp a.eval ⟨some d,.convert S T' x,ty,pos,aA,g⟩).run C.P W= .ok (.value (.int K' (K'.wrap m))) W) a W hF hS
theorem sa{S T':Nat}{ds:TypeDesc}(Bu:C.P.underlying S=some ds)(hT:C.P.underlying T'=some (.int .i64))(hx:ev E x=some (.int K m))(h1: -9223372036854775808<=m)(h2:m<=9223372036854775807):RV C G L H E (.convert S T' x) (.int .i64 m):=by
 have:=hJ (C:=C) (G:=G) (L:=L) (H:=H) Bu hT hx;rwa[GP h1 h2]at this
theorem rV{S T':Nat}{ds:TypeDesc}(Bu:C.P.underlying S=some ds)(hT:C.P.underlying T'=some (.int .u64))(hx:ev E x=some (.int K m))(h1:0<=m)(h2:m<18446744073709551616):RV C G L H E (.convert S T' x) (.int .u64 m):=by
 have:=hJ (C:=C) (G:=G) (L:=L) (H:=H) Bu hT hx;rwa[Iw h1 h2]at this
theorem lQ{S T':Nat}{ds:TypeDesc}(Bu:C.P.underlying S=some ds)(hT:C.P.underlying T'=some (.int .u8))(hx:ev E x=some (.int K m)):RV C G L H E (.convert S T' x) (.int .u8 (m%256)):=by
 have:=hJ (C:=C) (G:=G) (L:=L) (H:=H) Bu hT hx;rwa[ngl]at this
theorem Ga{S T':Nat}{ds:TypeDesc}(Bu:C.P.underlying S=some ds)(hT:C.P.underlying T'=some (.int .u8))(hx:ev E x=some (.int K m))(h0:0<=m)(h1:m<256):RV C G L H E (.convert S T' x) (.int .u8 m):=by
 have:=lQ (C:=C) (G:=G) (L:=L) (H:=H) Bu hT hx;rwa[Int.emod_eq_of_lt h0 h1]at this
end ints
theorem dA{b:Bool}(hx:ev E x=some (.bool b)):RV C G L H E (.unOp .not T x) (.bool (!b)):=λd ty pos aA g a W hF hS=>by
 exact(λa W hF _=>by simp[execOp,Op.unary,hF.ev hx]:∀(a:Act) (W:World),Fits E a->St G L H W->(execOp a.eval ⟨some d,.unOp .not T x,ty,pos,aA,g⟩).run C.P W= .ok (.value (.bool (!b))) W) a W hF hS
variable {i:Nat}
theorem gk{vs:Array Value}(hx:ev E x=some (.tuple vs))(hv:vs[i]? =some v):RV C G L H E (.extract x i) (v):=λd ty pos aA g a W hF hS=>by
 exact(λa W hF _=>by simp[execOp,Instr.extract,hF.ev hx,hv]:∀(a:Act) (W:World),Fits E a->St G L H W->(execOp a.eval ⟨some d,.extract x i,ty,pos,aA,g⟩).run C.P W= .ok (.value (v)) W) a W hF hS
/-! #### calls -/
/-- What a contract says that leaves all that lay as_ it lay: it returns v. -/
def ay (w:World) (v:Value):Ending->World->Prop:=λe w'=>e= .returned v/\Below w.heap.size w w'
def cJ {α:Type} (w:World) (v:α->Value) (Φ:α->World->Prop):Ending->World->Prop:=λe w'=>∃x,e= .returned (v x)/\Below w.heap.size w w'/\Φ x w'
def dP (P:Program) (f:Nat):Prop:=∀(args:Array Value) (w:World),(callFunc f args).run P w= .ok (.enter f args) w
def gR (E:Env):List Operand->Option (List Value)
 | []=>some []
 |x::xs=>
  match ev E x with
  |some v=>
   match gR E xs with
   |some vs=>some (v::vs)
   |none=>none
  |none=>none
theorem Gb{E:Env}{a:Act}(h:Fits E a):∀(xs:List Operand) (vs:List Value),gR E xs=some vs->xs.map a.eval=vs
 | [],vs,hv=>by simp[gR]at hv;simp[hv]
 |x::xs,vs,hv=>by
  simp only[gR]at hv;cases hx:ev E x with
  |none=>simp[hx]at hv
  |some v=>
   simp only[hx]at hv;cases hs:gR E xs with
   |none=>simp[hs]at hv
   |some us=>
    simp only[hs,qE]at hv;subst hv;simp[h.ev hx,Gb h xs us hs]
variable {f:Nat} {xs:List Operand} {vs:List Value} {dJ:Array Nat}
theorem nX{o:Oper}(ho:o.op= .call ⟨.value x,xs.toArray,dJ⟩){first cap iz:Array Value}(hw:np ops E o.guard=some true)(hx:ev E x=some (.func (.func f) first cap))(ha:gR E xs=some vs)(has:first++vs.toArray++cap=iz)(az:dP C.P f)(hc:∀a W,a.tmps.size=C.N->a.defers=D->Fits E a->St G L H W->Calls C.P f iz W λ| .returned v,W'=>wpListIn (FW C.r) 0 C.P ops Q l (a.put o.dst v) W'| .panicked ch,W'=>Q (.panic ch) a W'| .outgrown,_=>LetsOut Q):OJ C ops Q (o::l) E D G L H:=by
 intro a W hN hD hF hS;unfold wpListIn;rw[if_pos (tD hF hw)];refine⟨λ_ _=>trivial,?_⟩;have hr:(execOp a.eval o).run C.P W= .ok (.enter f iz) W:=by
  have h2:(xs.toArray).map a.eval=vs.toArray:=by rw[wK,Gb hF xs vs ha]
  simp only[execOp,ho,resolve,hF.ev hx,Deferred.ofValue,h2];simp[invoke,has,az iz W]
 rw[Oper.semAt_eq _ _ _ (by rw[ho];simp),hr,Oper.uponIn_enter];exact⟨by simp,Bp.2 (hc a W hN hD hF hS)⟩
theorem call(az:dP C.P f)(hw:np ops E g=some true)(hN:Nat.blt d C.N=true)(ha:gR E xs=some vs)(hc:∀W,St G L H W->Calls C.P f vs.toArray W (ay W v))(k:OJ C ops Q l ((d,v)::E) D G L H):OJ C ops Q (⟨some d,.call ⟨.value (.func f),xs.toArray,dJ⟩,ty,pos,aA,g⟩::l) E D G L H:=
 nX rfl hw rfl ha zX az λa W gQ hD hF hS=>(hc W hS).mono (by
  rintro e W' ⟨rfl,hb⟩;exact k (a.put (some d) v) W' jY jr (hF.put _ kT) (hS.step hb))
theorem nB{α:Type}{v:α->Value}{Φ:World->α->World->Prop}(az:dP C.P f)(hw:np ops E g=some true)(hN:Nat.blt d C.N=true)(ha:gR E xs=some vs)(hc:∀W,St G L H W->Calls C.P f vs.toArray W (cJ W v (Φ W)))(k:∀W x w1,St G L H W->Below W.heap.size W w1->Φ W x w1->OJ C ops Q l ((d,v x)::E) D G (w1::L) H):OJ C ops Q (⟨some d,.call ⟨.value (.func f),xs.toArray,dJ⟩,ty,pos,aA,g⟩::l) E D G L H:=
 nX rfl hw rfl ha zX az λa W gQ hD hF hS=>(hc W hS).mono (by
  rintro e W' ⟨x,rfl,hb,hx⟩;exact k W x W' hS hb hx (a.put (some d) (v x)) W' jY jr (hF.put _ kT) (hS.step hb).snap)
end
/-! #### into a function, and out of it -/
def wL:Nat->List Value->Env
 |_,[]=>[]
 |i,v::vs=>(i,v)::wL (i+1) vs
theorem nwi:∀(vs:List Value) (i t:Nat) (v:Value),look (wL i vs) t=some v->i<=t/\vs[t-i]? =some v
 | [],i,t,v,h=>by simp[wL,look]at h
 |u::vs,i,t,v,h=>by
  simp only[wL,look]at h;by_cases e:i=t
  ·subst e;simp only[wJ,qE]at h;subst h;simp
  simp only[wI e]at h;obtain⟨h1,h2⟩:=nwi vs (i+1) t v h;refine⟨by omega,?_⟩;have:t-i=(t-(i+1))+1:=by omega
  rw[this];simpa using h2
theorem Th(vs:List Value)(n:Nat):Fits (wL 0 vs) ⟨vs.toArray++Array.replicate n undef,[]⟩:=by
 intro t v h;obtain⟨_,h⟩:=nwi vs 0 t v h;simp only[Nat.sub_zero]at h;have hlt:=(gi.1 h).1;simp only[Act.eval,Array.getD_eq_getD_getElem?];rw[Oe (by simpa using hlt)];simp[h]
variable {R:Ending->World->Prop} {vs:List Value} {N f:Nat}
theorem nL{P:Program}{fn:Func}{c:Code}{w:World}(G:Gh)(H:ab)(hf:P.funcs[f]? =some fn)(hb:fn.body=some c)(hN:fn.ntmps=N)(hl:Nat.ble vs.length N=true)(hS:St G [w] H w)(h:CJ ⟨P,none,N⟩ c (bodyPost P fn R) (wL 0 vs) [] G [w] H):Calls P f vs.toArray w R:=by
 rw[<-Bp (r:=none) (n:=0)];refine callsIn_of_wp hf hb trivial (h _ w ?_ rfl ?_ hS)
 ·exact Tj
 exact Th vs _
theorem uK(w:World):St Gh.no [w] [] w:=
 ⟨trivial,λ_ h=>h.elim,λ_ h=>h.elim,λw' hw=>by simp at hw;subst hw;exact aF.refl _ _,λ_ h=>by simp at h,λ_ _ _ _ h=>by simp at h,λ_ h=>by simp at h⟩
theorem enter{P:Program}{fn:Func}{c:Code}{w:World}(hf:P.funcs[f]? =some fn)(hb:fn.body=some c)(hN:fn.ntmps=N)(hl:Nat.ble vs.length N=true)(h:CJ ⟨P,none,N⟩ c (bodyPost P fn R) (wL 0 vs) [] Gh.no [w] []):Calls P f vs.toArray w R:=
 nL Gh.no [] hf hb hN hl (uK w) h
section
variable {C:Cx} {fn:Func} {R:Ending->World->Prop} {E:Env} {G:Gh} {L:List World} {H:ab}
variable {W:World}
theorem St.belowNo{w:World}(h:St Gh.no L [] W)(hw:w∈L):Below w.heap.size w W:=
 (h.links w hw).below λk _ hx=>by simp[Gh.no]at hx
variable {v:Value}
theorem Tk{t:Nat}(hr:fn.results=#[.tmp t])(hv:look E t=some v)(h:∀W,St G L H W->R (.returned v) W):PJ C (bodyPost C.P fn R) .ret E [] G L H:=
 λa W _ hD hF hS=>⟨hD,v,by rw[results_tmp hr];exact congrArg (λu=>Result.ok u W) (hF t v hv),h W hS⟩
variable {u:Nat}
theorem adn{t:Nat}{v':Value}(hr:fn.results=#[.tmp t,.tmp u])(hv:look E t=some v)(hv':look E u=some v')(h:∀W,St G L H W->R (.returned (.tuple #[v,v'])) W):PJ C (bodyPost C.P fn R) .ret E [] G L H:=
 λa W _ hD hF hS=>⟨hD,.tuple #[v,v'],by
  rw[results_tmp2 hr];have h1:=hF t v hv;have h2:=hF u v' hv';simp only[Act.eval]at h1 h2;rw[h1,h2],h W hS⟩
theorem kH{α:Type}{t:Nat}{w:World}{u:α->Value}{Φ:α->World->Prop}(x:α)(hr:fn.results=#[.tmp t])(hv:look E t=some v)(hw:w∈L)(e:v=u x)(h:∀W,St Gh.no L [] W->Φ x W):PJ C (bodyPost C.P fn (cJ w u Φ)) .ret E [] Gh.no L []:=
 Tk hr hv λW hS=>⟨x,by rw[e],hS.belowNo hw,h W hS⟩
theorem ax{t:Nat}{v':Value}{w:World}(hr:fn.results=#[.tmp t])(hv:look E t=some v)(hw:w∈L)(e:v=v'):PJ C (bodyPost C.P fn (ay w v')) .ret E [] Gh.no L []:=
 Tk hr hv λ_ hS=>⟨by rw[e],hS.belowNo hw⟩
theorem nS{t:Nat}{v' v1 v2:Value}{w:World}(hr:fn.results=#[.tmp t,.tmp u])(hv:look E t=some v)(hv':look E u=some v')(hw:w∈L)(e:v=v1)(e':v'=v2):PJ C (bodyPost C.P fn (ay w (.tuple #[v1,v2]))) .ret E [] Gh.no L []:=
 adn hr hv hv' λ_ hS=>⟨by rw[e,e'],hS.belowNo hw⟩
end
end Px
namespace Px
open Go Go.RowKit
section
variable {C:Cx} {Q:aC} {E:Env} {D:List Deferred} {G:Gh} {L:List World} {H:ab} {K:Act->World->Prop} {id j:Nat}
theorem PJ.retThen(h:PJ C Q .ret E D G L H):PJ C (Exit.then K Q) .ret E D G L H:=h
theorem PJ.retBlock(h:PJ C Q .ret E D G L H):PJ C (Exit.inBlock id Q) .ret E D G L H:=h
theorem PJ.norBlock(h:PJ C Q .normal E D G L H):PJ C (Exit.inBlock id Q) .normal E D G L H:=h
theorem PJ.exThen(h:PJ C Q (.exit id) E D G L H):PJ C (Exit.then K Q) (.exit id) E D G L H:=h
theorem PJ.exHit(h:PJ C Q .normal E D G L H):PJ C (Exit.inBlock id Q) (.exit id) E D G L H:=λa W hN hD hF hS=>by
 simp only[Exit.inBlock,if_true];exact h a W hN hD hF hS
theorem nec(dn:Nat.beq id j=false)(h:PJ C Q (.exit id) E D G L H):PJ C (Exit.inBlock j Q) (.exit id) E D G L H:=λa W hN hD hF hS=>by
 have:¬id=j:=λe=>by subst e;rw[wJ]at dn;cases dn
 simp only[Exit.inBlock,this,if_false];exact h a W hN hD hF hS
theorem nSg(p:Nat->Prop):∀n,p n->∃m,p m/\∀k,p k->m<=k:=by
 intro n;induction n using Nat.strongRecOn with
 |_ n ih=>
  intro hn;by_cases h:∃k,k<n/\p k
  ·obtain⟨k,hk,hp⟩:=h;exact ih k hk hp
  exact⟨n,hn,λk hk=>Tl λhlt=>h ⟨k,hlt,hk⟩⟩
open Classical in
noncomputable def Of (p:Nat->Prop):Nat:=if h:∃m,p m/\∀k,p k->m<=k then Classical.choose h else 0
theorem nAe{p:Nat->Prop}(h:∃n,p n):p (Of p):=by
 obtain⟨n,hn⟩:=h;have h:=nSg p n hn;unfold Of;rw[dif_pos h];exact(Classical.choose_spec h).1
theorem n7f{p:Nat->Prop}{n:Nat}(hn:p n):Of p<=n:=by
 have h:=nSg p n hn;unfold Of;rw[dif_pos h];exact(Classical.choose_spec h).2 n hn
def Ix {α:Type} (C:Cx) (D:List Deferred) (Ei:α->Env) (Hi:α->ab) (Li:α->List World) (Gi:α->Gh) (ok:α->Prop) (μ:α->Nat) (x:α) (a:Act) (W:World):Prop:=
 ∃x',ok x'/\μ x'<μ x/\a.tmps.size=C.N/\a.defers=D/\Fits (Ei x') a/\St (Gi x') (Li x') (Hi x') W
theorem CJ.loop{α:Type}{c:Code}(Ei:α->Env)(Hi:α->ab)(Li:α->List World)(Gi:α->Gh)(ok:α->Prop)(μ:α->Nat)(x0:α)(h0:ok x0)(hE:Sub (Ei x0) E)(hH:Hi x0=H)(hG:Gi x0=G)(hL:∀w∈Li x0,w∈L)(round:∀x,ok x->CJ C c (Exit.then (Ix C D Ei Hi Li Gi ok μ x) Q) (Ei x) D (Gi x) (Li x) (Hi x)):CJ C (.loop c) Q E D G L H:=by
 intro a W hN hD hF hS;subst hH;subst hG
 let Inv:Act->World->Nat->Prop:=λa W m=>∃x,μ x=m/\ok x/\a.tmps.size=C.N/\a.defers=D/\Fits (Ei x) a/\St (Gi x) (Li x) (Hi x) W
 refine z0g ?_;exact zBi
theorem PJ.again{α:Type}{Ei:α->Env}{Hi:α->ab}{Li:α->List World}{Gi:α->Gh}{ok:α->Prop}{μ:α->Nat}{x:α}(x':α)(h0:ok x')(hlt:μ x'<μ x)(hE:Sub (Ei x') E)(hH:Hi x'=H)(hG:Gi x'=G)(hL:∀w∈Li x',w∈L):PJ C (Exit.then (Ix C D Ei Hi Li Gi ok μ x) Q) .normal E D G L H:=by
 intro a W hN hD hF hS;subst hH;subst hG;exact⟨x',h0,hlt,hN,hD,hE.fits hF,hS.lessL hL⟩
end
end Px
namespace Px
open Go Go.RowKit
abbrev ptr (b off:Nat):Value:=.pointer (some ⟨b,off,none⟩)
abbrev nZ (P:Program) (t n:Nat):Prop:=∀w:World,(Go.sizeOf t).run P w= .ok n w
abbrev eZ (P:Program) (t:Nat) (b:Bool):Prop:=∀w:World,(isAgg t).run P w= .ok b w
abbrev tF (P:Program) (t:Nat) (v:Value):Prop:=∀w:World,(zeroValue t).run P w= .ok v w
theorem Iy(b off n:Nat):(⟨b,off,none⟩:Addr).add n=⟨b,off+n,none⟩:=by
 unfold Addr.add;split<;>simp_all
variable {cs:Array Value} {b:Nat} {fr:Nat×Nat} {W:World}
theorem Cc{t:Nat}(h:W.heap[b]? =some (.cells cs t fr))(i:Nat):W.cell? ⟨b,i,none⟩=cs[i]? :=by
 simp[World.cell?,h]
variable {T:Nat} {v:Value}
theorem nMg{P:Program}{t off:Nat}(hA:eZ P T false)(h:W.heap[b]? =some (.cells cs t fr))(hv:cs[off]? =some v):(loadVar T ⟨b,off,none⟩).run P W= .ok v W:=by
 have:W.cell? ⟨b,off,none⟩=some v:=by rw[Cc h,hv]
 simp[loadVar,hA,load,Sem.run,this]
theorem nkg{P:Program}{t off n:Nat}(h:W.heap[b]? =some (.cells cs t fr))(hn:off+n<=cs.size):(loadCells ⟨b,off,none⟩ n).run P W= .ok (cs.extract off (off+n)) W:=by
 have hl:(cs.extract off (off+n)).toList.length=n:=by simp;omega
 have:=run_loadCells_list (P:=P) W ⟨b,off,none⟩ (cs.extract off (off+n)).toList (λj v hv=>by
  rw[Iy,Cc h];have hj:j<n:=by
   have:=(gi.1 hv).1;omega
  rw[vY,Array.getElem?_extract]at hv;simpa[show j<min (off+n) cs.size-off by omega]using hv)
 rw[hl]at this;rw[this,Array.toArray_toList]
def cut (cs:Array Value) (off n:Nat):Array Value:=((cs.toList.drop off).take n).toArray
theorem nuh(cs:Array Value)(off n:Nat):cs.extract off (off+n)=cut cs off n:=by
 apply Array.ext';rw[Array.toList_extract,cut,List.extract_eq_take_drop];simp
theorem n7g(cs:Array Value)(n:Nat)(h:cs.size=n):cut cs 0 n=cs:=by
 apply Array.ext';have:cs.toList.length=n:=by simpa using h
 simp[cut,<-this,-Array.length_toList]
theorem ntg{P:Program}{t off n:Nat}(hA:eZ P T true)(hZ:nZ P T n)(h:W.heap[b]? =some (.cells cs t fr))(hn:off+n<=cs.size):(loadVar T ⟨b,off,none⟩).run P W= .ok (.agg (cut cs off n)) W:=by
 simp[loadVar,hA W,hZ W,nkg h hn,nuh]
def setCells (cs:Array Value) (off:Nat):List Value->Array Value
 | []=>cs
 |x::xs=>setCells (cs.setIfInBounds off x) (off+1) xs
theorem nVd(cs:Array Value)(off:Nat)(xs:List Value):(setCells cs off xs).size=cs.size:=by
 induction xs generalizing cs off with
 |nil=>rfl
 |cons x xs ih=>simp[setCells,ih]
def sj:Value->Bool
 | .agg _| .tuple _=>false
 |_=>true
def nT:List Value->Bool
 | []=>true
 |x::xs=>sj x&&nT xs
theorem nLn{P:Program}{t off:Nat}(h:W.heap[b]? =some (.cells cs t (0,0)))(lS:off<cs.size)(h1:sj v=true):(store ⟨b,off,none⟩ v).run P W= .ok () (W.setCell ⟨b,off,none⟩ v):=by
 have hc:W.cell? ⟨b,off,none⟩=some cs[off]:=by rw[Cc h];simp[lS]
 have hf:W.frozen? ⟨b,off,none⟩=false:=by simp[World.frozen?,h]
 cases v<;>simp_all[store,Sem.run,sj]
theorem nzg{t off:Nat}(v:Value)(h:W.heap[b]? =some (.cells cs t fr)):(W.setCell ⟨b,off,none⟩ v).heap[b]? =some (.cells (cs.setIfInBounds off v) t fr):=by
 have hlt:=(aT.1 h);simp only[World.setCell,WS,if_true,h];simp
theorem nqg(W:World)(b off:Nat)(v:Value):aF (· =b) W (W.setCell ⟨b,off,none⟩ v):=
 ⟨rfl,rfl,rfl,by simp[World.setCell],λk _ hk=>by
  simp only[World.setCell,WS];rw[if_neg (λe=>hk e.symm)]⟩
theorem WT{P:Program}{b t off:Nat}:∀(xs:List Value) (i:Nat) (cs:Array Value) (W:World),W.heap[b]? =some (.cells cs t (0,0))->off+i+xs.length<=cs.size->nT xs=true->∃W',(storeCells ⟨b,off,none⟩ xs i).run P W= .ok () W'/\aF (· =b) W W'/\W'.heap[b]? =some (.cells (setCells cs (off+i) xs) t (0,0))
 | [],i,cs,W,h,_,_=>⟨W,by simp[storeCells],aF.refl _ _,h⟩
 |x::xs,i,cs,W,h,hn,h1=>by
  simp only[nT,fm]at h1;simp only[dQ]at hn;have hs:=nLn (P:=P) h (show off+i<cs.size by omega) h1.1;obtain⟨W',hr,hk,hb⟩:=WT (P:=P) (off:=off) xs (i+1) (cs.setIfInBounds (off+i) x) (W.setCell ⟨b,off+i,none⟩ x) (nzg x h) jB h1.2;refine⟨W',?_,(nqg W b (off+i) x).trans hk,?_⟩
  ·unfold storeCells;rw[Sem.run_bind,Iy,hs];simpa using hr
  rw[hb,setCells];rfl
theorem nFl{P:Program}{t off n:Nat}(hZ:nZ P T n)(hv:v.cells.size=n)(h:W.heap[b]? =some (.cells cs t (0,0)))(hn:off+n<=cs.size)(h1:nT v.cells.toList=true):∃W',(storeVar T ⟨b,off,none⟩ v).run P W= .ok () W'/\aF (· =b) W W'/\W'.heap[b]? =some (.cells (setCells cs off v.cells.toList) t (0,0)):=by
 obtain⟨W',hr,hk,hb⟩:=WT (P:=P) (off:=off) v.cells.toList 0 cs W h (by simp[hv];omega) h1;exact⟨W',by simp[storeVar,hZ W,hv,hr],hk,hb⟩
section
variable {C:Cx} {Q:aC} {E:Env} {D:List Deferred} {G:Gh} {L:List World} {H:ab} {ops:Array Oper} {l:List Oper}
variable {d T ty:Nat} {pos:String} {aA:Array Edge} {g:Option (Nat×Bool)} {x y:Operand}
variable {op:Op}
theorem oG(hnd:∀c,op≠ .defer c)(hw:np ops E g=some true)(hN:Nat.blt d C.N=true)(h:∀a W,Fits E a->St G L H W->∃v W' L' H',(execOp a.eval ⟨some d,op,ty,pos,aA,g⟩).run C.P W= .ok (.value v) W'/\St G L' H' W'/\OJ C ops Q l ((d,v)::E) D G L' H'):OJ C ops Q (⟨some d,op,ty,pos,aA,g⟩::l) E D G L H:=by
 intro a W gQ hD hF hS;obtain⟨v,W',L',H',hr,fq,k⟩:=h a W hF hS;unfold wpListIn;rw[if_pos (tD hF hw)];refine⟨λ_ _=>trivial,?_⟩;rw[Oper.semAt_eq _ _ _ hnd,hr,Oper.uponIn_value];exact k (a.put (some d) v) W' jY jr (hF.put _ kT) fq
theorem St.offNew(h:St G L H W):bD H W.heap.size:=bD.of_mem λhm=>by
 obtain⟨p,hp,e⟩:=bW.1 hm;have:=h.lt p hp;omega
theorem St.mNew(h:St G L H W):¬G.X W.heap.size:=λhm=>by have:=h.xlt _ hm;omega
theorem nRi{P:Program}{a:Act}(hx:a.eval x=v):(execOp a.eval ⟨some d,.box T x,ty,pos,aA,g⟩).run P W= .ok (.value (ptr W.heap.size 0)) (W.alloc (.cells v.cells T (0,0))):=by
 simp[execOp,hx,Instr.box,newVar,newRow,newObj,Sem.run]
theorem nso{P:Program}{z:Value}{a:Act}(hz:tF P T z):(execOp a.eval ⟨some d,.alloc T,ty,pos,aA,g⟩).run P W= .ok (.value (ptr W.heap.size 0)) (W.alloc (.cells z.cells T (0,0))):=by
 simp[execOp,Instr.alloc,hz W,newVar,newRow,newObj,Sem.run]
theorem Tm(hw:np ops E g=some true)(hN:Nat.blt d C.N=true)(hx:ev E x=some v)(k:∀(b:Nat) (w1:World),w1.heap[b]? =some (.cells v.cells T (0,0))->ad L b->bD H b->¬G.X b->w1.heap.size=b+1->OJ C ops Q l ((d,ptr b 0)::E) D G (w1::L) H):OJ C ops Q (⟨some d,.box T x,ty,pos,aA,g⟩::l) E D G L H:=
 oG zX hw hN λ_ W hF hS=>⟨_,_,_,_,nRi (hF.ev hx),(hS.step (Sg W _)).snap,
  k W.heap.size _ (heap_alloc_new W _) hS.sizes hS.offNew hS.mNew zX⟩
theorem Pj(hw:np ops E g=some true)(hN:Nat.blt d C.N=true)(hx:ev E x=some v)(k:∀(b:Nat),ad L b->bD H b->OJ C ops Q l ((d,ptr b 0)::E) D G L ((b,.cells v.cells T (0,0))::H)):OJ C ops Q (⟨some d,.box T x,ty,pos,aA,g⟩::l) E D G L H:=
 oG zX hw hN λ_ W hF hS=>⟨_,_,_,_,nRi (hF.ev hx),hS.alloc _,k W.heap.size hS.sizes hS.offNew⟩
theorem aZ{z:Value}(hz:tF C.P T z)(hw:np ops E g=some true)(hN:Nat.blt d C.N=true)(k:∀(b:Nat),ad L b->bD H b->OJ C ops Q l ((d,ptr b 0)::E) D G L ((b,.cells z.cells T (0,0))::H)):OJ C ops Q (⟨some d,.alloc T,ty,pos,aA,g⟩::l) E D G L H:=
 oG zX hw hN λ_ W _ hS=>⟨_,_,_,_,nso hz,hS.alloc _,k W.heap.size hS.sizes hS.offNew⟩
variable {f:Nat}
theorem al{off n:Nat}{fs:Array Field}{fi:Field}(hU:C.P.underlying T=some (.struct fs))(hf:fs[f]? =some fi)(hZ:nZ C.P fi.type (n+1))(hx:ev E x=some (ptr b off)):RV C G L H E (.fieldAddr T x f) (ptr b (off+fi.offset)):=λd ty pos aA g a W hF hS=>by
 exact(λa W hF _=>by
  simp[execOp,hF.ev hx,Instr.fieldAt,run_underlying hU,hf,Instr.sureAddr,fieldPlace,hZ W,Iy]:∀(a:Act) (W:World),Fits E a->St G L H W->(execOp a.eval ⟨some d,.fieldAddr T x f,ty,pos,aA,g⟩).run C.P W= .ok (.value (ptr b (off+fi.offset))) W) a W hF hS
variable {K:IntKind} {e:Nat}
theorem kh{off len n:Nat}{i:Int}(hU:C.P.underlying T=some (.array len e))(hZ:nZ C.P e n)(hx:ev E x=some (ptr b off))(hy:ev E y=some (.int K i))(h0:0<=i)(h1:i<len):RV C G L H E (.indexAddr T x y) (ptr b (off+i.toNat*n)):=λd ty pos aA g a W hF hS=>by
 exact(λa W hF _=>by
  simp[execOp,hF.ev hx,hF.ev hy,Instr.indexAt,asIntOf,run_underlying hU,Instr.sureAddr,h0,h1,hZ W,Iy]:∀(a:Act) (W:World),Fits E a->St G L H W->(execOp a.eval ⟨some d,.indexAddr T x y,ty,pos,aA,g⟩).run C.P W= .ok (.value (ptr b (off+i.toNat*n))) W) a W hF hS
theorem cD{off len cap n:Nat}{i:Int}(hU:C.P.underlying T=some (.slice e))(hZ:nZ C.P e n)(hx:ev E x=some (.slice (some ⟨b,off,none⟩) len cap))(hy:ev E y=some (.int K i))(h0:0<=i)(h1:i<len):RV C G L H E (.indexAddr T x y) (ptr b (off+i.toNat*n)):=λd ty pos aA g a W hF hS=>by
 exact(λa W hF _=>by
  simp[execOp,hF.ev hx,hF.ev hy,Instr.indexAt,asIntOf,run_underlying hU,h0,h1,hZ W,Iy]:∀(a:Act) (W:World),Fits E a->St G L H W->(execOp a.eval ⟨some d,.indexAddr T x y,ty,pos,aA,g⟩).run C.P W= .ok (.value (ptr b (off+i.toNat*n))) W) a W hF hS
variable {vs:List Value}
theorem Tn{fn:Fn}{xs:List Operand}(ha:gR E xs=some vs):RV C G L H E (.makeFunc fn #[] xs.toArray) (.func fn #[] vs.toArray):=λd ty pos aA g a W hF _=>by
 have h2:(xs.toArray).map a.eval=vs.toArray:=by rw[wK,Gb hF xs vs ha]
 simp[execOp,Instr.makeFunc,h2]
/-! #### loads -/
theorem nDj{P:Program}{t off:Nat}{a:Act}(hA:eZ P T false)(hx:a.eval x=ptr b off)(h:W.heap[b]? =some (.cells cs t fr))(hv:cs[off]? =some v):(execOp a.eval ⟨some d,.load T x,ty,pos,aA,g⟩).run P W= .ok (.value v) W:=by
 simp[execOp,hx,Instr.loadAt,Instr.sureAddr,nMg hA h hv]
theorem nOj{P:Program}{t off n:Nat}{a:Act}(hA:eZ P T true)(hZ:nZ P T n)(hx:a.eval x=ptr b off)(h:W.heap[b]? =some (.cells cs t fr))(hn:off+n<=cs.size):(execOp a.eval ⟨some d,.load T x,ty,pos,aA,g⟩).run P W= .ok (.value (.agg (cut cs off n))) W:=by
 simp[execOp,hx,Instr.loadAt,Instr.sureAddr,ntg hA hZ h hn]
variable {w1:World}
theorem aa{off t:Nat}(hA:eZ C.P T false)(hx:ev E x=some (ptr b off))(hm:w1∈L)(hb:w1.heap[b]? =some (.cells cs t fr))(hG:¬G.X b)(hO:bD H b)(hv:cs[off]? =some v):RV C G L H E (.load T x) (v):=λd ty pos aA g a W hF hS=>by
 exact(λ_ _ hF hS=>nDj hA (hF.ev hx) (hS.old hm hb hG hO) hv:∀(a:Act) (W:World),Fits E a->St G L H W->(execOp a.eval ⟨some d,.load T x,ty,pos,aA,g⟩).run C.P W= .ok (.value (v)) W) a W hF hS
theorem ai{off t n:Nat}(hA:eZ C.P T true)(hZ:nZ C.P T n)(hx:ev E x=some (ptr b off))(hm:w1∈L)(hb:w1.heap[b]? =some (.cells cs t fr))(hG:¬G.X b)(hO:bD H b)(hn:off+n<=cs.size):RV C G L H E (.load T x) (.agg (cut cs off n)):=λd ty pos aA g a W hF hS=>by
 exact(λ_ _ hF hS=>nOj hA hZ (hF.ev hx) (hS.old hm hb hG hO) hn:∀(a:Act) (W:World),Fits E a->St G L H W->(execOp a.eval ⟨some d,.load T x,ty,pos,aA,g⟩).run C.P W= .ok (.value (.agg (cut cs off n))) W) a W hF hS
variable {i:Nat}
theorem aK{off t:Nat}(hi:H[i]? =some (b,.cells cs t fr))(hA:eZ C.P T false)(hx:ev E x=some (ptr b off))(hv:cs[off]? =some v):RV C G L H E (.load T x) (v):=λd ty pos aA g a W hF hS=>by
 exact(λ_ _ hF hS=>nDj hA (hF.ev hx) (hS.own _ (cb hi)) hv:∀(a:Act) (W:World),Fits E a->St G L H W->(execOp a.eval ⟨some d,.load T x,ty,pos,aA,g⟩).run C.P W= .ok (.value (v)) W) a W hF hS
theorem dd{off t n:Nat}(hi:H[i]? =some (b,.cells cs t fr))(hA:eZ C.P T true)(hZ:nZ C.P T n)(hx:ev E x=some (ptr b off))(hn:off+n<=cs.size):RV C G L H E (.load T x) (.agg (cut cs off n)):=λd ty pos aA g a W hF hS=>by
 exact(λ_ _ hF hS=>nOj hA hZ (hF.ev hx) (hS.own _ (cb hi)) hn:∀(a:Act) (W:World),Fits E a->St G L H W->(execOp a.eval ⟨some d,.load T x,ty,pos,aA,g⟩).run C.P W= .ok (.value (.agg (cut cs off n))) W) a W hF hS
theorem ae{t n:Nat}(hA:eZ C.P T true)(hZ:nZ C.P T n)(hx:ev E x=some (ptr b 0))(hm:w1∈L)(hb:w1.heap[b]? =some (.cells cs t fr))(hG:¬G.X b)(hO:bD H b)(hn:cs.size=n):RV C G L H E (.load T x) (.agg cs):=by
 have:=ai (E:=E) (C:=C) (H:=H) hA hZ hx hm hb hG hO zJ;rw[n7g cs n hn]at this;exact this
theorem aO{t n:Nat}(hi:H[i]? =some (b,.cells cs t fr))(hA:eZ C.P T true)(hZ:nZ C.P T n)(hx:ev E x=some (ptr b 0))(hn:cs.size=n):RV C G L H E (.load T x) (.agg cs):=by
 have:=dd (E:=E) (C:=C) (H:=H) (L:=L) (G:=G) hi hA hZ hx zJ;rw[n7g cs n hn]at this;exact this
theorem kf{off t n:Nat}(hi:H[i]? =some (b,.cells cs t (0,0)))(hZ:nZ C.P T n)(hw:np ops E g=some true)(hx:ev E x=some (ptr b off))(hy:ev E y=some v)(hv:v.cells.size=n)(hn:off+n<=cs.size)(h1:nT v.cells.toList=true)(k:OJ C ops Q l E D G L (H.set i (b,.cells (setCells cs off v.cells.toList) t (0,0)))):OJ C ops Q (⟨none,.store T x y,ty,pos,aA,g⟩::l) E D G L H:=
 F9 rfl zX hw (λa W hF hS=>by
  have hb:=hS.own _ (cb hi);obtain⟨W',hr,hk,ef⟩:=nFl (P:=C.P) (off:=off) hZ hv hb hn h1;refine⟨.skip,W',.inl rfl,?_,hS.put hi hk ef⟩;simp[execOp,hF.ev hx,hF.ev hy,Instr.storeAt,Instr.sureAddr,hr]) k
end
variable {aA:Array Edge} {ops:Array Oper} {C:Cx} {E:Env} {G:Gh} {H:ab} {D:List Deferred} {L:List World} {ty:Nat} {op:Op} {pos:String}
theorem rvA{Q:aC}{l:List Oper}{d:Nat}{g:Option (Nat×Bool)}(hnd:L1 op=true)(hw:np ops E g=some true)(hN:Nat.blt d C.N=true)(k:OJ C ops Q l ((d,v)::E) D G L H)(h:RV C G L H E op v:=by first|(first|((with_reducible show RV _ _ _ _ _ (.move _) _);exact fW zY)|((with_reducible show RV _ _ _ _ _ (.assign _) _);exact jz zY)|((with_reducible show RV _ _ _ _ _ (.fieldAddr _ _ _) _);exact al bJ zY gu zY)|((with_reducible show RV _ _ _ _ _ (.pick _ _ _) _);first|exact uE zY zY|exact Bq zY zY)|((with_reducible show RV _ _ _ _ _ (.extract _ _) _);exact gk zY zY)|((with_reducible show RV _ _ _ _ _ (.binOp .add _ _ _ _) _);exact pE zY zY zJ zJ)|((with_reducible show RV _ _ _ _ _ (.call _) _);first|exact ib bJ zY|exact L2 bJ zY))|(first|((with_reducible show RV _ _ _ _ _ (.unOp .not _ _) _);exact dA zY)|((with_reducible show RV _ _ _ _ _ (.binOp .lss _ _ _ _) _);exact me zY zY)|((with_reducible show RV _ _ _ _ _ (.load _ _) _);first|exact aK (i:=0) zY jR zY zY|exact aO (i:=0) zY jR gu zY zY|exact aO (i:=1) zY jR gu zY zY|exact aK (i:=1) zY jR zY zY|exact adu jR zY To Tp To Tq zY)|((with_reducible show RV _ _ _ _ _ (.indexAddr _ _ _) _);first|exact cD bJ gu zY zY zJ zJ|exact kh bJ gu zY zY zJ zJ)|((with_reducible show RV _ _ _ _ _ (.binOp .geq _ _ _ _) _);exact pe zY zY)|((with_reducible show RV _ _ _ _ _ (.binOp .eql _ _ _ _) _);first|exact er zY zY|exact Ja zY zY)|((with_reducible show RV _ _ _ _ _ (.makeFunc _ _ _) _);exact Tn zY))|(first|((with_reducible show RV _ _ _ _ _ (.binOp .gtr _ _ _ _) _);exact pd zY zY)|((with_reducible show RV _ _ _ _ _ (.binOp .neq _ _ _ _) _);exact cq zY zY)|((with_reducible show RV _ _ _ _ _ (.nilCheck _) _);exact Bv zY)|((with_reducible show RV _ _ _ _ _ (.convert _ _ _) _);first|exact rV bJ bJ zY zJ zJ|exact sa bJ bJ zY zJ zJ)|((with_reducible show RV _ _ _ _ _ (.binOp .sub _ _ _ _) _);exact gz zY zY zJ zJ)|((with_reducible show RV _ _ _ _ _ (.binOp .leq _ _ _ _) _);exact qW zY zY)|((with_reducible show RV _ _ _ _ _ (.build _ _) _);exact pK bJ rA gu zY zY))|(first|((with_reducible show RV _ _ _ _ _ (.binOp .mul _ _ _ _) _);exact LZ zY zY zJ zJ))):OJ C ops Q (⟨some d,op,ty,pos,aA,g⟩::l) E D G L H:=rv hnd hw hN h k
variable {x:Operand} {w1:World}
theorem adu{off t:Nat}(hA:eZ C.P T false)(hx:ev E x=some (ptr b off))(hb:w1.heap[b]? =some (.cells cs t fr))(hm:w1∈L)(hG:¬G.X b)(hO:bD H b)(hv:cs[off]? =some v):RV C G L H E (.load T x) v:=aa hA hx hm hb hG hO hv
theorem rq{Q:aC}{l:List Oper}{d:Nat}{g:Option (Nat×Bool)}(v':Value)(h:RV C G L H E op v)(e:v=v')(k:OJ C ops Q l ((d,v')::E) D G L H)(hnd:L1 op=true:=by exact rfl)(hw:np ops E g=some true:=by exact rfl)(hN:Nat.blt d C.N=true:=by exact rfl):OJ C ops Q (⟨some d,op,ty,pos,aA,g⟩::l) E D G L H:=rv hnd hw hN (RV.re h e) k
theorem rr{Q:aC}{l:List Oper}{d:Nat}{g:Option (Nat×Bool)}(v':Value)(h:RV C G L H E op v)(k:OJ C ops Q l ((d,v')::E) D G L H)(e:v=v':=by exact rfl)(hnd:L1 op=true:=by exact rfl)(hw:np ops E g=some true:=by exact rfl)(hN:Nat.blt d C.N=true:=by exact rfl):OJ C ops Q (⟨some d,op,ty,pos,aA,g⟩::l) E D G L H:=rv hnd hw hN (RV.re h e) k
abbrev yv (l:Nat):Value:=.func (.yield l) #[] #[]
def Iz (P:Program) (l:Nat) (vs:Array Value) (W:World) (Φ:Bool->World->Prop):Prop:=
 ∃fn tmps assign body,(Instr.yield l vs).run P W= .ok (.round l fn tmps assign body) W/\
  RoundIn (FW none) 0 P l fn tmps assign body W (λe W'=>∃b,e= .returned (.bool b)/\Φ b W')
variable {assign body:Code} {R:Ending->World->Prop}
theorem nti{r:Option Nat}{n:Nat}{P:Program}{l:Nat}{f:FuncId}{tmps:Array Value}{w:World}:RoundIn (FW none) 0 P l f tmps assign body w R->RoundIn (FW r) n P l f tmps assign body w R:=by
 unfold RoundIn;rw[nxg,nxg];exact λh=>⟨trivial,λc cs _=>h.2 c cs (nRm _ _)⟩
variable {W':World}
theorem St.yield{G':Gh}(h:St G L H W)(hk:aF G.M W W')(hX:G'.X=G.X)(hV:G'.V=G.V)(hR:G'.R W'):St G' L H W' where
 ghost:=hR
 vlt:=λk hv=>jT (h.vlt k (hV▸hv)) hk.size
 xlt:=λk hv=>jT (h.xlt k (hX▸hv)) hk.size
 links:=λw hw=>by rw[hX];exact(h.links w hw).trans (hk.mono λk _ hm=>.inl (G.subX k hm))
 own:=λp hp=>by rw[hk.block p.1 (h.lt p hp) (λhm=>h.apart p hp (G.sub _ hm))];exact h.own p hp
 nodup:=h.nodup
 apart:=λp hp=>by rw[hV];exact h.apart p hp
section
variable {C:Cx} {Q:aC} {E:Env} {D:List Deferred} {G:Gh} {L:List World} {H:ab} {ops:Array Oper} {l:List Oper}
variable {d ty:Nat} {pos:String} {aA:Array Edge} {g:Option (Nat×Bool)} {x:Operand} {xs:List Operand} {vs:List Value} {dJ:Array Nat}
theorem yld{y:Nat}(G1 G2:Gh)(hw:np ops E g=some true)(hN:Nat.blt d C.N=true)(hx:ev E x=some (yv y))(ha:gR E xs=some vs)(hy:∀W,St G L H W->Iz C.P y vs.toArray W (λb W'=>aF G.M W W'/\(if b then G1.R W' else G2.R W')))(m1:G1.X=G.X)(v1:G1.V=G.V)(m2:G2.X=G.X)(v2:G2.V=G.V)(k1:OJ C ops Q l ((d,.bool true)::E) D G1 L H)(k2:OJ C ops Q l ((d,.bool false)::E) D G2 L H):OJ C ops Q (⟨some d,.call ⟨.value x,xs.toArray,dJ⟩,ty,pos,aA,g⟩::l) E D G L H:=by
 intro a W gQ hD hF hS;obtain⟨fn,tmps,assign,body,fZ,ga⟩:=hy W hS;unfold wpListIn;rw[if_pos (tD hF hw)];refine⟨λ_ _=>trivial,?_⟩;have hr:(execOp a.eval ⟨some d,.call ⟨.value x,xs.toArray,dJ⟩,ty,pos,aA,g⟩).run C.P W= .ok (.round y fn tmps assign body) W:=by
  exact zAj
 rw[Oper.semAt_eq _ _ _ zX,hr,Oper.uponIn_round];refine⟨by simp,(nti ga).mono ?_⟩;rintro e W' ⟨b,rfl,hk,hb⟩;have bN:=λv=>hF.put (d:=d) v kT;cases b with
 |true=>exact k1 (a.put (some d) (.bool true)) W' jY jr (bN _) (hS.yield hk m1 v1 hb)
 |false=>exact k2 (a.put (some d) (.bool false)) W' jY jr (bN _) (hS.yield hk m2 v2 hb)
end
def dW (V:Nat->Prop) (R:World->Prop):Prop:=
 ∀W W':World,R W->W'.os=W.os->W'.tape=W.tape->W'.output=W.output->W.heap.size<=W'.heap.size->(∀k,V k->W'.heap[k]? =W.heap[k]?)->R W'
def MP (P:Program) (f:Nat) (cap:List Value) {α:Type} (enc:α->List Value) (xs:List α) (MI RO:Nat->Prop) (W:World):Prop:=
 ∀(l:Nat) (M:Nat->Prop) (I:List α->World->Prop) (X:World->Prop),
  (∀k,M k->k<W.heap.size/\¬MI k/\¬RO k)->
  (∀pre,dW (λk=>k<W.heap.size/\¬MI k) (I pre))->dW (λk=>k<W.heap.size/\¬MI k) X->
  (∀pre x W1,(pre++[x]) <+:xs->I pre W1->Iz P l (enc x).toArray W1 (λb W2=>aF M W1 W2/\(if b then I (pre++[x]) W2 else X W2)))->
  I [] W->
  Calls P f (yv l::cap).toArray W (λe W'=>(∃v,e= .returned v)/\aF (λk=>M k\/MI k) W W'/\(I xs W'\/X W'))
/-! #### the consumer -/
/-- the memory of a loop over an iterator: own blocks, the loop's record, and what else was laid -/
abbrev book (Hc:ab) (l:Nat) (rec:Loop) (bx:ab):ab:=Hc++(l,.loop rec)::bx
def rI {α:Type} (G:Gh) (L:List World) (Inv:List α->ab->Prop) (l:Nat) (rec:Loop) (bx:ab) (pre:List α) (W:World):Prop:=
 ∃Hc,Inv pre Hc/\St G L (book Hc l rec bx) W
def rX (G:Gh) (L:List World) (bS:Code->ab->Prop) (l:Nat) (rec:Loop) (bx:ab) (W:World):Prop:=
 ∃c Hc,bS c Hc/\St G L (book Hc l {rec with state:=.done,pending:=some c} bx) W
def WU {α:Type} (P:Program) (G:Gh) (L:List World) (W1:World) (M:Nat->Prop) (Inv:List α->ab->Prop) (bS:Code->ab->Prop) (l:Nat) (rec:Loop) (bx:ab) (pre:List α):aC:=
 roundPost P l (λe W'=>∃b,e= .returned (.bool b)/\aF M W1 W'/\(if b then rI G L Inv l rec bx pre W' else rX G L bS l rec bx W'))
theorem Gc(W:World)(b:Nat)(o:Obj):aF (· =b) W (W.putObj b o):=
 ⟨rfl,rfl,rfl,by simp,λ_ _ hk=>World.putObj_heap_other hk⟩
theorem Gd(Hc:ab)(l:Nat)(rec:Loop)(bx:ab):(book Hc l rec bx)[Hc.length]? =some (l,.loop rec):=by simp[book]
theorem Bw(Hc:ab)(l:Nat)(rec gK:Loop)(bx:ab):(book Hc l rec bx).set Hc.length (l,.loop gK)=book Hc l gK bx:=by simp[book]
variable {rec:Loop}
theorem St.loop{Hc bx:ab}{l:Nat}(h:St G L (book Hc l rec bx) W)(gK:Loop):St G L (book Hc l gK bx) (W.putObj l (.loop gK)):=by
 have hl:l<W.heap.size:=h.lt (l,.loop rec) zX;have:=h.put (Gd Hc l rec bx) (Gc W l (.loop gK)) (World.putObj_heap_same hl);rwa[Bw]at this
theorem St.loopAt{Hc bx:ab}{l:Nat}(h:St G L (book Hc l rec bx) W):W.heap[l]? =some (.loop rec):=h.own (l,.loop rec) zX
section
variable {C:Cx} {α:Type} {E:Env} {D:List Deferred} {G:Gh} {L:List World} {Hc bx:ab} {W1:World} {Inv:List α->ab->Prop} {bS:Code->ab->Prop} {l:Nat} {rec gK:Loop} {pre:List α} {M:Nat->Prop}
theorem Vt{Qb:aC}{K:aC}(hs:rec.state= .ready)(h:CJ C body Qb E D G L (book Hc l {rec with state:=.busy} bx)):PJ C (Exit.then (λa W=>∃W2,(Instr.beginRound l).run C.P W= .ok () W2/\body.wpIn (FW C.r) 0 C.P Qb a W2) K) .normal E D G L (book Hc l rec bx):=by
 intro a W hN hD hF hS;exact⟨_,run_beginRound hS.loopAt hs,h a _ hN hD hF (hS.loop _)⟩
theorem Ua(hM:∀k,(G.X k\/k∈(book Hc l rec bx).map (·.1))->M k)(hr:{gK with state:=.ready,pending:=none}=rec)(hI:Inv pre Hc):PJ C (WU C.P G L W1 M Inv bS l rec bx pre) .normal E D G (W1::L) (book Hc l gK bx):=by
 intro a W hN hD hF hS;refine⟨_,_,run_endRound none hS.loopAt,true,rfl,?_,?_⟩
 ·refine((hS.loop _).links W1 A0).mono λk _ hk=>hM k ?_;simpa[book]using hk
 refine⟨Hc,hI,?_⟩;have:=(hS.loop {gK with state:=.ready,pending:=none}).lessL (L':=L) (λw hw=>.tail _ hw);rw[hr]at this;simpa[hr]using this
end
theorem WV{zs:List (Nat×Value)}:∀{E:Env} {a:Act},Fits E a->(∀p∈zs,p.1<a.tmps.size)->(zs.foldl (λt (p:Nat×Value)=>t.setIfInBounds p.1 p.2) a.tmps).size=a.tmps.size/\Fits (zs.reverse++E) ⟨zs.foldl (λt (p:Nat×Value)=>t.setIfInBounds p.1 p.2) a.tmps,[]⟩:=by
 induction zs with
 |nil=>intro E a h _;exact⟨rfl,λt v hv=>h t v hv⟩
 |cons p zs ih=>
  intro E a h hp;have h1:=h.put p.2 (hp p zX);obtain⟨i1,i2⟩:=ih (E:=(p.1,p.2)::E) (a:=a.put (some p.1) p.2) h1 (λq hq=>by simp[Act.put];exact hp q (by simp[hq]));refine⟨by simpa[Act.put]using i1,?_⟩;simpa[Act.put]using i2
variable {f:Nat} {MI RO:Nat->Prop}
theorem nsn{B:World->Prop}{Q:aC}{g:Operand}{ps:Array Tmp}{cap:List Value}{α:Type}{enc:α->List Value}{xs:List α}(hg:ev E g=some (.func (.func f) #[] cap.toArray))(az:dP C.P f)(oh:∀W W2,St G L H W->B W->Below W.heap.size W W2->MP C.P f cap enc xs MI RO W2)(vK:∀W,St G L H W->(∀k,MI k->k<W.heap.size/\ad L k/\k∉H.map (·.1)/\¬G.V k/\¬G.X k))(lF:∀W,St G L H W->(∀k,RO k->k<W.heap.size/\k∉H.map (·.1)/\¬G.X k))(o8:∀x,(enc x).length=ps.size)(Inv:List α->ab->Prop)(bS:Code->ab->Prop)(h0:Inv [] H)(pf:∀pre Hc,Inv pre Hc->Hc.map (·.1)=H.map (·.1))(mB:∀c Hc,bS c Hc->Hc.map (·.1)=H.map (·.1))(rU:∀p∈ps.toList,p<C.N)(L3:∀(a:Act) W fn,St G L H W->∃l mark bx W1 rec,(Instr.enterLoop fn a.tmps ps assign body C.r).run C.P W= .ok (l,mark) W1/\rec.state= .ready/\rec.pending=none/\rec.fn=fn/\rec.tmps=a.tmps/\rec.params=ps/\rec.assign=assign/\rec.body=body/\St G L (book H l rec bx) W1/\Below W.heap.size W W1/\(∀p∈(l,.loop rec)::bx,W.heap.size<=p.1)/\(∀(pre:List α) (x:α) (Hc:ab) (Wy:World),(pre++[x]) <+:xs->Inv pre Hc->(∀a1,a1.tmps.size=C.N->a1.defers=[]->Fits ((ps.toList.zip (enc x)).reverse++E) a1->St G (Wy::L) (book Hc l rec bx) Wy->assign.wpIn (FW (some l)) 0 C.P (Exit.then (λa₁ w₁=>∃w₂,(Instr.beginRound l).run C.P w₁= .ok () w₂/\body.wpIn (FW (some l)) 0 C.P (WU C.P G L Wy (λk=>G.X k\/k∈(book H l rec bx).map (·.1)) Inv bS l rec bx (pre++[x])) a₁ w₂) (λ_ _ _=>False)) a1 Wy))/\(∀tG Hc,Inv xs Hc->PJ C Q .normal E (mark++D) G L (book Hc l tG bx))/\(∀tG c Hc,bS c Hc->CJ C c Q E (mark++D) G L (book Hc l tG bx))):∀a W,a.tmps.size=C.N->a.defers=D->Fits E a->St G L H W->B W->(Code.rangeFunc g ps assign body).wpIn (FW C.r) 0 C.P Q a W:=by
 intro a W hN hD hF hS L4;refine wpIn_rangeFunc ?_;intro fn _;obtain⟨l,mark,bx,W1,rec,he,lN,qB,bE,hrt,L5,hra,hrb,lC,L6,adv,ga,Tr,Ts⟩:=L3 a W fn hS;refine⟨l,mark,W1,{target:=.fn (.func f) cap.toArray,args:=#[yv l]},W1,f,(yv l::cap).toArray,W1,he,?_,λ_ _=>trivial,?_,by simp,?_⟩
 ·simp[resolve,hF.ev hg,Deferred.ofValue];rfl
 ·simp[invoke,az _ W1]
 refine Bp.2 ?_;have kD:∀k,MI k->k<W.heap.size/\ad L k/\k∉H.map (·.1)/\¬G.V k/\¬G.X k:=vK W hS;have hbk:∀k,k∈(book H l rec bx).map (·.1)->k<W1.heap.size:=λk hk=>by
  obtain⟨p,hp,rfl⟩:=bW.1 hk;exact lC.lt p hp
 have ku:∀k,k∈(book H l rec bx).map (·.1)->¬MI k:=λk hk hm=>by
  obtain⟨hlt,_,hH,_,_⟩:=kD k hm;exact zNj
 have Og:∀k,k∈(book H l rec bx).map (·.1)->¬RO k:=λk hk hm=>by
  obtain⟨hlt,hH,_⟩:=lF W hS k hm;exact zNj
 have bO:∀{Hc:ab} {r2:Loop},Hc.map (·.1)=H.map (·.1)->(book Hc l r2 bx).map (·.1)=(book H l rec bx).map (·.1):=by
  intro Hc r2 h;simp[book,h]
 have stab:∀{Hb:ab},Hb.map (·.1)=(book H l rec bx).map (·.1)->dW (λk=>k<W1.heap.size/\¬MI k) (St G L Hb):=by
  intro Hb hk A B hA ho ht od hs dL;have L7:∀w∈L,∀k,k<w.heap.size->k<W1.heap.size/\¬MI k:=λw hw k hk=>by
   refine⟨jT hk (lC.links w hw).size,λhm=>?_⟩;have:=(kD k hm).2.1.mem w hw;omega
  refine⟨G.stab A B hA.ghost ho ht od hs (λk hv=>dL k ⟨lC.vlt k hv,λhm=>(kD k hm).2.2.2.1 hv⟩),λk hv=>jT (hA.vlt k hv) hs,λk hv=>jT (hA.xlt k hv) hs,λw hw=>?_,λp hp=>?_,hA.nodup,hA.apart⟩
  ·have h1:=hA.links w hw;exact⟨ho.trans h1.os,ht.trans h1.tape,od.trans h1.output,aR h1.size hs,λk hk hx=>(dL k (L7 w hw k hk)).trans (h1.block k hk hx)⟩
  have hm:p.1∈(book H l rec bx).map (·.1):=by rw[<-hk];exact bW.2 ⟨p,hp,rfl⟩
  rw[dL p.1 ⟨hbk _ hm,ku _ hm⟩];exact hA.own p hp
 have pg:∀x,(ps.zip (enc x).toArray).foldl (λtmps (p:Tmp×Value)=>match p with|(t,a)=>tmps.setIfInBounds t a) a.tmps=(ps.toList.zip (enc x)).foldl (λt (p:Nat×Value)=>t.setIfInBounds p.1 p.2) a.tmps:=by
  exact zik
 have rB:=oh W W1 hS L4 L6 l (λk=>G.X k\/k∈(book H l rec bx).map (·.1)) (rI G L Inv l rec bx) (rX G L bS l rec bx)
  (λk hk=>hk.elim (λhm=>⟨lC.xlt k hm,λh=>(kD k h).2.2.2.2 hm,λh=>(lF W hS k h).2.2 hm⟩) (λhk=>⟨hbk k hk,ku k hk,λh=>Og k hk h⟩))
  (λpre A B hA ho ht od hs dL=>by
   obtain⟨Hc,hi,bV⟩:=hA;exact⟨Hc,hi,stab (bO (pf pre Hc hi)) A B bV ho ht od hs dL⟩)
  (λA B hA ho ht od hs dL=>by
   obtain⟨c,Hc,hi,bV⟩:=hA;exact⟨c,Hc,hi,stab (bO (mB c Hc hi)) A B bV ho ht od hs dL⟩)
  (λpre x Wy eC hI=>by
   obtain⟨Hc,hi,bV⟩:=hI;have hy:=run_yield (P:=C.P) (args:=(enc x).toArray) bV.loopAt (by simp[o8,L5]);refine⟨_,_,_,_,hy,roundIn_of_wpIn (F:=FW none) trivial ?_⟩;rw[hra,hrb];refine ga pre x Hc Wy eC hi ⟨_,[]⟩ ?_ rfl ?_ bV.snap
   ·rw[hrt,L5,pg x];have:=(WV (zs:=ps.toList.zip (enc x)) hF (λp hp=>by rw[hN];exact rU p.1 (List.of_mem_zip hp).1)).1;rw[hN]at this;exact this
   rw[hrt,L5,pg x];exact(WV (zs:=ps.toList.zip (enc x)) hF (λp hp=>by rw[hN];exact rU p.1 (List.of_mem_zip hp).1)).2)
  ⟨H,h0,lC⟩
 refine rB.mono ?_;rintro e W2 ⟨⟨v,rfl⟩,IA,hI|hX⟩
 ·obtain⟨Hc,hi,bV⟩:=hI;refine⟨rec.pending,_,run_endLoop bV.loopAt (by rw[lN];simp),?_⟩;rw[qB];exact Tr _ Hc hi _ _ (by simpa using hN) (by simp[hD]) (λt v hv=>hF t v hv) (bV.loop _)
 obtain⟨c,Hc,hi,bV⟩:=hX;refine⟨some c,_,run_endLoop bV.loopAt zX,?_⟩;exact Ts _ c Hc hi _ _ (by simpa using hN) (by simp[hD]) (λt v hv=>hF t v hv) (bV.loop _)
theorem vM(H:ab):jk H↔(H.map (·.1)).Nodup:=by
 rw[List.Nodup,List.pairwise_iff_getElem];constructor
 ·intro h i j hi hj hlt e;simp only[fp]at hi hj;have:=h i j H[i] H[j] (by simp[hi]) (by simp[hj]) (by simpa using e);omega
 intro h i j p q hi hj e;obtain⟨u6,Hk⟩:=gi.1 hi;obtain⟨XG,Zg⟩:=gi.1 hj;rcases Nat.lt_trichotomy i j with hlt|heq|hlt
 ·have dn:=h i j (by simpa using u6) (by simpa using XG) hlt;rw[L8,L8,Hk,Zg]at dn;exact absurd e dn
 ·exact heq
 have dn:=h j i (by simpa using XG) (by simpa using u6) hlt;rw[L8,L8,Hk,Zg]at dn;exact absurd e.symm dn
variable {H':ab}
theorem St.perm(h:St G L H W)(hp:H.Perm H'):St G L H' W where
 ghost:=h.ghost
 vlt:=h.vlt
 xlt:=h.xlt
 links:=λw hw=>(h.links w hw).mono λk _ hk=>hk.imp id (λhk=>(hp.map (·.1)).mem_iff.1 hk)
 own:=λp hm=>h.own p (hp.mem_iff.2 hm)
 nodup:=by rw[vM];exact(hp.map (·.1)).nodup_iff.1 ((vM H).1 h.nodup)
 apart:=λp hm=>h.apart p (hp.mem_iff.2 hm)
abbrev ec (Dk:Nat):Deferred:={target:=.collected Dk,args:=#[]}
abbrev bT (Dk:Nat):ab:=[(Dk,.deferred (some []))]
abbrev L9 (C:Cx) (l:Nat) (body:Code) (Qb:aC):aC:=
 Exit.then (λa W=>∃W2,(Instr.beginRound l).run C.P W= .ok () W2/\body.wpIn (FW C.r) 0 C.P Qb a W2) (λ_ _ _=>False)
variable {N:Nat}
theorem Ma{B:World->Prop}{P:Program}{Q:aC}{g:Operand}{ps:Array Tmp}{cap:List Value}{α:Type}{enc:α->List Value}{xs:List α}(hg:ev E g=some (.func (.func f) #[] cap.toArray))(az:dP P f)(oh:∀W W2,St G L H W->B W->Below W.heap.size W W2->MP P f cap enc xs MI RO W2)(vK:∀W,St G L H W->(∀k,MI k->k<W.heap.size/\ad L k/\k∉H.map (·.1)/\¬G.V k/\¬G.X k))(lF:∀W,St G L H W->(∀k,RO k->k<W.heap.size/\k∉H.map (·.1)/\¬G.X k))(o8:∀x,(enc x).length=ps.size)(Inv:List α->ab->Prop)(bS:Code->ab->Prop)(h0:Inv [] H)(pf:∀pre Hc,Inv pre Hc->Hc.map (·.1)=H.map (·.1))(mB:∀c Hc,bS c Hc->Hc.map (·.1)=H.map (·.1))(rU:∀p∈ps.toList,p<N)(round:∀(pre:List α) (x:α) (Hc:ab) (l Dk:Nat) (rec:Loop) (Wy:World),rec.state= .ready->rec.pending=none->(pre++[x]) <+:xs->Inv pre Hc->ad L Dk->l=Dk+1->l<Wy.heap.size->ad L Wy.heap.size->CJ ⟨P,some l,N⟩ assign (L9 ⟨P,some l,N⟩ l body (WU P G L Wy (λk=>G.X k\/k∈(book Hc l rec (bT Dk)).map (·.1)) Inv bS l rec (bT Dk) (pre++[x]))) ((ps.toList.zip (enc x)).reverse++E) [] G (Wy::L) (book Hc l rec (bT Dk)))(done:∀l Dk rec Hc,ad L Dk->l=Dk+1->Inv xs Hc->PJ ⟨P,none,N⟩ Q .normal E (ec Dk::D) G L (book Hc l rec (bT Dk)))(stop:∀l Dk rec c Hc,ad L Dk->l=Dk+1->bS c Hc->CJ ⟨P,none,N⟩ c Q E (ec Dk::D) G L (book Hc l rec (bT Dk))):∀a W,a.tmps.size=N->a.defers=D->Fits E a->St G L H W->B W->(Code.rangeFunc g ps assign body).wpIn (FW none) 0 P Q a W:=by
 refine nsn (C:=⟨P,none,N⟩) hg az oh vK lF o8 Inv bS h0 pf mB rU ?_;intro a W fn hS;have lC:=((hS.alloc (.deferred (some []))).alloc (.loop {state:=.ready,pending:=none,fn,tmps:=a.tmps,params:=ps,assign,body,defers:=W.heap.size}));have iW:(W.alloc (.deferred (some []))).heap.size=W.heap.size+1:=by simp
 rw[iW]at lC;have L6:Below W.heap.size W ((W.alloc (.deferred (some []))).alloc (.loop {state:=.ready,pending:=none,fn,tmps:=a.tmps,params:=ps,assign,body,defers:=W.heap.size})):=
  ((Below.refl _ _).alloc (ao _) _).alloc zX _
 refine⟨W.heap.size+1,[ec W.heap.size],bT W.heap.size,_,{state:=.ready,pending:=none,fn,tmps:=a.tmps,params:=ps,assign,body,defers:=W.heap.size},run_enterLoop_outer _ _ _ _ _,rfl,rfl,rfl,rfl,rfl,rfl,rfl,lC.perm ?_,L6,?_,?_,λtG Hc hi=>done _ _ tG Hc hS.sizes rfl hi,λtG c Hc hi=>stop _ _ tG c Hc hS.sizes rfl hi⟩
 ·exact(List.perm_append_comm (l₁:=[_,_]) (l₂:=H))
 ·intro p hp;simp only[cI,fu,or_false]at hp;rcases hp with rfl|rfl<;>simp
 intro pre x Hc Wy eC hi a1 hN1 rY hF1 hSt;have hm:∀k,k∈(book Hc (W.heap.size+1) {state:=.ready,pending:=none,fn,tmps:=a.tmps,params:=ps,assign,body,defers:=W.heap.size} (bT W.heap.size)).map (·.1)↔k∈(book H (W.heap.size+1) {state:=.ready,pending:=none,fn,tmps:=a.tmps,params:=ps,assign,body,defers:=W.heap.size} (bT W.heap.size)).map (·.1):=by
  intro k;simp only[book,gP,eh,pf pre Hc hi]
 have hr:=round pre x Hc (W.heap.size+1) W.heap.size {state:=.ready,pending:=none,fn,tmps:=a.tmps,params:=ps,assign,body,defers:=W.heap.size} Wy rfl rfl eC hi hS.sizes rfl (aT.1 hSt.loopAt).1 (hSt.lessL (L':=L) λw hw=>.tail _ hw).sizes;rw[show(λk=>G.X k\/k∈(book Hc (W.heap.size+1) {state:=.ready,pending:=none,fn,tmps:=a.tmps,params:=ps,assign,body,defers:=W.heap.size} (bT W.heap.size)).map (·.1))=
  (λk=>G.X k\/k∈(book H (W.heap.size+1) {state:=.ready,pending:=none,fn,tmps:=a.tmps,params:=ps,assign,body,defers:=W.heap.size} (bT W.heap.size)).map (·.1))from funext λk=>propext (or_congr Iff.rfl (hm k))]at hr
 exact hr a1 Wy hN1 rY hF1 hSt
theorem CJ.range{P:Program}{Q:aC}{g:Operand}{ps:Array Tmp}{cap:List Value}{α:Type}{enc:α->List Value}{xs:List α}(hg:ev E g=some (.func (.func f) #[] cap.toArray))(az:dP P f)(oh:∀W W2,St G L H W->Below W.heap.size W W2->MP P f cap enc xs MI RO W2)(vK:∀W,St G L H W->(∀k,MI k->k<W.heap.size/\ad L k/\k∉H.map (·.1)/\¬G.V k/\¬G.X k))(lF:∀W,St G L H W->(∀k,RO k->k<W.heap.size/\k∉H.map (·.1)/\¬G.X k))(o8:∀x,(enc x).length=ps.size)(Inv:List α->ab->Prop)(bS:Code->ab->Prop)(h0:Inv [] H)(pf:∀pre Hc,Inv pre Hc->Hc.map (·.1)=H.map (·.1))(mB:∀c Hc,bS c Hc->Hc.map (·.1)=H.map (·.1))(rU:∀p∈ps.toList,p<N)(round:∀(pre:List α) (x:α) (Hc:ab) (l Dk:Nat) (rec:Loop) (Wy:World),rec.state= .ready->rec.pending=none->(pre++[x]) <+:xs->Inv pre Hc->ad L Dk->l=Dk+1->l<Wy.heap.size->ad L Wy.heap.size->CJ ⟨P,some l,N⟩ assign (L9 ⟨P,some l,N⟩ l body (WU P G L Wy (λk=>G.X k\/k∈(book Hc l rec (bT Dk)).map (·.1)) Inv bS l rec (bT Dk) (pre++[x]))) ((ps.toList.zip (enc x)).reverse++E) [] G (Wy::L) (book Hc l rec (bT Dk)))(done:∀l Dk rec Hc,ad L Dk->l=Dk+1->Inv xs Hc->PJ ⟨P,none,N⟩ Q .normal E (ec Dk::D) G L (book Hc l rec (bT Dk)))(stop:∀l Dk rec c Hc,ad L Dk->l=Dk+1->bS c Hc->CJ ⟨P,none,N⟩ c Q E (ec Dk::D) G L (book Hc l rec (bT Dk))):CJ ⟨P,none,N⟩ (.rangeFunc g ps assign body) Q E D G L H:=by
 exact λa W hN hD hF hS=>Ma (B:=λ_=>True) hg az (λW W2 h _ hb=>oh W W2 h hb) vK lF o8 Inv bS h0 pf mB rU round done stop a W hN hD hF hS True.intro
variable {vs:List Value}
/-! #### functions that leave with marks -/
theorem B1{P:Program}{fn:Func}{c:Code}{w:World}(G:Gh)(H:ab)(hf:P.funcs[f]? =some fn)(hb:fn.body=some c)(hN:fn.ntmps=N)(hl:Nat.ble vs.length N=true)(hS:St G [w] H w)(h:CJ ⟨P,none,N⟩ c (bodyPostM (FW none) 0 P fn R) (wL 0 vs) [] G [w] H):Calls P f vs.toArray w R:=by
 rw[<-Bp (r:=none) (n:=0)];refine callsIn_of_wp_marks hf hb trivial (h _ w ?_ rfl ?_ hS)
 ·exact Tj
 exact Th vs _
section
variable {C:Cx} {fn:Func} {R:Ending->World->Prop} {E:Env} {G:Gh} {L:List World} {H:ab}
theorem nXg{P:Program}{tmps:Array Value}{Ds:List Nat}(hD:D=Ds.map ec):∀{H:ab} {W:World},St G L H W->(∀k∈Ds,(k,.deferred (some []))∈H)->Ds.Nodup->(∀W' H',St G L H' W'->(∀p∈H,(∀k∈Ds,p.1≠k)->p∈H')->H'.map (·.1)=H.map (·.1)->∃v,(results fn tmps).run P W'= .ok v W'/\R (.returned v) W')->LeavesInM (FW none) 0 P fn tmps R D .returning W:=by
 subst hD;induction Ds with
 |nil=>
  intro H W hS _ _ h;exact h W H hS (λp hp _=>hp) rfl
 |cons k Ds ih=>
  intro H W hS jj hnd h;obtain⟨hk,hnd⟩:=List.nodup_cons.1 hnd;have hkm:=jj k zX;obtain⟨i,hi⟩:=ju.1 hkm;have fJ:W.heap[k]? =some (.deferred (some [])):=hS.own _ hkm;have hlt:k<W.heap.size:=(aT.1 fJ).1;have fq:=hS.put hi (Gc W k (.deferred none)) (World.putObj_heap_same hlt);have rO:i<H.length:=(gi.1 hi).1;have IB:∀p∈H,p.1≠k->p∈H.set i (k,.deferred none):=by
   intro p hp dn;obtain⟨j,hj⟩:=ju.1 hp;refine ju.2 ⟨j,?_⟩;rw[F8]
   ·exact hj
   rintro rfl;rw[hi]at hj;cases hj;exact dn rfl
  have bO:(H.set i (k,.deferred none)).map (·.1)=H.map (·.1):=by
   rw[List.map_set];apply tS;intro j;by_cases e:i=j
   ·subst e;rw[Iu (by simpa using rO)];simp[hi]
   rw[F8 e]
  refine⟨by simp,.inl ⟨k,_,rfl,run_takeDeferred fJ,?_⟩⟩;refine ih fq (λk' CU=>IB _ (jj k' (by simp[CU])) (λe=>hk (e▸CU))) hnd ?_;intro W' H' ady hH' Tt;refine h W' H' ady (λp hp dn=>hH' p (IB p hp (dn k zX)) (λk' CU=>dn k' (by simp[CU]))) (Tt.trans bO)
theorem u5{Dk:Nat}{e:Exit}(he:e= .ret\/e= .normal)(hm:(Dk,.deferred (some []))∈H)(h:∀a W H',Fits E a->St G L H' W->(∀p∈H,p.1≠Dk->p∈H')->H'.map (·.1)=H.map (·.1)->∃v,(results fn a.tmps).run C.P W= .ok v W/\R (.returned v) W):PJ C (bodyPostM (FW none) 0 C.P fn R) e E [ec Dk] G L H:=by
 intro a W hN hD hF hS;have key:LeavesInM (FW none) 0 C.P fn a.tmps R a.defers .returning W:=
  nXg (Ds:=[Dk]) (by rw[hD];rfl) hS (λk hk=>by simp at hk;subst hk;exact hm) zX (λW' H' fq hH bO=>
   h a W' H' hF fq (λp hp dn=>hH p hp (λk hk=>by simp at hk;subst hk;exact dn)) bO)
 exact Oh
theorem GN{Dk t:Nat}{e:Exit}(he:e= .ret\/e= .normal)(hr:fn.results=#[.tmp t])(hv:look E t=some v)(hm:(Dk,.deferred (some []))∈H)(h:∀W H',St G L H' W->H'.map (·.1)=H.map (·.1)->R (.returned v) W):PJ C (bodyPostM (FW none) 0 C.P fn R) e E [ec Dk] G L H:=
 u5 he hm λa W H' hF hS _ bO=>⟨v,by rw[results_tmp hr];exact congrArg (λu=>Result.ok u W) (hF t v hv),h W H' hS bO⟩
end
/-! #### inside of an iterator -/
/-- the consumer, as_ the iterator sees it -/
def B0 {W:World} {MI RO M:Nat->Prop} (hM:∀k,M k->k<W.heap.size/\¬MI k/\¬RO k) {I:World->Prop} (hI:dW (λk=>k<W.heap.size/\¬MI k) I):Gh where
 M:=M
 V:=λk=>k<W.heap.size/\¬MI k
 R:=I
 X:=M
 sub:=λk hk=>⟨(hM k hk).1,(hM k hk).2.1⟩
 subX:=λ_ hk=>hk
 stab:=hI
variable {I:World->Prop}
theorem wU{M:Nat->Prop}(hM:∀k,M k->k<W.heap.size/\¬MI k/\¬RO k)(hI:dW (λk=>k<W.heap.size/\¬MI k) I)(h0:I W):St (B0 hM hI) [W] [] W where
 ghost:=h0
 vlt:=λ_ hk=>hk.1
 xlt:=λk hk=>(hM k hk).1
 links:=λw hw=>by simp at hw;subst hw;exact aF.refl _ _
 own:=λ_ h=>by simp at h
 nodup:=λ_ _ _ _ h=>by simp at h
 apart:=λ_ h=>by simp at h
theorem St.keepM{w:World}(h:St G L [] W)(hw:w∈L):aF G.X w W:=(h.links w hw).mono λk _ hk=>by simpa using hk
theorem OI{fn:Func}{M:Nat->Prop}{hM:∀k,M k->k<W.heap.size/\¬MI k/\¬RO k}{I' X:World->Prop}{hI:dW (λk=>k<W.heap.size/\¬MI k) I}{e:Exit}(he:e= .ret\/e= .normal)(hr:fn.results=#[])(hw:W∈L)(h:∀A,I A->I' A\/X A):PJ C (bodyPost C.P fn (λe W'=>(∃v,e= .returned v)/\aF (λk=>M k\/MI k) W W'/\(I' W'\/X W'))) e E [] (B0 hM hI) L []:=by
 intro a W' _ hD _ hS;have key:bodyPost C.P fn (λe W'=>(∃v,e= .returned v)/\aF (λk=>M k\/MI k) W W'/\(I' W'\/X W')) .normal a W':=
  ⟨hD,.tuple #[],results_none hr _ _ _,⟨_,rfl⟩,(hS.keepM hw).mono λk _ hk=>.inl hk,h W' hS.ghost⟩
 exact Oh
end Px
