/- Memory, operations, iterators, slices, maps. No condition beyond those stated. -/
import Derived.Test.YtodpaegknpbomaaGreatDoorZa
import Derived.TacticsIn
import Derived.DefersIn
import Derived.RangeFuncIn
import Derived.Below
import Derived.WalkKit
import Derived.RangeFuncRecord
set_option linter.unusedSimpArgs false
set_option linter.unusedVariables false
set_option linter.unusedSectionVars false
set_option linter.unnecessarySimpa false
set_option maxRecDepth 20000
set_option maxHeartbeats 8000000
namespace Px
open Go Go.RowKit
/-! ### short forms of common terms -/
abbrev ab (n:Int):Value:=.int .i64 n
abbrev cX:Value:=.bool true
abbrev bG:Value:=.bool false
abbrev Cv:Value:=.int .u8 0
abbrev ao:Value:=.slice none 0 0
abbrev Un:Value:=.string ⟨#[]⟩
abbrev aj (b:Nat):Option Addr:=some ⟨b,0,none⟩
abbrev dD (v:Value):Array Value:=#[.int .i64 3,.int .i64 0,.string ⟨#[]⟩,v]
abbrev oC (cs:Array Value) (t:Nat):Obj:=.cells cs t (0,0)
abbrev lL (f:Nat->Int) (l:List Value):List Value:=.int .u8 (f 0):: .int .u8 (f 1):: .int .u8 (f 2):: .int .u8 (f 3):: .int .u8 (f 4):: .int .u8 (f 5):: .int .u8 (f 6):: .int .u8 (f 7):: .int .u8 (f 8):: .int .u8 (f 9):: .int .u8 (f 10):: .int .u8 (f 11):: .int .u8 (f 12):: .int .u8 (f 13):: .int .u8 (f 14):: .int .u8 (f 15):: .int .u8 (f 16):: .int .u8 (f 17):: .int .u8 (f 18):: .int .u8 (f 19):: .int .u8 (f 20):: .int .u8 (f 21):: .int .u8 (f 22):: .int .u8 (f 23):: .int .u8 (f 24):: .int .u8 (f 25):: .int .u8 (f 26):: .int .u8 (f 27):: .int .u8 (f 28):: .int .u8 (f 29):: .int .u8 (f 30):: .int .u8 (f 31)::l
abbrev tr (l:List Value):List Value:=.int .u8 0:: .int .u8 0:: .int .u8 0:: .int .u8 0:: .int .u8 0:: .int .u8 0:: .int .u8 0:: .int .u8 0:: .int .u8 0:: .int .u8 0:: .int .u8 0:: .int .u8 0:: .int .u8 0:: .int .u8 0:: .int .u8 0:: .int .u8 0:: .int .u8 0:: .int .u8 0:: .int .u8 0:: .int .u8 0:: .int .u8 0:: .int .u8 0:: .int .u8 0:: .int .u8 0:: .int .u8 0:: .int .u8 0:: .int .u8 0:: .int .u8 0:: .int .u8 0:: .int .u8 0:: .int .u8 0:: .int .u8 0::l
/-! ### the environment: what is known of the temporaries -/
abbrev Env:=List (Nat×Value)
def look:Env->Nat->Option Value
 | [],_=>none
 |(k,v)::E,t=>match Nat.beq k t with|true=>some v|false=>look E t
variable {a:Act} {aC:Array Edge} {ops:Array Oper} {ps:Array Tmp} {cs:Array Value} {assign body c:Code} {R:Ending->World->Prop} {fn:Func} {K':IntKind} {D:List Deferred} {ks:List Nat} {l:List Oper} {cap vs:List Value} {L L':List World} {b d f i n t:Nat} {fr:Nat×Nat} {op:Op} {o:Oper} {g:Option (Nat×Bool)} {P:Program} {pos:String} {v:Value} {W w w1:World}
theorem TI{a:Nat}(e:¬a=b):Nat.beq a b=false:=by
 cases h:Nat.beq a b with
 |false=>rfl
 |true=>exact absurd (Nat.eq_of_beq_eq_true h) e
theorem MK(a:Nat):Nat.beq a a=true:=by induction a<;>simp_all[Nat.beq]
def Fits (E:Env) (a:Act):Prop:=∀t v,look E t=some v->a.eval (.tmp t)=v
def ev (E:Env):Operand->Option Value
 | .tmp t=>look E t
 | .const v=>some v
 | .global g=>some ((⟨#[],[]⟩:Act).eval (.global g))
 | .func f=>some ((⟨#[],[]⟩:Act).eval (.func f))
variable {E:Env}
theorem Fits.ev(h:Fits E a){x:Operand}(hx:ev E x=some v):a.eval x=v:=by
 cases x with
 |tmp t=>exact h t v hx
 |const u=>simp[Px.ev]at hx;subst hx;rfl
 |global g=>simp only[Px.ev,vP]at hx;rw[<-hx];rfl
 |func f=>simp only[Px.ev,vP]at hx;rw[<-hx];rfl
theorem Fits.put(h:Fits E a)(v:Value)(hd:d<a.tmps.size):Fits ((d,v)::E) (a.put (some d) v):=by
 intro t u ht;simp only[look]at ht;by_cases e:d=t
 ·subst e;simp only[MK,vP]at ht;subst ht;simp[Act.eval,Act.put,hd]
 have:Nat.beq d t=false:=TI e;simp only[this]at ht;have:=h t u ht;simp only[Act.eval,Act.put]at this ⊢;rw[<-this];simp[Array.getElem?_setIfInBounds_ne e]
def Sub:Env->Env->Prop
 | [],_=>True
 |(t,v)::E',E=>look E t=some v/\Sub E' E
theorem Sub.fits{E':Env}(hs:Sub E' E)(h:Fits E a):Fits E' a:=by
 induction E' with
 |nil=>intro t v hv;simp[look]at hv
 |cons p E' ih=>
  obtain⟨k,u⟩:=p;intro t v hv;simp only[look]at hv;by_cases e:k=t
  ·subst e;simp only[MK,vP]at hv;subst hv;exact h _ _ hs.1
  have:Nat.beq k t=false:=TI e;simp only[this]at hv;exact ih hs.2 t v hv
def nl (ops:Array Oper) (E:Env) (g:Option (Nat×Bool)):Option Bool:=
 match g with
 |none=>some true
 |some (j,b)=>
  match(ops[j]?).bind (·.dst)with
  |none=>some false
  |some d=>
   match look E d with
   |some (.bool true)=>some b
   |some (.bool false)=>some (!b)
   |some (.tuple _)=>some false
   |_=>none
theorem Bg{c:Bool}(h:Fits E a)(hw:nl ops E o.guard=some c):Region.wanted o (yielded ops a.tmps)=c:=by
 unfold nl at hw;unfold Region.wanted;cases hg:o.guard with
 |none=>simp[hg]at hw;subst hw;rfl
 |some p=>
  obtain⟨j,b⟩:=p;simp only[hg]at hw ⊢;cases hd:(ops[j]?).bind (·.dst)with
  |none=>simp[hd]at hw;subst hw;simp[yielded,hd]
  |some d=>
   simp only[hd]at hw;cases hl:look E d with
   |none=>simp[hl]at hw
   |some v=>
    have hv:=h d v hl;simp only[hl]at hw;have key:∀u,v=u->yielded ops a.tmps j=(match u with| .bool b=>some b|_=>none):=by
     intro u hu;simp only[yielded,hd,Option.bind_some];simp only[Act.eval]at hv;cases ht:a.tmps[d]? with
     |none=>
      have:v=undef:=by rw[<-hv,Array.getD_eq_getD_getElem?,ht];rfl
      subst hu;rw[this];rfl
     |some u'=>
      have:v=u':=by rw[<-hv,Array.getD_eq_getD_getElem?,ht];rfl
      subst hu;subst this;cases v<;>rfl
    split at hw
    ·simp at hw;subst hw;rename_i h1;rw[key _ (by injection h1)];cases b<;>rfl
    ·simp at hw;subst hw;rename_i h1;rw[key _ (by injection h1)];cases c<;>rfl
    ·simp at hw;subst hw;rename_i h1;rw[key _ (by injection h1)];rfl
    simp at hw
/-! ### the memory: ghost (another party's blocks), snapshots, own blocks -/
structure Gh where
 M:Nat->Prop
 V:Nat->Prop
 R:World->Prop
 X:Nat->Prop
 sub:∀k,M k->V k
 subX:∀k,M k->X k
 stab:∀W W':World,R W->W'.os=W.os->W'.tape=W.tape->W'.output=W.output->W.drawn<=W'.drawn->W.heap.size<=W'.heap.size->(∀k,V k->W'.heap[k]? =W.heap[k]?)->R W'
def Gh.no:Gh:=⟨λ_=>False,λ_=>False,λ_=>True,λ_=>False,λ_ h=>h,λ_ h=>h,λ_ _ _ _ _ _ _ _ _=>trivial⟩
def Gh.lent (Z:Nat->Prop):Gh:=⟨λ_=>False,λ_=>False,λ_=>True,Z,λ_ h=>h,λ_ h=>h.elim,λ_ _ _ _ _ _ _ _ _=>trivial⟩
abbrev ad:=List (Nat×Obj)
structure Below (B:Nat) (w w':World):Prop where
 os:w'.os=w.os
 tape:w'.tape=w.tape
 output:w'.output=w.output
 drawn:w.drawn<=w'.drawn
 size:w.heap.size<=w'.heap.size
 block:∀k,k<B->w'.heap[k]? =w.heap[k]?
theorem Below.refl(B:Nat)(w:World):Below B w w:=⟨rfl,rfl,rfl,ak _,ak _,λ_ _=>rfl⟩
theorem Below.trans{B:Nat}{a b c:World}(h:Below B a b)(k:Below B b c):Below B a c:=
 ⟨k.os.trans h.os,k.tape.trans h.tape,k.output.trans h.output,dG h.drawn k.drawn,dG h.size k.size,λi hi=>(k.block i hi).trans (h.block i hi)⟩
theorem Below.mono{B B':Nat}{w':World}(h:Below B w w')(hB:B'<=B):Below B' w w':=⟨h.os,h.tape,h.output,h.drawn,h.size,λk hk=>h.block k (lZ hk hB)⟩
theorem Below.drew{B:Nat}{a:World}(h:Below B a w):Below B a w.drew:=⟨h.os,h.tape,h.output,Nat.le_succ_of_le h.drawn,h.size,h.block⟩
theorem Below.alloc{B:Nat}{a:World}(h:Below B a w)(hB:B<=w.heap.size)(o:Obj):Below B a (w.alloc o):=by
 refine⟨h.os,h.tape,h.output,h.drawn,dG h.size zJ,λk hk=>?_⟩;rw[<-h.block k hk];show(w.heap.push o)[k]? =w.heap[k]?;all_goals grind
structure aH (X:Nat->Prop) (w W:World):Prop where
 os:W.os=w.os
 tape:W.tape=w.tape
 output:W.output=w.output
 drawn:w.drawn<=W.drawn
 size:w.heap.size<=W.heap.size
 block:∀k,k<w.heap.size->¬X k->W.heap[k]? =w.heap[k]?
theorem aH.refl(X:Nat->Prop)(w:World):aH X w w:=⟨rfl,rfl,rfl,ak _,ak _,λ_ _ _=>rfl⟩
theorem aH.trans{X:Nat->Prop}{a b c:World}(h:aH X a b)(k:aH X b c):aH X a c:=
 ⟨k.os.trans h.os,k.tape.trans h.tape,k.output.trans h.output,dG h.drawn k.drawn,dG h.size k.size,
  λi hi hx=>(k.block i (lZ hi h.size) hx).trans (h.block i hi hx)⟩
theorem aH.mono{X Y:Nat->Prop}{a b:World}(h:aH X a b)(hxy:∀k,k<a.heap.size->X k->Y k):aH Y a b:=
 ⟨h.os,h.tape,h.output,h.drawn,h.size,λi hi hy=>h.block i hi (λhx=>hy (hxy i hi hx))⟩
theorem aH.of_below{X:Nat->Prop}{a b:World}(h:Below a.heap.size a b):aH X a b:=
 ⟨h.os,h.tape,h.output,h.drawn,h.size,λi hi _=>h.block i hi⟩
theorem aH.below{X:Nat->Prop}{a b:World}(h:aH X a b)(hx:∀k,k<a.heap.size->¬X k):Below a.heap.size a b:=
 ⟨h.os,h.tape,h.output,h.drawn,h.size,λi hi=>h.block i hi (hx i hi)⟩
def kV (H:ad):Prop:=∀(i j:Nat) (p q:Nat×Obj),H[i]? =some p->H[j]? =some q->p.1=q.1->i=j
structure St (G:Gh) (L:List World) (H:ad) (W:World):Prop where
 ghost:G.R W
 vlt:∀k,G.V k->k<W.heap.size
 xlt:∀k,G.X k->k<W.heap.size
 links:∀w∈L,aH (λk=>G.X k\/k∈H.map (·.1)) w W
 own:∀p∈H,W.heap[p.1]? =some p.2
 nodup:kV H
 apart:∀p∈H,¬G.V p.1
def ae:List World->Nat->Prop
 | [],_=>True
 |w::L,b=>w.heap.size<=b/\ae L b
theorem ae.of_mem(h:∀w∈L,w.heap.size<=b):ae L b:=by
 induction L with
 |nil=>trivial
 |cons w L ih=>exact⟨h w zJ,ih λw' hw=>h w' (by simp[hw])⟩
theorem ae.mem(h:ae L b):∀w∈L,w.heap.size<=b:=by
 induction L with
 |nil=>intro w hw;simp at hw
 |cons w L ih=>
  intro w' hw;simp only[bX]at hw;rcases hw with rfl|hw
  ·exact h.1
  exact ih h.2 w' hw
def aY:ad->Nat->Prop
 | [],_=>True
 |p::H,b=>p.1≠b/\aY H b
variable {H:ad}
theorem aY.mem(h:aY H b):b∉H.map (·.1):=by
 induction H with
 |nil=>simp
 |cons p H ih=>
  simp only[dt,bX,not_or];exact⟨λe=>h.1 e.symm,ih h.2⟩
theorem aY.of_mem(h:b∉H.map (·.1)):aY H b:=by
 induction H with
 |nil=>trivial
 |cons p H ih=>
  simp only[dt,bX,not_or]at h;exact⟨λe=>h.1 e.symm,ih h.2⟩
def nZ:ad->Nat->Prop
 | [],_=>True
 |p::H,b=>p.1<b/\nZ H b
section
variable {G:Gh} {L:List World} {H:ad} {W W':World}
theorem St.lt(h:St G L H W):∀p∈H,p.1<W.heap.size:=λp hp=>(aT.1 (h.own p hp)).1
theorem St.under(h:St G L H W):nZ H W.heap.size:=by
 have:=h.lt;clear h;induction H with
 |nil=>trivial
 |cons p H ih=>exact⟨this p zJ,ih λq hq=>this q (by simp[hq])⟩
theorem St.sizes(h:St G L H W):ae L W.heap.size:=ae.of_mem λw hw=>(h.links w hw).size
theorem St.step(h:St G L H W)(hb:Below W.heap.size W W'):St G L H W' where
 ghost:=G.stab W W' h.ghost hb.os hb.tape hb.output hb.drawn hb.size (λk hk=>hb.block k (h.vlt k hk))
 vlt:=λk hk=>lZ (h.vlt k hk) hb.size
 xlt:=λk hk=>lZ (h.xlt k hk) hb.size
 links:=λw hw=>(h.links w hw).trans (aH.of_below hb)
 own:=λp hp=>(hb.block p.1 (h.lt p hp)).trans (h.own p hp)
 nodup:=h.nodup
 apart:=h.apart
theorem St.snap(h:St G L H W):St G (W::L) H W:=by
 refine{h with links:=λw hw=>?_};simp only[bX]at hw;rcases hw with rfl|hw
 ·exact aH.refl _ _
 exact h.links w hw
theorem Y5(W:World)(o:Obj):Below W.heap.size W (W.alloc o):=(Below.refl _ _).alloc (ak _) o
theorem D9(W:World)(n:Nat)(h:W.drawn<=n:=by simp):Below W.heap.size W {W with drawn:=n}:=⟨rfl,rfl,rfl,h,ak _,λ_ _=>rfl⟩
theorem St.alloc(h:St G L H W)(o:Obj):St G L ((W.heap.size,o)::H) (W.alloc o):=by
 have h1:=h.step (Y5 W o);refine{h1 with links:=λw hw=>?_,own:=λp hp=>?_,nodup:=?_,apart:=λp hp=>?_}
 ·exact(h1.links w hw).mono λk _ hk=>hk.imp id (λhk=>by simp[hk])
 ·simp only[bX]at hp;rcases hp with rfl|hp
  ·exact heap_alloc_new W o
  exact h1.own p hp
 ·intro i j p q hi hj e;cases i with
  |zero=>
   cases j with
   |zero=>rfl
   |succ j=>
    simp only[Jt,vP,Im]at hi hj;have:=h.lt q (cP hj);subst hi;simp at e;omega
  |succ i=>
   cases j with
   |zero=>
    simp only[Jt,vP,Im]at hi hj;have:=h.lt p (cP hi);subst hj;simp at e;omega
   |succ j=>
    simp only[Im]at hi hj;rw[h.nodup i j p q hi hj e]
 simp only[bX]at hp;rcases hp with rfl|hp
 ·intro hm;have:=h.vlt _ hm;simp at this
 exact h.apart p hp
theorem St.old(h:St G L H W)(hw:w∈L){o:Obj}(hb:w.heap[b]? =some o)(hm:¬G.X b)(ho:aY H b):W.heap[b]? =some o:=by
 have hlt:=(aT.1 hb).1;rw[(h.links w hw).block b hlt (λhx=>hx.elim hm ho.mem)];exact hb
theorem St.put(h:St G L H W){o o':Obj}(hi:H[i]? =some (b,o))(hW:aH (· =b) W W')(hb:W'.heap[b]? =some o'):St G L (H.set i (b,o')) W':=by
 have jU:(b,o)∈H:=cP hi;have lk:i<H.length:=(gX.1 hi).1;have fj:∀(j:Nat) (p:Nat×Obj),(H.set i (b,o'))[j]? =some p->(j=i/\p=(b,o'))\/(j≠i/\H[j]? =some p):=by
  intro j p hp;by_cases e:j=i
  ·subst e;rw[aXp lk]at hp;exact .inl ⟨rfl,(Option.some.inj hp).symm⟩
  rw[TJ (λx=>e x.symm)]at hp;exact .inr ⟨e,hp⟩
 have FM:∀(j:Nat) (p:Nat×Obj),(H.set i (b,o'))[j]? =some p->∃q,H[j]? =some q/\q.1=p.1:=by
  intro j p hp;rcases fj j p hp with⟨rfl,rfl⟩|⟨_,hp⟩
  ·exact⟨_,hi,rfl⟩
  exact⟨p,hp,rfl⟩
 have aQ:∀k,k∈(H.set i (b,o')).map (·.1)↔k∈H.map (·.1):=by
  intro k;rw[List.map_set];constructor
  ·intro hk;rcases List.mem_or_eq_of_mem_set hk with hk|rfl
   ·exact hk
   exact bY.2 ⟨_,jU,rfl⟩
  intro hk;obtain⟨j,hj⟩:=kA.1 hk;by_cases e:i=j
  ·subst e;have:k=b:=by simp[hi]at hj;exact hj.symm
   subst this;exact kA.2 ⟨i,by rw[aXp (by simpa using lk)]⟩
  exact kA.2 ⟨j,by rw[TJ e];exact hj⟩
 have hM:=h.apart _ jU;refine⟨G.stab W W' h.ghost hW.os hW.tape hW.output hW.drawn hW.size (λk hk=>hW.block k (h.vlt k hk) (λe=>hM (e▸hk))),λk hk=>lZ (h.vlt k hk) hW.size,λk hk=>lZ (h.xlt k hk) hW.size,λw hw=>?_,λp hp=>?_,λj j' p q hj xU e=>?_,λp hp=>?_⟩
 ·have h1:=(h.links w hw).trans (hW.mono (Y:=λk=>G.X k\/k∈H.map (·.1)) λk _ hk=>by subst hk;exact .inr (bY.2 ⟨_,jU,rfl⟩));exact h1.mono λk _ hk=>hk.imp id (aQ k).2
 ·obtain⟨j,hj⟩:=kA.1 hp;rcases fj j p hj with⟨rfl,rfl⟩|⟨hne,hj⟩
  ·exact hb
  have hm:=cP hj;rw[hW.block p.1 (h.lt p hm) (λe=>hne (h.nodup j i p (b,o) hj hi e))];exact h.own p hm
 ·obtain⟨p',hp',e1⟩:=FM j p hj;obtain⟨q',hq',e2⟩:=FM j' q xU;exact h.nodup j j' p' q' hp' hq' (by rw[e1,e2];exact e)
 obtain⟨j,hj⟩:=kA.1 hp;obtain⟨q,hq,e⟩:=FM j p hj;rw[<-e];exact h.apart q (cP hq)
end
/-! ### the judgements -/
abbrev FW (r:Option Nat):Fence:={fn:=λ_=>True,depth:=none,alive:=false,round:=r}
theorem n9n(r:Option Nat)(n:Nat):(FW r).room n:=λ_ h=>by simp at h
theorem nKk(P:Program)(r:Option Nat):Machine.fenced P (FW r)=Machine.fenced P Fence.wide:=rfl
theorem I7{r:Option Nat}{f:FuncId}{args:Array Value}:CallsIn (FW r) n P f args w R↔Calls P f args w R:=by
 rw[<-callsIn_wide (n:=n)];unfold CallsIn;rw[nKk];exact⟨λh=>⟨trivial,λcs _=>h.2 cs (n9n _ _)⟩,λh=>⟨trivial,λcs _=>h.2 cs (room_wide _)⟩⟩
abbrev aZ:=Exit->Act->World->Prop
structure Cx where
 P:Program
 r:Option Nat
 N:Nat
variable (C:Cx)
def PJ (Q:aZ) (e:Exit) (E:Env) (D:List Deferred) (G:Gh) (L:List World) (H:ad):Prop:=
 ∀a W,a.tmps.size=C.N->a.defers=D->Fits E a->St G L H W->Q e a W
def CJ (c:Code) (Q:aZ) (E:Env) (D:List Deferred) (G:Gh) (L:List World) (H:ad):Prop:=
 ∀a W,a.tmps.size=C.N->a.defers=D->Fits E a->St G L H W->c.wpIn (FW C.r) 0 C.P Q a W
def OJ (ops:Array Oper) (Q:aZ) (l:List Oper) (E:Env) (D:List Deferred) (G:Gh) (L:List World) (H:ad):Prop:=
 ∀a W,a.tmps.size=C.N->a.defers=D->Fits E a->St G L H W->wpListIn (FW C.r) 0 C.P ops Q l a W
section
variable {C:Cx} {Q:aZ} {E E':Env} {D:List Deferred} {G:Gh} {L L':List World} {H:ad} {ops:Array Oper} {l:List Oper}
theorem CJ.region{id:Nat}(h:OJ C l.toArray Q l E D G L H):CJ C (.region id l.toArray false) Q E D G L H:=
 λa W hN hD hF hS=>wpIn_region_lit (h a W hN hD hF hS)
theorem CJ.seq{x y:Code}(h:CJ C x (Exit.then (y.wpIn (FW C.r) 0 C.P Q) Q) E D G L H):CJ C (.seq x y) Q E D G L H:=
 λa W hN hD hF hS=>wpIn_seq (h a W hN hD hF hS)
theorem CJ.block{id:Nat}(h:CJ C c (Exit.inBlock id Q) E D G L H):CJ C (.block id c) Q E D G L H:=
 λa W hN hD hF hS=>wpIn_block (h a W hN hD hF hS)
theorem CJ.skip(h:PJ C Q .normal E D G L H):CJ C .skip Q E D G L H:=λa W hN hD hF hS=>wpIn_skip (h a W hN hD hF hS)
theorem CJ.ret(h:PJ C Q .ret E D G L H):CJ C .ret Q E D G L H:=λa W hN hD hF hS=>wpIn_ret (h a W hN hD hF hS)
theorem CJ.exit{id:Nat}(h:PJ C Q (.exit id) E D G L H):CJ C (.exit id) Q E D G L H:=λa W hN hD hF hS=>wpIn_exit (h a W hN hD hF hS)
theorem PJ.next{y:Code}(h:CJ C y Q E D G L H):PJ C (Exit.then (y.wpIn (FW C.r) 0 C.P Q) Q) .normal E D G L H:=h
theorem OJ.done(h:PJ C Q .normal E D G L H):OJ C ops Q [] E D G L H:=h
theorem CJ.condT{c:Operand}{x y:Code}(hc:ev E c=some (.bool true))(h:CJ C x Q E D G L H):CJ C (.cond c x y) Q E D G L H:=
 λa W hN hD hF hS=>wpIn_cond_true (hF.ev hc) (h a W hN hD hF hS)
theorem CJ.condF{c:Operand}{x y:Code}(hc:ev E c=some (.bool false))(h:CJ C y Q E D G L H):CJ C (.cond c x y) Q E D G L H:=
 λa W hN hD hF hS=>wpIn_cond_false (hF.ev hc) (h a W hN hD hF hS)
theorem CJ.cond{c:Operand}{x y:Code}{t:Bool}(hc:ev E c=some (.bool t))(h1:t=true->CJ C x Q E D G L H)(h2:t=false->CJ C y Q E D G L H):CJ C (.cond c x y) Q E D G L H:=
 λa W hN hD hF hS=>wpIn_cond_split (hF.ev hc) (λht=>h1 ht a W hN hD hF hS) (λht=>h2 ht a W hN hD hF hS)
theorem CJ.less(hs:Sub E' E)(h:CJ C c Q E' D G L H):CJ C c Q E D G L H:=
 λa W hN hD hF hS=>h a W hN hD (hs.fits hF) hS
theorem OJ.less(hs:Sub E' E)(h:OJ C ops Q l E' D G L H):OJ C ops Q l E D G L H:=
 λa W hN hD hF hS=>h a W hN hD (hs.fits hF) hS
theorem PJ.less{e:Exit}(hs:Sub E' E)(h:PJ C Q e E' D G L H):PJ C Q e E D G L H:=
 λa W hN hD hF hS=>h a W hN hD (hs.fits hF) hS
theorem St.lessL(h:St G L H W)(hs:∀w∈L',w∈L):St G L' H W:=
 {h with links:=λw hw=>h.links w (hs w hw)}
theorem CJ.lessL(hs:∀w∈L',w∈L)(h:CJ C c Q E D G L' H):CJ C c Q E D G L H:=
 λa W hN hD hF hS=>h a W hN hD hF (hS.lessL hs)
theorem CJ.snap(h:∀W,St G L H W->CJ C c Q E D G (W::L) H):CJ C c Q E D G L H:=
 λa W hN hD hF hS=>h W hS a W hN hD hF hS.snap
theorem OJ.snap(h:∀W,St G L H W->OJ C ops Q l E D G (W::L) H):OJ C ops Q l E D G L H:=
 λa W hN hD hF hS=>h W hS a W hN hD hF hS.snap
theorem ni{c:Bool}(hc:look E t=some (.bool c))(h1:c=true->OJ C ops Q l ((t,.bool true)::E) D G L H)(h2:c=false->OJ C ops Q l ((t,.bool false)::E) D G L H):OJ C ops Q l E D G L H:=by
 intro a W hN hD hF hS;have OV:∀b,c=b->Fits ((t,.bool b)::E) a:=by
  rintro b rfl u v hv;simp only[look]at hv;by_cases e:t=u
  ·subst e;simp only[MK,vP]at hv;subst hv;exact hF _ _ hc
  simp only[TI e]at hv;exact hF _ _ hv
 cases c with
 |true=>exact h1 rfl a W hN hD (OV _ rfl) hS
 |false=>exact h2 rfl a W hN hD (OV _ rfl) hS
theorem OJ.off(hd:o.dst=some d)(iW:d<C.N)(hw:nl ops E o.guard=some false)(h:OJ C ops Q l ((d,undef)::E) D G L H):OJ C ops Q (o::l) E D G L H:=by
 intro a W hN hD hF hS;unfold wpListIn;rw[if_neg (by rw[Bg hF hw];simp)];refine⟨λ_ _=>trivial,?_⟩;rw[hd];exact h (a.put (some d) undef) W (by simp[Act.put,hN]) z5 (hF.put _ aa) hS
theorem OJ.run{H':ad}(hd:o.dst=some d)(hnd:∀c,o.op≠ .defer c)(iW:d<C.N)(hw:nl ops E o.guard=some true)(h:∀a W,Fits E a->St G L H W->∃W',(execOp a.eval o).run C.P W= .ok (.value v) W'/\St G L' H' W')(k:OJ C ops Q l ((d,v)::E) D G L' H'):OJ C ops Q (o::l) E D G L H:=by
 intro a W hN hD hF hS;obtain⟨W',hr,gF⟩:=h a W hF hS;unfold wpListIn;rw[if_pos (Bg hF hw)];refine⟨λ_ _=>trivial,?_⟩;rw[Oper.semAt_eq _ _ _ hnd,hr,Oper.uponIn_value,hd];exact k (a.put (some d) v) W' (by simp[Act.put,hN]) z5 (hF.put _ aa) gF
theorem OJ.val(hd:o.dst=some d)(hnd:∀c,o.op≠ .defer c)(iW:d<C.N)(hw:nl ops E o.guard=some true)(h:∀a W,Fits E a->St G L H W->(execOp a.eval o).run C.P W= .ok (.value v) W)(k:OJ C ops Q l ((d,v)::E) D G L H):OJ C ops Q (o::l) E D G L H:=
 OJ.run hd hnd iW hw (λa W hF hS=>⟨W,h a W hF hS,hS⟩) k
theorem ML{H':ad}(hd:o.dst=none)(hnd:∀c,o.op≠ .defer c)(hw:nl ops E o.guard=some true)(h:∀a W,Fits E a->St G L H W->∃n W',(n= .skip\/∃v,n= .value v)/\(execOp a.eval o).run C.P W= .ok n W'/\St G L' H' W')(k:OJ C ops Q l E D G L' H'):OJ C ops Q (o::l) E D G L H:=by
 intro a W hN hD hF hS;obtain⟨n,W',hn,hr,gF⟩:=h a W hF hS;unfold wpListIn;rw[if_pos (Bg hF hw)];refine⟨λ_ _=>trivial,?_⟩;rw[Oper.semAt_eq _ _ _ hnd,hr];rcases hn with rfl|⟨v,rfl⟩
 ·rw[Oper.uponIn_skip,hd];exact k a W' hN hD hF gF
 rw[Oper.uponIn_value,hd];exact k a W' hN hD hF gF
end
end Px
namespace Px
open Go Go.RowKit
section
variable {C:Cx} {Q:aZ} {E:Env} {D:List Deferred} {G:Gh} {L:List World} {H:ad} {ops:Array Oper} {l:List Oper}
variable {d T U ty:Nat} {pos:String} {aC:Array Edge} {g:Option (Nat×Bool)} {x y z:Operand}
variable {b:Nat}
theorem nT{a:Nat}(h:Nat.blt a b=true):a<b:=dO h
def RV (C:Cx) (G:Gh) (L:List World) (H:ad) (E:Env) (op:Op) (v:Value):Prop:=
 ∀(d ty:Nat) (pos:String) (aC:Array Edge) (g:Option (Nat×Bool)) (a:Act) (W:World),Fits E a->St G L H W->(execOp a.eval ⟨some d,op,ty,pos,aC,g⟩).run C.P W= .ok (.value v) W
variable {op:Op} {v:Value}
theorem HI(hnd:∀c,op≠ .defer c)(hw:nl ops E g=some true)(hN:Nat.blt d C.N=true)(h:∀a W,Fits E a->St G L H W->(execOp a.eval ⟨some d,op,ty,pos,aC,g⟩).run C.P W= .ok (.value v) W)(k:OJ C ops Q l ((d,v)::E) D G L H):OJ C ops Q (⟨some d,op,ty,pos,aC,g⟩::l) E D G L H:=
 OJ.val rfl hnd (nT hN) hw h k
theorem sP(hx:ev E x=some v):RV C G L H E (.move x) (v):=λd ty pos aC g a W hF hS=>by
 exact(λa W hF _=>by simp[execOp,hF.ev hx]:∀(a:Act) (W:World),Fits E a->St G L H W->(execOp a.eval ⟨some d,.move x,ty,pos,aC,g⟩).run C.P W= .ok (.value (v)) W) a W hF hS
theorem mv(hw:nl ops E g=some true)(hN:Nat.blt d C.N=true)(hx:ev E x=some v)(k:OJ C ops Q l ((d,v)::E) D G L H):OJ C ops Q (⟨some d,.move x,ty,pos,aC,g⟩::l) E D G L H:=
 HI zJ hw hN (λa W hF hS=>sP hx d ty pos aC g a W hF hS) k
theorem tz(hx:ev E x=some v):RV C G L H E (.assign x) (v):=λd ty pos aC g a W hF hS=>by
 exact(λa W hF _=>by simp[execOp,hF.ev hx]:∀(a:Act) (W:World),Fits E a->St G L H W->(execOp a.eval ⟨some d,.assign x,ty,pos,aC,g⟩).run C.P W= .ok (.value (v)) W) a W hF hS
theorem abm(hc:ev E x=some (.bool true))(hx:ev E y=some v):RV C G L H E (.pick x y z) (v):=λd ty pos aC g a W hF hS=>by
 exact(λa W hF _=>by simp[execOp,asBool,hF.ev hx,hF.ev hc]:∀(a:Act) (W:World),Fits E a->St G L H W->(execOp a.eval ⟨some d,.pick x y z,ty,pos,aC,g⟩).run C.P W= .ok (.value (v)) W) a W hF hS
theorem abn(hc:ev E x=some (.bool false))(hx:ev E z=some v):RV C G L H E (.pick x y z) (v):=λd ty pos aC g a W hF hS=>by
 exact(λa W hF _=>by simp[execOp,asBool,hF.ev hx,hF.ev hc]:∀(a:Act) (W:World),Fits E a->St G L H W->(execOp a.eval ⟨some d,.pick x y z,ty,pos,aC,g⟩).run C.P W= .ok (.value (v)) W) a W hF hS
/-! #### integers -/
section ints
variable {K:IntKind} {m n:Int}
theorem AY(hx:ev E x=some (.int K m))(hy:ev E y=some (.int K n)):RV C G L H E (.binOp .lss T x y U) (.bool (decide (m<n))):=λd ty pos aC g a W hF hS=>by
 exact(λa W hF _=>by simp[execOp,eqGuard,binOp,Op.intCmp,hF.ev hx,hF.ev hy]:∀(a:Act) (W:World),Fits E a->St G L H W->(execOp a.eval ⟨some d,.binOp .lss T x y U,ty,pos,aC,g⟩).run C.P W= .ok (.value (.bool (decide (m<n)))) W) a W hF hS
theorem abo(hx:ev E x=some (.int K m))(hy:ev E y=some (.int K n)):RV C G L H E (.binOp .leq T x y U) (.bool (decide (m<=n))):=λd ty pos aC g a W hF hS=>by
 exact(λa W hF _=>by simp[execOp,eqGuard,binOp,Op.intCmp,hF.ev hx,hF.ev hy]:∀(a:Act) (W:World),Fits E a->St G L H W->(execOp a.eval ⟨some d,.binOp .leq T x y U,ty,pos,aC,g⟩).run C.P W= .ok (.value (.bool (decide (m<=n)))) W) a W hF hS
theorem HJ(hx:ev E x=some (.int K m))(hy:ev E y=some (.int K n)):RV C G L H E (.binOp .gtr T x y U) (.bool (decide (n<m))):=λd ty pos aC g a W hF hS=>by
 exact(λa W hF _=>by simp[execOp,eqGuard,binOp,Op.intCmp,hF.ev hx,hF.ev hy]:∀(a:Act) (W:World),Fits E a->St G L H W->(execOp a.eval ⟨some d,.binOp .gtr T x y U,ty,pos,aC,g⟩).run C.P W= .ok (.value (.bool (decide (n<m)))) W) a W hF hS
theorem abp(hx:ev E x=some (.int K m))(hy:ev E y=some (.int K n)):RV C G L H E (.binOp .geq T x y U) (.bool (decide (n<=m))):=λd ty pos aC g a W hF hS=>by
 exact(λa W hF _=>by simp[execOp,eqGuard,binOp,Op.intCmp,hF.ev hx,hF.ev hy]:∀(a:Act) (W:World),Fits E a->St G L H W->(execOp a.eval ⟨some d,.binOp .geq T x y U,ty,pos,aC,g⟩).run C.P W= .ok (.value (.bool (decide (n<=m)))) W) a W hF hS
theorem lK(hx:ev E x=some (.int K m))(hy:ev E y=some (.int K n)):RV C G L H E (.binOp .eql T x y U) (.bool (decide (m=n))):=λd ty pos aC g a W hF hS=>by
 exact(λa W hF _=>by
  simp only[execOp,eqGuard,binOp,Op.intCmp,hF.ev hx,hF.ev hy];simp;rfl:∀(a:Act) (W:World),Fits E a->St G L H W->(execOp a.eval ⟨some d,.binOp .eql T x y U,ty,pos,aC,g⟩).run C.P W= .ok (.value (.bool (decide (m=n)))) W) a W hF hS
theorem cQ(hx:ev E x=some (.int K m))(hy:ev E y=some (.int K n)):RV C G L H E (.binOp .neq T x y U) (.bool (!decide (m=n))):=λd ty pos aC g a W hF hS=>by
 exact(λa W hF _=>by
  simp only[execOp,eqGuard,binOp,Op.intCmp,hF.ev hx,hF.ev hy];simp;rfl:∀(a:Act) (W:World),Fits E a->St G L H W->(execOp a.eval ⟨some d,.binOp .neq T x y U,ty,pos,aC,g⟩).run C.P W= .ok (.value (.bool (!decide (m=n)))) W) a W hF hS
theorem pw(hx:ev E x=some (.int K m))(hy:ev E y=some (.int K n)):RV C G L H E (.binOp .add T x y U) (.int K (K.wrap (m+n))):=λd ty pos aC g a W hF hS=>by
 exact(λa W hF _=>by simp[execOp,eqGuard,binOp,Op.intArith,hF.ev hx,hF.ev hy]:∀(a:Act) (W:World),Fits E a->St G L H W->(execOp a.eval ⟨some d,.binOp .add T x y U,ty,pos,aC,g⟩).run C.P W= .ok (.value (.int K (K.wrap (m+n)))) W) a W hF hS
theorem vl(hx:ev E x=some (.int K m))(hy:ev E y=some (.int K n)):RV C G L H E (.binOp .sub T x y U) (.int K (K.wrap (m-n))):=λd ty pos aC g a W hF hS=>by
 exact(λa W hF _=>by simp[execOp,eqGuard,binOp,Op.intArith,hF.ev hx,hF.ev hy]:∀(a:Act) (W:World),Fits E a->St G L H W->(execOp a.eval ⟨some d,.binOp .sub T x y U,ty,pos,aC,g⟩).run C.P W= .ok (.value (.int K (K.wrap (m-n)))) W) a W hF hS
theorem kp(hx:ev E x=some (.int K m))(hy:ev E y=some (.int K n)):RV C G L H E (.binOp .mul T x y U) (.int K (K.wrap (m*n))):=λd ty pos aC g a W hF hS=>by
 exact(λa W hF _=>by simp[execOp,eqGuard,binOp,Op.intArith,hF.ev hx,hF.ev hy]:∀(a:Act) (W:World),Fits E a->St G L H W->(execOp a.eval ⟨some d,.binOp .mul T x y U,ty,pos,aC,g⟩).run C.P W= .ok (.value (.int K (K.wrap (m*n)))) W) a W hF hS
theorem TL{n:Int}(h1: -9223372036854775808<=n)(h2:n<=9223372036854775807):IntKind.i64.wrap n=n:=by
 unfold IntKind.wrap;simp[IntKind.bits,IntKind.signed];split<;>omega
theorem OW{n:Int}(h1:0<=n)(h2:n<18446744073709551616):IntKind.u64.wrap n=n:=by
 unfold IntKind.wrap;simp[IntKind.bits,IntKind.signed];omega
theorem nC(n:Int):IntKind.u64.wrap n=n%18446744073709551616:=by
 exact zUh
theorem nfl(n:Int):IntKind.u8.wrap n=n%256:=by
 exact zUh
theorem n2e(n:Int):IntKind.u32.wrap n=n%4294967296:=by
 exact zUh
theorem hJ(hx:ev E x=some (.int .i64 m))(hy:ev E y=some (.int .i64 n))(h1: -9223372036854775808<=m+n)(h2:m+n<=9223372036854775807):RV C G L H E (.binOp .add T x y U) (.int .i64 (m+n)):=by
 have:=pw (C:=C) (G:=G) (L:=L) (H:=H) (T:=T) (U:=U) hx hy;rwa[TL h1 h2]at this
theorem qI(hx:ev E x=some (.int .i64 m))(hy:ev E y=some (.int .i64 n))(h1: -9223372036854775808<=m-n)(h2:m-n<=9223372036854775807):RV C G L H E (.binOp .sub T x y U) (.int .i64 (m-n)):=by
 have:=vl (C:=C) (G:=G) (L:=L) (H:=H) (T:=T) (U:=U) hx hy;rwa[TL h1 h2]at this
theorem ve(hx:ev E x=some (.int .i64 m))(hy:ev E y=some (.int .i64 n))(h1: -9223372036854775808<=m*n)(h2:m*n<=9223372036854775807):RV C G L H E (.binOp .mul T x y U) (.int .i64 (m*n)):=by
 have:=kp (C:=C) (G:=G) (L:=L) (H:=H) (T:=T) (U:=U) hx hy;rwa[TL h1 h2]at this
/-! #### division, shifts, bits -/
theorem HK(hx:ev E x=some (.int K m))(hy:ev E y=some (.int K n))(h0:n≠0):RV C G L H E (.binOp .quo T x y U) (.int K (K.wrap (m.tdiv n))):=λd ty pos aC g a W hF _=>by
 simp[execOp,eqGuard,binOp,Op.intDiv,hF.ev hx,hF.ev hy,h0]
theorem TM(hx:ev E x=some (.int K m))(hy:ev E y=some (.int K n))(h0:n≠0):RV C G L H E (.binOp .rem T x y U) (.int K (m.tmod n)):=λd ty pos aC g a W hF _=>by
 simp[execOp,eqGuard,binOp,Op.intDiv,hF.ev hx,hF.ev hy,h0]
variable {K':IntKind}
theorem qF(hx:ev E x=some (.int K m))(hy:ev E y=some (.int K' n))(h0:0<=n):RV C G L H E (.binOp .shl T x y U) (.int K (K.wrap (m*2^(min n.toNat K.bits)))):=λd ty pos aC g a W hF _=>by
 simp[execOp,eqGuard,binOp,Op.shift,hF.ev hx,hF.ev hy,show ¬n<0 by omega]
theorem lJ(hx:ev E x=some (.int K m))(hy:ev E y=some (.int K' n))(h0:0<=n):RV C G L H E (.binOp .shr T x y U) (.int K (m.fdiv (2^(min n.toNat K.bits)))):=λd ty pos aC g a W hF _=>by
 simp[execOp,eqGuard,binOp,Op.shift,hF.ev hx,hF.ev hy,show ¬n<0 by omega]
theorem HL(hx:ev E x=some (.int K m))(hy:ev E y=some (.int K n)):RV C G L H E (.binOp .and T x y U) (.int K (K.wrap (BitVec.ofInt K.bits m&&&BitVec.ofInt K.bits n).toNat)):=λd ty pos aC g a W hF _=>by
 simp only[execOp,eqGuard,binOp,Op.intBits,hF.ev hx,hF.ev hy];simp
theorem An(hx:ev E x=some (.int K m))(hy:ev E y=some (.int K n)):RV C G L H E (.binOp .or T x y U) (.int K (K.wrap (BitVec.ofInt K.bits m|||BitVec.ofInt K.bits n).toNat)):=λd ty pos aC g a W hF _=>by
 simp only[execOp,eqGuard,binOp,Op.intBits,hF.ev hx,hF.ev hy];simp
theorem yu(hx:ev E x=some (.int K m))(hy:ev E y=some (.int K n)):RV C G L H E (.binOp .xor T x y U) (.int K (K.wrap (BitVec.ofInt K.bits m^^^BitVec.ofInt K.bits n).toNat)):=λd ty pos aC g a W hF _=>by
 simp only[execOp,eqGuard,binOp,Op.intBits,hF.ev hx,hF.ev hy];simp
theorem C9{s:ByteArray}{b:UInt8}(hU:C.P.underlying T=some .string)(hx:ev E x=some (.string s))(hy:ev E y=some (.int K n))(h0:0<=n)(hb:s[n.toNat]? =some b):RV C G L H E (.index T x y) (.int .u8 b.toNat):=λd ty pos aC g a W hF _=>by
 simp[execOp,hF.ev hx,hF.ev hy,Instr.index,asIntOf,run_underlying hU,h0,hb]
def MM:Op->Bool
 | .defer _=>false
 |_=>true
theorem HM(h:MM op=true):∀c,op≠ .defer c:=λc e=>by subst e;cases h
theorem rv(hnd:MM op=true)(hw:nl ops E g=some true)(hN:Nat.blt d C.N=true)(h:RV C G L H E op v)(k:OJ C ops Q l ((d,v)::E) D G L H):OJ C ops Q (⟨some d,op,ty,pos,aC,g⟩::l) E D G L H:=
 HI (HM hnd) hw hN (λa W hF hS=>h d ty pos aC g a W hF hS) k
theorem RV.re{v':Value}(h:RV C G L H E op v)(e:v=v'):RV C G L H E op v':=e▸h
theorem OJ.re{v':Value}(e:v=v')(k:OJ C ops Q l ((d,v')::E) D G L H):OJ C ops Q l ((d,v)::E) D G L H:=by rw[e];exact k
theorem WV(m:Int)(j:Nat):m.fdiv (2^j)=m/2^j:=by grind
theorem nso{m:Int}(h0:0<=m)(h1:m<18446744073709551616)(j:Nat)(hj:j<=64):IntKind.u64.wrap (BitVec.ofInt IntKind.u64.bits m&&&BitVec.ofInt IntKind.u64.bits (2^j-1)).toNat=m%2^j:=by
 obtain⟨k,rfl⟩:=Nh h0;have hk:k<18446744073709551616:=by omega
 have e1:(BitVec.ofInt IntKind.u64.bits (k:Int)).toNat=k:=by
  rw[BitVec.ofInt_natCast,BitVec.toNat_ofNat];exact Nat.mod_eq_of_lt hk
 have hp:(2:Int)^j-1=((2^j-1:Nat):Int):=by
  have:0<2^j:=Nat.two_pow_pos j;rw[Int.ofNat_sub aa];simp
 have hle:2^j<=18446744073709551616:=by
  have:=Nat.pow_le_pow_right (show 0<2 by decide) hj;simpa using this
 have e2:(BitVec.ofInt IntKind.u64.bits ((2:Int)^j-1)).toNat=2^j-1:=by
  rw[hp,BitVec.ofInt_natCast,BitVec.toNat_ofNat];exact Nat.mod_eq_of_lt (by have:0<2^j:=Nat.two_pow_pos j;simp[IntKind.bits];omega)
 rw[BitVec.toNat_and,e1,e2,Nat.and_two_pow_sub_one_eq_mod];have:k%2^j<=k:=Nat.mod_le _ _;rw[OW aa aa];simp
theorem HN(hx:ev E x=some (.int .u64 m))(hy:ev E y=some (.int .u64 n))(h1:0<=m+n)(h2:m+n<18446744073709551616):RV C G L H E (.binOp .add T x y U) (.int .u64 (m+n)):=by
 have:=pw (C:=C) (G:=G) (L:=L) (H:=H) (T:=T) (U:=U) hx hy;rwa[OW h1 h2]at this
theorem tX(hx:ev E x=some (.int .u64 m))(hy:ev E y=some (.int .u64 n))(h1:0<=m-n)(h2:m-n<18446744073709551616):RV C G L H E (.binOp .sub T x y U) (.int .u64 (m-n)):=by
 have:=vl (C:=C) (G:=G) (L:=L) (H:=H) (T:=T) (U:=U) hx hy;rwa[OW h1 h2]at this
theorem Ae(hx:ev E x=some (.int .u64 m))(hy:ev E y=some (.int .u64 n))(h1:0<=m*n)(h2:m*n<18446744073709551616):RV C G L H E (.binOp .mul T x y U) (.int .u64 (m*n)):=by
 have:=kp (C:=C) (G:=G) (L:=L) (H:=H) (T:=T) (U:=U) hx hy;rwa[OW h1 h2]at this
theorem xW(hx:ev E x=some (.int .u64 m))(hy:ev E y=some (.int .u64 n))(h0:0<=m)(h1:m<18446744073709551616)(h2:1<=n):RV C G L H E (.binOp .quo T x y U) (.int .u64 (m/n)):=by
 have:=HK (C:=C) (G:=G) (L:=L) (H:=H) (T:=T) (U:=U) hx hy aa;rw[Int.tdiv_eq_ediv_of_nonneg h0,OW (Int.ediv_nonneg h0 aa) (Int.lt_of_le_of_lt (Int.ediv_le_self _ h0) h1)]at this;exact this
theorem Dd(hx:ev E x=some (.int K m))(hy:ev E y=some (.int K n))(h0:0<=m)(h2:1<=n):RV C G L H E (.binOp .rem T x y U) (.int K (m%n)):=by
 have:=TM (C:=C) (G:=G) (L:=L) (H:=H) (T:=T) (U:=U) hx hy aa;all_goals grind
theorem D2(hx:ev E x=some (.int .i64 m))(hy:ev E y=some (.int .i64 n))(h0:0<=m)(h1:m<9223372036854775808)(h2:1<=n):RV C G L H E (.binOp .quo T x y U) (.int .i64 (m/n)):=by
 have:=HK (C:=C) (G:=G) (L:=L) (H:=H) (T:=T) (U:=U) hx hy aa;have h3:m/n<=m:=Int.ediv_le_self _ h0;have h4:0<=m/n:=Int.ediv_nonneg h0 aa;all_goals grind [TL]
theorem nkl{j:Nat}{K:IntKind}(hj:Nat.ble j K.bits=true):min (Int.toNat (j:Int)) K.bits=j:=by
 have:=dO hj;simp;omega
theorem iM(j:Nat)(q:Int)(hq:(2:Int)^j=q)(hj:Nat.ble j K.bits=true)(hx:ev E x=some (.int K m))(hy:ev E y=some (.int K' (j:Int))):RV C G L H E (.binOp .shr T x y U) (.int K (m/q)):=by
 have:=lJ (C:=C) (G:=G) (L:=L) (H:=H) (T:=T) (U:=U) hx hy aa;rw[nkl hj,WV,hq]at this;exact this
theorem Dg(j:Nat)(q:Int)(hq:(2:Int)^j=q)(hj:Nat.ble j K.bits=true)(hx:ev E x=some (.int K m))(hy:ev E y=some (.int K' (j:Int))):RV C G L H E (.binOp .shl T x y U) (.int K (K.wrap (m*q))):=by
 have:=qF (C:=C) (G:=G) (L:=L) (H:=H) (T:=T) (U:=U) hx hy aa;rw[nkl hj,hq]at this;exact this
theorem qG(j:Nat)(q:Int)(hq:(2:Int)^j=q)(hj:Nat.ble j 64=true)(hx:ev E x=some (.int .u64 m))(hy:ev E y=some (.int .u64 n))(hn:n=q-1)(h0:0<=m)(h1:m<18446744073709551616):RV C G L H E (.binOp .and T x y U) (.int .u64 (m%q)):=by
 have:=HL (C:=C) (G:=G) (L:=L) (H:=H) (T:=T) (U:=U) hx hy;rw[hn,<-hq,nso h0 h1 j (dO hj)]at this;rwa[<-hq]
theorem kq{S T':Nat}{ds:TypeDesc}(HO:C.P.underlying S=some ds)(hT:C.P.underlying T'=some (.int K'))(hx:ev E x=some (.int K m)):RV C G L H E (.convert S T' x) (.int K' (K'.wrap m)):=λd ty pos aC g a W hF hS=>by
 exact(λa W hF _=>by
  simp[execOp,convert,hF.ev hx,run_underlying HO,run_underlying hT,Conv.intToInt]:∀(a:Act) (W:World),Fits E a->St G L H W->(execOp a.eval ⟨some d,.convert S T' x,ty,pos,aC,g⟩).run C.P W= .ok (.value (.int K' (K'.wrap m))) W) a W hF hS
theorem yl{S T':Nat}{ds:TypeDesc}(HO:C.P.underlying S=some ds)(hT:C.P.underlying T'=some (.int .i64))(hx:ev E x=some (.int K m))(h1: -9223372036854775808<=m)(h2:m<=9223372036854775807):RV C G L H E (.convert S T' x) (.int .i64 m):=by
 have:=kq (C:=C) (G:=G) (L:=L) (H:=H) HO hT hx;rwa[TL h1 h2]at this
theorem xV{S T':Nat}{ds:TypeDesc}(HO:C.P.underlying S=some ds)(hT:C.P.underlying T'=some (.int .u64))(hx:ev E x=some (.int K m))(h1:0<=m)(h2:m<18446744073709551616):RV C G L H E (.convert S T' x) (.int .u64 m):=by
 have:=kq (C:=C) (G:=G) (L:=L) (H:=H) HO hT hx;rwa[OW h1 h2]at this
theorem oK{S T':Nat}{ds:TypeDesc}(HO:C.P.underlying S=some ds)(hT:C.P.underlying T'=some (.int .u8))(hx:ev E x=some (.int K m)):RV C G L H E (.convert S T' x) (.int .u8 (m%256)):=by
 have:=kq (C:=C) (G:=G) (L:=L) (H:=H) HO hT hx;rwa[nfl]at this
theorem vj{S T':Nat}{ds:TypeDesc}(HO:C.P.underlying S=some ds)(hT:C.P.underlying T'=some (.int .u8))(hx:ev E x=some (.int K m))(h0:0<=m)(h1:m<256):RV C G L H E (.convert S T' x) (.int .u8 m):=by
 have:=oK (C:=C) (G:=G) (L:=L) (H:=H) HO hT hx;rwa[Int.emod_eq_of_lt h0 h1]at this
end ints
theorem iT{b:Bool}(hx:ev E x=some (.bool b)):RV C G L H E (.unOp .not T x) (.bool (!b)):=λd ty pos aC g a W hF hS=>by
 exact(λa W hF _=>by simp[execOp,Op.unary,hF.ev hx]:∀(a:Act) (W:World),Fits E a->St G L H W->(execOp a.eval ⟨some d,.unOp .not T x,ty,pos,aC,g⟩).run C.P W= .ok (.value (.bool (!b))) W) a W hF hS
variable {i:Nat}
theorem jg{vs:Array Value}(hx:ev E x=some (.tuple vs))(hv:vs[i]? =some v):RV C G L H E (.extract x i) (v):=λd ty pos aC g a W hF hS=>by
 exact(λa W hF _=>by simp[execOp,Instr.extract,hF.ev hx,hv]:∀(a:Act) (W:World),Fits E a->St G L H W->(execOp a.eval ⟨some d,.extract x i,ty,pos,aC,g⟩).run C.P W= .ok (.value (v)) W) a W hF hS
/-! #### calls -/
/-- What a contract says that leaves all that lay as_ it lay: it returns v. -/
def aM (w:World) (v:Value):Ending->World->Prop:=λe w'=>e= .returned v/\Below w.heap.size w w'
def cN {α:Type} (w:World) (v:α->Value) (Φ:α->World->Prop):Ending->World->Prop:=λe w'=>∃x,e= .returned (v x)/\Below w.heap.size w w'/\Φ x w'
def eg (P:Program) (f:Nat):Prop:=∀(args:Array Value) (w:World),(callFunc f args).run P w= .ok (.enter f args) w
def iV (E:Env):List Operand->Option (List Value)
 | []=>some []
 |x::xs=>
  match ev E x with
  |some v=>
   match iV E xs with
   |some vs=>some (v::vs)
   |none=>none
  |none=>none
theorem MN{E:Env}{a:Act}(h:Fits E a):∀(xs:List Operand) (vs:List Value),iV E xs=some vs->xs.map a.eval=vs
 | [],vs,hv=>by simp[iV]at hv;simp[hv]
 |x::xs,vs,hv=>by
  simp only[iV]at hv;cases hx:ev E x with
  |none=>simp[hx]at hv
  |some v=>
   simp only[hx]at hv;cases hs:iV E xs with
   |none=>simp[hs]at hv
   |some us=>
    simp only[hs,vP]at hv;subst hv;simp[h.ev hx,MN h xs us hs]
variable {f:Nat} {xs:List Operand} {vs:List Value} {eo:Array Nat}
variable {o:Oper}
theorem nI{x:Operand}(ho:o.op= .call ⟨.value x,xs.toArray,eo⟩){first cap kL:Array Value}(hw:nl ops E o.guard=some true)(hx:ev E x=some (.func (.func f) first cap))(ha:iV E xs=some vs)(has:first++vs.toArray++cap=kL)(az:eg C.P f)(hc:∀a W,a.tmps.size=C.N->a.defers=D->Fits E a->St G L H W->Calls C.P f kL W λ| .returned v,W'=>wpListIn (FW C.r) 0 C.P ops Q l (a.put o.dst v) W'| .panicked ch,W'=>Q (.panic ch) a W'| .outgrown,_=>LetsOut Q):OJ C ops Q (o::l) E D G L H:=by
 intro a W hN hD hF hS;unfold wpListIn;rw[if_pos (Bg hF hw)];refine⟨λ_ _=>trivial,?_⟩;have hr:(execOp a.eval o).run C.P W= .ok (.enter f kL) W:=by
  have h2:(xs.toArray).map a.eval=vs.toArray:=by rw[C8,MN hF xs vs ha]
  simp only[execOp,ho,resolve,hF.ev hx,Deferred.ofValue,h2];simp[invoke,has,az kL W]
 rw[Oper.semAt_eq _ _ _ (by rw[ho];simp),hr,Oper.uponIn_enter];exact⟨by simp,I7.2 (hc a W hN hD hF hS)⟩
theorem call(az:eg C.P f)(hw:nl ops E g=some true)(hN:Nat.blt d C.N=true)(ha:iV E xs=some vs)(hc:∀W,St G L H W->Calls C.P f vs.toArray W (aM W v))(k:OJ C ops Q l ((d,v)::E) D G L H):OJ C ops Q (⟨some d,.call ⟨.value (.func f),xs.toArray,eo⟩,ty,pos,aC,g⟩::l) E D G L H:=
 nI rfl hw rfl ha zJ az λa W iW hD hF hS=>(hc W hS).mono (by
  rintro e W' ⟨rfl,hb⟩;exact k (a.put (some d) v) W' z7 z5 (hF.put _ z6) (hS.step hb))
theorem nv{α:Type}{v:α->Value}{Φ:World->α->World->Prop}(az:eg C.P f)(hw:nl ops E g=some true)(hN:Nat.blt d C.N=true)(ha:iV E xs=some vs)(hc:∀W,St G L H W->Calls C.P f vs.toArray W (cN W v (Φ W)))(k:∀W x w1,St G L H W->Below W.heap.size W w1->Φ W x w1->OJ C ops Q l ((d,v x)::E) D G (w1::L) H):OJ C ops Q (⟨some d,.call ⟨.value (.func f),xs.toArray,eo⟩,ty,pos,aC,g⟩::l) E D G L H:=
 nI rfl hw rfl ha zJ az λa W iW hD hF hS=>(hc W hS).mono (by
  rintro e W' ⟨x,rfl,hb,hx⟩;exact k W x W' hS hb hx (a.put (some d) (v x)) W' z7 z5 (hF.put _ z6) (hS.step hb).snap)
end
/-! #### into a function, and out of it -/
def zy:Nat->List Value->Env
 |_,[]=>[]
 |i,v::vs=>(i,v)::zy (i+1) vs
theorem nsi:∀(vs:List Value) (i t:Nat) (v:Value),look (zy i vs) t=some v->i<=t/\vs[t-i]? =some v
 | [],i,t,v,h=>by simp[zy,look]at h
 |u::vs,i,t,v,h=>by
  simp only[zy,look]at h;by_cases e:i=t
  ·subst e;simp only[MK,vP]at h;subst h;simp
  simp only[TI e]at h;obtain⟨h1,h2⟩:=nsi vs (i+1) t v h;refine⟨by omega,?_⟩;have:t-i=(t-(i+1))+1:=by omega
  rw[this];simpa using h2
theorem nmc(vs:List Value)(n:Nat):Fits (zy 0 vs) ⟨vs.toArray++Array.replicate n undef,[]⟩:=by
 intro t v h;obtain⟨_,h⟩:=nsi vs 0 t v h;simp only[Nat.sub_zero]at h;have hlt:=(gX.1 h).1;simp only[Act.eval,Array.getD_eq_getD_getElem?];rw[Vh (by simpa using hlt)];simp[h]
variable {c:Code} {R:Ending->World->Prop} {fn:Func} {vs:List Value} {f:Nat} {P:Program} {w:World}
theorem nB{N:Nat}(G:Gh)(H:ad)(hf:P.funcs[f]? =some fn)(hb:fn.body=some c)(hN:fn.ntmps=N)(hl:Nat.ble vs.length N=true)(hS:St G [w] H w)(h:CJ ⟨P,none,N⟩ c (bodyPost P fn R) (zy 0 vs) [] G [w] H):Calls P f vs.toArray w R:=by
 exact zjh
theorem Jg(w:World):St Gh.no [w] [] w:=
 ⟨trivial,λ_ h=>h.elim,λ_ h=>h.elim,λw' hw=>by simp at hw;subst hw;exact aH.refl _ _,λ_ h=>by simp at h,λ_ _ _ _ h=>by simp at h,λ_ h=>by simp at h⟩
theorem enter{N:Nat}(hf:P.funcs[f]? =some fn)(hb:fn.body=some c)(hN:fn.ntmps=N)(hl:Nat.ble vs.length N=true)(h:CJ ⟨P,none,N⟩ c (bodyPost P fn R) (zy 0 vs) [] Gh.no [w] []):Calls P f vs.toArray w R:=
 nB Gh.no [] hf hb hN hl (Jg w) h
section
variable {C:Cx} {fn:Func} {R:Ending->World->Prop} {E:Env} {G:Gh} {L:List World} {H:ad}
variable {W:World}
theorem St.belowNo(h:St Gh.no L [] W)(hw:w∈L):Below w.heap.size w W:=
 (h.links w hw).below λk _ hx=>by simp[Gh.no]at hx
variable {t:Nat} {v:Value}
theorem abt(hr:fn.results=#[.tmp t])(hv:look E t=some v)(h:∀W,St G L H W->R (.returned v) W):PJ C (bodyPost C.P fn R) .ret E [] G L H:=
 λa W _ hD hF hS=>⟨hD,v,by rw[results_tmp hr];exact congrArg (λu=>Result.ok u W) (hF t v hv),h W hS⟩
theorem alr{u:Nat}{v':Value}(hr:fn.results=#[.tmp t,.tmp u])(hv:look E t=some v)(hv':look E u=some v')(h:∀W,St G L H W->R (.returned (.tuple #[v,v'])) W):PJ C (bodyPost C.P fn R) .ret E [] G L H:=
 λa W _ hD hF hS=>⟨hD,.tuple #[v,v'],by
  rw[results_tmp2 hr];have h1:=hF t v hv;have h2:=hF u v' hv';simp only[Act.eval]at h1 h2;rw[h1,h2],h W hS⟩
theorem rS{α:Type}{u:α->Value}{Φ:α->World->Prop}(x:α)(hr:fn.results=#[.tmp t])(hv:look E t=some v)(hw:w∈L)(e:v=u x)(h:∀W,St Gh.no L [] W->Φ x W):PJ C (bodyPost C.P fn (cN w u Φ)) .ret E [] Gh.no L []:=
 abt hr hv λW hS=>⟨x,by rw[e],hS.belowNo hw,h W hS⟩
theorem aF{v':Value}(hr:fn.results=#[.tmp t])(hv:look E t=some v)(hw:w∈L)(e:v=v'):PJ C (bodyPost C.P fn (aM w v')) .ret E [] Gh.no L []:=
 abt hr hv λ_ hS=>⟨by rw[e],hS.belowNo hw⟩
theorem nS{u:Nat}{v' v1 v2:Value}(hr:fn.results=#[.tmp t,.tmp u])(hv:look E t=some v)(hv':look E u=some v')(hw:w∈L)(e:v=v1)(e':v'=v2):PJ C (bodyPost C.P fn (aM w (.tuple #[v1,v2]))) .ret E [] Gh.no L []:=
 alr hr hv hv' λ_ hS=>⟨by rw[e,e'],hS.belowNo hw⟩
end
end Px
namespace Px
open Go Go.RowKit
section
variable {C:Cx} {Q:aZ} {E:Env} {D:List Deferred} {G:Gh} {L:List World} {H:ad} {K:Act->World->Prop} {id j:Nat}
theorem PJ.retThen(h:PJ C Q .ret E D G L H):PJ C (Exit.then K Q) .ret E D G L H:=h
theorem PJ.retBlock(h:PJ C Q .ret E D G L H):PJ C (Exit.inBlock id Q) .ret E D G L H:=h
theorem PJ.norBlock(h:PJ C Q .normal E D G L H):PJ C (Exit.inBlock id Q) .normal E D G L H:=h
theorem PJ.exThen(h:PJ C Q (.exit id) E D G L H):PJ C (Exit.then K Q) (.exit id) E D G L H:=h
theorem PJ.exHit(h:PJ C Q .normal E D G L H):PJ C (Exit.inBlock id Q) (.exit id) E D G L H:=λa W hN hD hF hS=>by
 simp only[Exit.inBlock,if_true];exact h a W hN hD hF hS
theorem nec(hne:Nat.beq id j=false)(h:PJ C Q (.exit id) E D G L H):PJ C (Exit.inBlock j Q) (.exit id) E D G L H:=λa W hN hD hF hS=>by
 have:¬id=j:=λe=>by subst e;rw[MK]at hne;cases hne
 simp only[Exit.inBlock,this,if_false];exact h a W hN hD hF hS
theorem nNg(p:Nat->Prop):∀n,p n->∃m,p m/\∀k,p k->m<=k:=by
 intro n;induction n using Nat.strongRecOn with
 |_ n ih=>
  intro hn;by_cases h:∃k,k<n/\p k
  ·obtain⟨k,hk,hp⟩:=h;exact ih k hk hp
  exact⟨n,hn,λk hk=>Nat.le_of_not_lt λhlt=>h ⟨k,hlt,hk⟩⟩
open Classical in
noncomputable def TN (p:Nat->Prop):Nat:=if h:∃m,p m/\∀k,p k->m<=k then Classical.choose h else 0
theorem nve{p:Nat->Prop}(h:∃n,p n):p (TN p):=by
 obtain⟨n,hn⟩:=h;have h:=nNg p n hn;unfold TN;rw[dif_pos h];exact(Classical.choose_spec h).1
variable {n:Nat}
theorem n0f{p:Nat->Prop}(hn:p n):TN p<=n:=by
 have h:=nNg p n hn;unfold TN;rw[dif_pos h];exact(Classical.choose_spec h).2 n hn
def nLi {α:Type} (C:Cx) (D:List Deferred) (Ei:α->Env) (Hi:α->ad) (Li:α->List World) (Gi:α->Gh) (ok:α->Prop) (μ:α->Nat) (x:α) (a:Act) (W:World):Prop:=
 ∃x',ok x'/\μ x'<μ x/\a.tmps.size=C.N/\a.defers=D/\Fits (Ei x') a/\St (Gi x') (Li x') (Hi x') W
variable {c:Code}
theorem CJ.loopF{α:Type}(Ei:α->Env)(Hi:α->ad)(Li:α->List World)(Gi:α->Gh)(ok:α->Prop)(μ:α->Nat)(x0:α)(h0:ok x0)(hE:∀{a},Fits E a->Fits (Ei x0) a)(hH:Hi x0=H)(hG:Gi x0=G)(hL:∀w∈Li x0,w∈L)(round:∀x,ok x->CJ C c (Exit.then (nLi C D Ei Hi Li Gi ok μ x) Q) (Ei x) D (Gi x) (Li x) (Hi x)):CJ C (.loop c) Q E D G L H:=by
 intro a W hN hD hF hS;subst hH;subst hG
 let Inv:Act->World->Nat->Prop:=λa W m=>∃x,μ x=m/\ok x/\a.tmps.size=C.N/\a.defers=D/\Fits (Ei x) a/\St (Gi x) (Li x) (Hi x) W
 refine wpIn_loop (λa W=>∃m,Inv a W m) (λa W=>TN (Inv a W)) ⟨_,x0,rfl,h0,hN,hD,hE hF,hS.lessL hL⟩ ?_;exact z7f
theorem CJ.loop{α:Type}(Ei:α->Env)(Hi:α->ad)(Li:α->List World)(Gi:α->Gh)(ok:α->Prop)(μ:α->Nat)(x0:α)(h0:ok x0)(hE:Sub (Ei x0) E)(hH:Hi x0=H)(hG:Gi x0=G)(hL:∀w∈Li x0,w∈L)(round:∀x,ok x->CJ C c (Exit.then (nLi C D Ei Hi Li Gi ok μ x) Q) (Ei x) D (Gi x) (Li x) (Hi x)):CJ C (.loop c) Q E D G L H:=CJ.loopF Ei Hi Li Gi ok μ x0 h0 (λhF=>hE.fits hF) hH hG hL round
theorem PJ.again{α:Type}{Ei:α->Env}{Hi:α->ad}{Li:α->List World}{Gi:α->Gh}{ok:α->Prop}{μ:α->Nat}{x:α}(x':α)(h0:ok x')(hlt:μ x'<μ x)(hE:Sub (Ei x') E)(hH:Hi x'=H)(hG:Gi x'=G)(hL:∀w∈Li x',w∈L):PJ C (Exit.then (nLi C D Ei Hi Li Gi ok μ x) Q) .normal E D G L H:=by
 intro a W hN hD hF hS;subst hH;subst hG;exact⟨x',h0,hlt,hN,hD,hE.fits hF,hS.lessL hL⟩
theorem nYc(A B:Env)(t:Nat):look (A++B) t=(look A t).or (look B t):=by induction A<;>grind [look]
variable {a:Act}
theorem TO{A B:Env}(h1:Fits A a)(h2:Fits B a):Fits (A++B) a:=by
 intro t v hv;rw[nYc]at hv;cases h:look A t with
 |some u=>simp[h]at hv;subst hv;exact h1 t u h
 |none=>simp[h]at hv;exact h2 t v hv
/-- the slots of a list, each once -/
inductive KS:List Nat->Env->Env->Prop
 |nil {ks:List Nat} {E:Env}:KS ks E []
 |keep {ks:List Nat} {t:Nat} {v:Value} {E E':Env}:ks.any (Nat.beq t)=true->KS (ks.filter λk=> !Nat.beq t k) E E'->KS ks ((t,v)::E) ((t,v)::E')
 |skip {ks:List Nat} {t:Nat} {v:Value} {E E':Env}:ks.any (Nat.beq t)=false->KS ks E E'->KS ks ((t,v)::E) E'
variable {ks:List Nat}
theorem KS.done(_h:ks.isEmpty=true):KS ks E []:=.nil
theorem KS.look{E':Env}(h:KS ks E E'):∀{t v},Px.look E' t=some v->ks.any (Nat.beq t)=true/\Px.look E t=some v:=by
 induction h with
 |nil=>intro t v h;simp[Px.look]at h
 |@keep ks t0 v0 E E' h _ ih=>
  intro t v h2;simp only[Px.look]at h2 ⊢;cases hb:Nat.beq t0 t with
  |true=>rw[hb]at h2;rw[Nat.beq_eq]at hb;subst hb;exact⟨h,h2⟩
  |false=>
   rw[hb]at h2;have h3:=ih h2;refine⟨?_,h3.2⟩;have h4:=h3.1;simp only[List.any_eq_true,wD]at h4 ⊢;obtain⟨k,hk,e⟩:=h4;exact⟨k,hk.1,e⟩
 |@skip ks t0 v0 E E' h _ ih=>
  intro t v h2;have h3:=ih h2;simp only[Px.look];cases hb:Nat.beq t0 t with
  |true=>rw[Nat.beq_eq]at hb;subst hb;rw[h]at h3;cases h3.1
  |false=>exact h3
theorem KS.fits{E':Env}(h:KS ks E E')(hF:Fits E a):Fits E' a:=λt v hv=>hF t v (h.look hv).2
theorem CJ.lp{α:Type}{E0:Env}(ks:List Nat)(Ei:α->Env)(Hi:α->ad)(ok:α->Prop)(μ:α->Nat)(x0:α)(h0:ok x0)(round:∀x,ok x->CJ C c (Exit.then (nLi C D (λx=>Ei x++E0) Hi (λ_=>L) (λ_=>G) ok μ x) Q) (Ei x++E0) D G L (Hi x))(hK:KS ks E E0:=by exact zKS)(hE:Sub (Ei x0) E:=by exact zSU)(hH:Hi x0=H:=by exact rfl):CJ C (.loop c) Q E D G L H:=
 CJ.loopF (λx=>Ei x++E0) Hi (λ_=>L) (λ_=>G) ok μ x0 h0 (λhF=>TO (hE.fits hF) (hK.fits hF)) hH rfl (λ_ h=>h) round
theorem ag{α:Type}{Ei:α->Env}{Hi:α->ad}{Li:α->List World}{Gi:α->Gh}{ok:α->Prop}{μ:α->Nat}{x:α}(x':α)(h0:ok x')(hlt:μ x'<μ x:=by first|omega|(dsimp only;omega))(hE:Sub (Ei x') E:=by exact zSU)(hH:Hi x'=H:=by exact rfl)(hG:Gi x'=G:=by exact rfl)(hL:∀w∈Li x',w∈L:=by first|exact λ_ h=>h|simp):PJ C (Exit.then (nLi C D Ei Hi Li Gi ok μ x) Q) .normal E D G L H:=PJ.again x' h0 hlt hE hH hG hL
variable {R:Ending->World->Prop} {fn:Func} {vs:List Value} {f:Nat} {P:Program} {w:World}
theorem eN{N:Nat}(hf:P.funcs[f]? =some fn)(hN:fn.ntmps=N)(h:CJ ⟨P,none,N⟩ c (bodyPost P fn R) (zy 0 vs) [] Gh.no [w] [])(hb:fn.body=some c:=by exact rfl)(hl:Nat.ble vs.length N=true:=by exact rfl):Calls P f vs.toArray w R:=enter hf hb hN hl h
end
end Px
namespace Px
open Go Go.RowKit
abbrev ptr (b off:Nat):Value:=.pointer (some ⟨b,off,none⟩)
abbrev nJ (P:Program) (t n:Nat):Prop:=∀w:World,(Go.sizeOf t).run P w= .ok n w
abbrev ey (P:Program) (t:Nat) (b:Bool):Prop:=∀w:World,(isAgg t).run P w= .ok b w
abbrev Af (P:Program) (t:Nat) (v:Value):Prop:=∀w:World,(zeroValue t).run P w= .ok v w
theorem TP(b off n:Nat):(⟨b,off,none⟩:Addr).add n=⟨b,off+n,none⟩:=by
 unfold Addr.add;split<;>simp_all
variable {cs:Array Value} {b t:Nat} {fr:Nat×Nat} {W:World}
theorem KB(h:W.heap[b]? =some (.cells cs t fr))(i:Nat):W.cell? ⟨b,i,none⟩=cs[i]? :=by
 simp[World.cell?,h]
variable {P:Program} {v:Value}
theorem nHe{T off:Nat}(hA:ey P T false)(h:W.heap[b]? =some (.cells cs t fr))(hv:cs[off]? =some v):(loadVar T ⟨b,off,none⟩).run P W= .ok v W:=by
 have:W.cell? ⟨b,off,none⟩=some v:=by rw[KB h,hv]
 simp[loadVar,hA,load,Sem.run,this]
variable {n:Nat}
theorem nog{off:Nat}(h:W.heap[b]? =some (.cells cs t fr))(hn:off+n<=cs.size):(loadCells ⟨b,off,none⟩ n).run P W= .ok (cs.extract off (off+n)) W:=by
 have hl:(cs.extract off (off+n)).toList.length=n:=by simp;omega
 have:=run_loadCells_list (P:=P) W ⟨b,off,none⟩ (cs.extract off (off+n)).toList (λj v hv=>by
  rw[TP,KB h];have hj:j<n:=by
   have:=(gX.1 hv).1;omega
  rw[NZ,Array.getElem?_extract]at hv;simpa[show j<min (off+n) cs.size-off by omega]using hv)
 rw[hl]at this;rw[this,Array.toArray_toList]
def cut (cs:Array Value) (off n:Nat):Array Value:=((cs.toList.drop off).take n).toArray
theorem ngf(cs:Array Value)(off n:Nat):cs.extract off (off+n)=cut cs off n:=by grind [cut]
theorem nCf(cs:Array Value)(n:Nat)(h:cs.size=n):cut cs 0 n=cs:=by grind [cut]
theorem nSg{T off:Nat}(hA:ey P T true)(hZ:nJ P T n)(h:W.heap[b]? =some (.cells cs t fr))(hn:off+n<=cs.size):(loadVar T ⟨b,off,none⟩).run P W= .ok (.agg (cut cs off n)) W:=by
 simp[loadVar,hA W,hZ W,nog h hn,ngf]
def setCells (cs:Array Value) (off:Nat):List Value->Array Value
 | []=>cs
 |x::xs=>setCells (cs.setIfInBounds off x) (off+1) xs
theorem n5d(cs:Array Value)(off:Nat)(xs:List Value):(setCells cs off xs).size=cs.size:=by induction xs generalizing cs off<;>grind [setCells]
def yp:Value->Bool
 | .agg _| .tuple _=>false
 |_=>true
def aV:List Value->Bool
 | []=>true
 |x::xs=>yp x&&aV xs
theorem nMo{off:Nat}(h:W.heap[b]? =some (.cells cs t (0,0)))(mh:off<cs.size)(h1:yp v=true):(store ⟨b,off,none⟩ v).run P W= .ok () (W.setCell ⟨b,off,none⟩ v):=by
 have hc:W.cell? ⟨b,off,none⟩=some cs[off]:=by rw[KB h];simp[mh]
 have hf:W.frozen? ⟨b,off,none⟩=false:=by simp[World.frozen?,h]
 cases v<;>simp_all[store,Sem.run,yp]
theorem n0g{off:Nat}(v:Value)(h:W.heap[b]? =some (.cells cs t fr)):(W.setCell ⟨b,off,none⟩ v).heap[b]? =some (.cells (cs.setIfInBounds off v) t fr):=by
 have hlt:=(aT.1 h);simp only[World.setCell,a7p,if_true,h];simp
theorem nYg(W:World)(b off:Nat)(v:Value):aH (· =b) W (W.setCell ⟨b,off,none⟩ v):=
 ⟨rfl,rfl,rfl,ak _,by simp[World.setCell],λk _ hk=>by
  simp only[World.setCell,a7p];rw[if_neg (λe=>hk e.symm)]⟩
theorem nJc{P:Program}{b t off:Nat}:∀(xs:List Value) (i:Nat) (cs:Array Value) (W:World),W.heap[b]? =some (.cells cs t (0,0))->off+i+xs.length<=cs.size->aV xs=true->∃W',(storeCells ⟨b,off,none⟩ xs i).run P W= .ok () W'/\aH (· =b) W W'/\W'.heap[b]? =some (.cells (setCells cs (off+i) xs) t (0,0))
 | [],i,cs,W,h,_,_=>⟨W,by simp[storeCells],aH.refl _ _,h⟩
 |x::xs,i,cs,W,h,hn,h1=>by
  simp only[aV,oh]at h1;simp only[dC]at hn;have hs:=nMo (P:=P) h (show off+i<cs.size by omega) h1.1;obtain⟨W',hr,hk,hb⟩:=nJc (P:=P) (off:=off) xs (i+1) (cs.setIfInBounds (off+i) x) (W.setCell ⟨b,off+i,none⟩ x) (n0g x h) oI h1.2;refine⟨W',?_,(nYg W b (off+i) x).trans hk,?_⟩
  ·unfold storeCells;rw[Sem.run_bind,TP,hs];simpa using hr
  rw[hb,setCells];rfl
theorem nCl{T off:Nat}(hZ:nJ P T n)(hv:v.cells.size=n)(h:W.heap[b]? =some (.cells cs t (0,0)))(hn:off+n<=cs.size)(h1:aV v.cells.toList=true):∃W',(storeVar T ⟨b,off,none⟩ v).run P W= .ok () W'/\aH (· =b) W W'/\W'.heap[b]? =some (.cells (setCells cs off v.cells.toList) t (0,0)):=by
 obtain⟨W',hr,hk,hb⟩:=nJc (P:=P) (off:=off) v.cells.toList 0 cs W h (by simp[hv];omega) h1;exact⟨W',by simp[storeVar,hZ W,hv,hr],hk,hb⟩
section
variable {C:Cx} {Q:aZ} {E:Env} {D:List Deferred} {G:Gh} {L:List World} {H:ad} {ops:Array Oper} {l:List Oper}
variable {d T ty:Nat} {pos:String} {aC:Array Edge} {g:Option (Nat×Bool)} {x y:Operand}
variable {op:Op}
theorem qB(hnd:∀c,op≠ .defer c)(hw:nl ops E g=some true)(hN:Nat.blt d C.N=true)(h:∀a W,Fits E a->St G L H W->∃v W' L' H',(execOp a.eval ⟨some d,op,ty,pos,aC,g⟩).run C.P W= .ok (.value v) W'/\St G L' H' W'/\OJ C ops Q l ((d,v)::E) D G L' H'):OJ C ops Q (⟨some d,op,ty,pos,aC,g⟩::l) E D G L H:=by
 intro a W iW hD hF hS;obtain⟨v,W',L',H',hr,gF,k⟩:=h a W hF hS;unfold wpListIn;rw[if_pos (Bg hF hw)];refine⟨λ_ _=>trivial,?_⟩;rw[Oper.semAt_eq _ _ _ hnd,hr,Oper.uponIn_value];exact k (a.put (some d) v) W' z7 z5 (hF.put _ z6) gF
theorem St.offNew(h:St G L H W):aY H W.heap.size:=aY.of_mem λhm=>by
 obtain⟨p,hp,e⟩:=bY.1 hm;have:=h.lt p hp;omega
theorem St.mNew(h:St G L H W):¬G.X W.heap.size:=λhm=>by have:=h.xlt _ hm;omega
variable {a:Act}
theorem nAj(hx:a.eval x=v):(execOp a.eval ⟨some d,.box T x,ty,pos,aC,g⟩).run P W= .ok (.value (ptr W.heap.size 0)) (W.alloc (.cells v.cells T (0,0))):=by
 simp[execOp,hx,Instr.box,newVar,newRow,newObj,Sem.run]
theorem n7o{z:Value}(hz:Af P T z):(execOp a.eval ⟨some d,.alloc T,ty,pos,aC,g⟩).run P W= .ok (.value (ptr W.heap.size 0)) (W.alloc (.cells z.cells T (0,0))):=by
 simp[execOp,Instr.alloc,hz W,newVar,newRow,newObj,Sem.run]
theorem TQ(hw:nl ops E g=some true)(hN:Nat.blt d C.N=true)(hx:ev E x=some v)(k:∀(b:Nat) (w1:World),w1.heap[b]? =some (.cells v.cells T (0,0))->ae L b->aY H b->¬G.X b->w1.heap.size=b+1->OJ C ops Q l ((d,ptr b 0)::E) D G (w1::L) H):OJ C ops Q (⟨some d,.box T x,ty,pos,aC,g⟩::l) E D G L H:=
 qB zJ hw hN λ_ W hF hS=>⟨_,_,_,_,nAj (hF.ev hx),(hS.step (Y5 W _)).snap,
  k W.heap.size _ (heap_alloc_new W _) hS.sizes hS.offNew hS.mNew zJ⟩
theorem JE(hw:nl ops E g=some true)(hN:Nat.blt d C.N=true)(hx:ev E x=some v)(k:∀(b:Nat),ae L b->aY H b->OJ C ops Q l ((d,ptr b 0)::E) D G L ((b,.cells v.cells T (0,0))::H)):OJ C ops Q (⟨some d,.box T x,ty,pos,aC,g⟩::l) E D G L H:=
 qB zJ hw hN λ_ W hF hS=>⟨_,_,_,_,nAj (hF.ev hx),hS.alloc _,k W.heap.size hS.sizes hS.offNew⟩
theorem Cj{z:Value}(hz:Af C.P T z)(hw:nl ops E g=some true)(hN:Nat.blt d C.N=true)(k:∀(b:Nat),ae L b->aY H b->OJ C ops Q l ((d,ptr b 0)::E) D G L ((b,.cells z.cells T (0,0))::H)):OJ C ops Q (⟨some d,.alloc T,ty,pos,aC,g⟩::l) E D G L H:=
 qB zJ hw hN λ_ W _ hS=>⟨_,_,_,_,n7o hz,hS.alloc _,k W.heap.size hS.sizes hS.offNew⟩
variable {f:Nat}
theorem bQ{off:Nat}{fs:Array Field}{fi:Field}(hU:C.P.underlying T=some (.struct fs))(hf:fs[f]? =some fi)(hZ:nJ C.P fi.type (n+1))(hx:ev E x=some (ptr b off)):RV C G L H E (.fieldAddr T x f) (ptr b (off+fi.offset)):=λd ty pos aC g a W hF hS=>by
 exact(λa W hF _=>by
  simp[execOp,hF.ev hx,Instr.fieldAt,run_underlying hU,hf,Instr.sureAddr,fieldPlace,hZ W,TP]:∀(a:Act) (W:World),Fits E a->St G L H W->(execOp a.eval ⟨some d,.fieldAddr T x f,ty,pos,aC,g⟩).run C.P W= .ok (.value (ptr b (off+fi.offset))) W) a W hF hS
theorem ui{off len e:Nat}{K:IntKind}{i:Int}(hU:C.P.underlying T=some (.array len e))(hZ:nJ C.P e n)(hx:ev E x=some (ptr b off))(hy:ev E y=some (.int K i))(h0:0<=i)(h1:i<len):RV C G L H E (.indexAddr T x y) (ptr b (off+i.toNat*n)):=λd ty pos aC g a W hF hS=>by
 exact(λa W hF _=>by
  simp[execOp,hF.ev hx,hF.ev hy,Instr.indexAt,asIntOf,run_underlying hU,Instr.sureAddr,h0,h1,hZ W,TP]:∀(a:Act) (W:World),Fits E a->St G L H W->(execOp a.eval ⟨some d,.indexAddr T x y,ty,pos,aC,g⟩).run C.P W= .ok (.value (ptr b (off+i.toNat*n))) W) a W hF hS
theorem dd{off len cap e:Nat}{K:IntKind}{i:Int}(hU:C.P.underlying T=some (.slice e))(hZ:nJ C.P e n)(hx:ev E x=some (.slice (some ⟨b,off,none⟩) len cap))(hy:ev E y=some (.int K i))(h0:0<=i)(h1:i<len):RV C G L H E (.indexAddr T x y) (ptr b (off+i.toNat*n)):=λd ty pos aC g a W hF hS=>by
 exact(λa W hF _=>by
  simp[execOp,hF.ev hx,hF.ev hy,Instr.indexAt,asIntOf,run_underlying hU,h0,h1,hZ W,TP]:∀(a:Act) (W:World),Fits E a->St G L H W->(execOp a.eval ⟨some d,.indexAddr T x y,ty,pos,aC,g⟩).run C.P W= .ok (.value (ptr b (off+i.toNat*n))) W) a W hF hS
variable {vs:List Value}
theorem abw{fn:Fn}{xs:List Operand}(ha:iV E xs=some vs):RV C G L H E (.makeFunc fn #[] xs.toArray) (.func fn #[] vs.toArray):=λd ty pos aC g a W hF _=>by
 have h2:(xs.toArray).map a.eval=vs.toArray:=by rw[C8,MN hF xs vs ha]
 simp[execOp,Instr.makeFunc,h2]
/-! #### loads -/
theorem nGg{off:Nat}(hA:ey P T false)(hx:a.eval x=ptr b off)(h:W.heap[b]? =some (.cells cs t fr))(hv:cs[off]? =some v):(execOp a.eval ⟨some d,.load T x,ty,pos,aC,g⟩).run P W= .ok (.value v) W:=by
 simp[execOp,hx,Instr.loadAt,Instr.sureAddr,nHe hA h hv]
theorem nDg{off:Nat}(hA:ey P T true)(hZ:nJ P T n)(hx:a.eval x=ptr b off)(h:W.heap[b]? =some (.cells cs t fr))(hn:off+n<=cs.size):(execOp a.eval ⟨some d,.load T x,ty,pos,aC,g⟩).run P W= .ok (.value (.agg (cut cs off n))) W:=by
 simp[execOp,hx,Instr.loadAt,Instr.sureAddr,nSg hA hZ h hn]
variable {w1:World}
theorem av{off:Nat}(hA:ey C.P T false)(hx:ev E x=some (ptr b off))(hm:w1∈L)(hb:w1.heap[b]? =some (.cells cs t fr))(hG:¬G.X b)(hO:aY H b)(hv:cs[off]? =some v):RV C G L H E (.load T x) (v):=λd ty pos aC g a W hF hS=>by
 exact(λ_ _ hF hS=>nGg hA (hF.ev hx) (hS.old hm hb hG hO) hv:∀(a:Act) (W:World),Fits E a->St G L H W->(execOp a.eval ⟨some d,.load T x,ty,pos,aC,g⟩).run C.P W= .ok (.value (v)) W) a W hF hS
theorem dQ{off:Nat}(hA:ey C.P T true)(hZ:nJ C.P T n)(hx:ev E x=some (ptr b off))(hm:w1∈L)(hb:w1.heap[b]? =some (.cells cs t fr))(hG:¬G.X b)(hO:aY H b)(hn:off+n<=cs.size):RV C G L H E (.load T x) (.agg (cut cs off n)):=λd ty pos aC g a W hF hS=>by
 exact(λ_ _ hF hS=>nDg hA hZ (hF.ev hx) (hS.old hm hb hG hO) hn:∀(a:Act) (W:World),Fits E a->St G L H W->(execOp a.eval ⟨some d,.load T x,ty,pos,aC,g⟩).run C.P W= .ok (.value (.agg (cut cs off n))) W) a W hF hS
variable {i:Nat}
theorem bJ{off:Nat}(hi:H[i]? =some (b,.cells cs t fr))(hA:ey C.P T false)(hx:ev E x=some (ptr b off))(hv:cs[off]? =some v):RV C G L H E (.load T x) (v):=λd ty pos aC g a W hF hS=>by
 exact(λ_ _ hF hS=>nGg hA (hF.ev hx) (hS.own _ (cP hi)) hv:∀(a:Act) (W:World),Fits E a->St G L H W->(execOp a.eval ⟨some d,.load T x,ty,pos,aC,g⟩).run C.P W= .ok (.value (v)) W) a W hF hS
theorem eV{off:Nat}(hi:H[i]? =some (b,.cells cs t fr))(hA:ey C.P T true)(hZ:nJ C.P T n)(hx:ev E x=some (ptr b off))(hn:off+n<=cs.size):RV C G L H E (.load T x) (.agg (cut cs off n)):=λd ty pos aC g a W hF hS=>by
 exact(λ_ _ hF hS=>nDg hA hZ (hF.ev hx) (hS.own _ (cP hi)) hn:∀(a:Act) (W:World),Fits E a->St G L H W->(execOp a.eval ⟨some d,.load T x,ty,pos,aC,g⟩).run C.P W= .ok (.value (.agg (cut cs off n))) W) a W hF hS
theorem cd(hA:ey C.P T true)(hZ:nJ C.P T n)(hx:ev E x=some (ptr b 0))(hm:w1∈L)(hb:w1.heap[b]? =some (.cells cs t fr))(hG:¬G.X b)(hO:aY H b)(hn:cs.size=n):RV C G L H E (.load T x) (.agg cs):=by
 have:=dQ (E:=E) (C:=C) (H:=H) hA hZ hx hm hb hG hO aa;rw[nCf cs n hn]at this;exact this
theorem dT(hi:H[i]? =some (b,.cells cs t fr))(hA:ey C.P T true)(hZ:nJ C.P T n)(hx:ev E x=some (ptr b 0))(hn:cs.size=n):RV C G L H E (.load T x) (.agg cs):=by
 have:=eV (E:=E) (C:=C) (H:=H) (L:=L) (G:=G) hi hA hZ hx aa;rw[nCf cs n hn]at this;exact this
theorem jP{off:Nat}(hi:H[i]? =some (b,.cells cs t (0,0)))(hZ:nJ C.P T n)(hw:nl ops E g=some true)(hx:ev E x=some (ptr b off))(hy:ev E y=some v)(hv:v.cells.size=n)(hn:off+n<=cs.size)(h1:aV v.cells.toList=true)(k:OJ C ops Q l E D G L (H.set i (b,.cells (setCells cs off v.cells.toList) t (0,0)))):OJ C ops Q (⟨none,.store T x y,ty,pos,aC,g⟩::l) E D G L H:=
 ML rfl zJ hw (λa W hF hS=>by
  have hb:=hS.own _ (cP hi);obtain⟨W',hr,hk,ew⟩:=nCl (P:=C.P) (off:=off) hZ hv hb hn h1;refine⟨.skip,W',.inl rfl,?_,hS.put hi hk ew⟩;simp[execOp,hF.ev hx,hF.ev hy,Instr.storeAt,Instr.sureAddr,hr]) k
theorem Ck{off:Nat}(hx:ev E x=some (ptr b off))(hi:H[i]? =some (b,.cells cs t fr))(hA:ey C.P T false)(hv:cs[off]? =some v):RV C G L H E (.load T x) v:=bJ hi hA hx hv
theorem px(hx:ev E x=some (ptr b 0))(hi:H[i]? =some (b,.cells cs t fr))(hA:ey C.P T true)(hZ:nJ C.P T n)(hn:cs.size=n):RV C G L H E (.load T x) (.agg cs):=dT hi hA hZ hx hn
theorem tU{off:Nat}(hx:ev E x=some (ptr b off))(hi:H[i]? =some (b,.cells cs t fr))(hA:ey C.P T true)(hZ:nJ C.P T n)(hn:off+n<=cs.size):RV C G L H E (.load T x) (.agg (cut cs off n)):=eV hi hA hZ hx hn
theorem aly{off:Nat}(hx:ev E x=some (ptr b off))(hb:w1.heap[b]? =some (.cells cs t fr))(hA:ey C.P T false)(hm:w1∈L)(hG:¬G.X b)(hO:aY H b)(hv:cs[off]? =some v):RV C G L H E (.load T x) v:=av hA hx hm hb hG hO hv
theorem TR(hx:ev E x=some (ptr b 0))(hb:w1.heap[b]? =some (.cells cs t fr))(hA:ey C.P T true)(hZ:nJ C.P T n)(hm:w1∈L)(hG:¬G.X b)(hO:aY H b)(hn:cs.size=n):RV C G L H E (.load T x) (.agg cs):=cd hA hZ hx hm hb hG hO hn
theorem abx{off:Nat}(hx:ev E x=some (ptr b off))(hb:w1.heap[b]? =some (.cells cs t fr))(hA:ey C.P T true)(hZ:nJ C.P T n)(hm:w1∈L)(hG:¬G.X b)(hO:aY H b)(hn:off+n<=cs.size):RV C G L H E (.load T x) (.agg (cut cs off n)):=dQ hA hZ hx hm hb hG hO hn
end
variable {aC:Array Edge} {ops:Array Oper} {E:Env} {G:Gh} {H:ad} {D:List Deferred} {l:List Oper} {L:List World} {d:Nat} {op:Op} {g:Option (Nat×Bool)} {Q:aZ} {pos:String}
theorem rvA{C:Cx}{ty:Nat}(hnd:MM op=true)(hw:nl ops E g=some true)(hN:Nat.blt d C.N=true)(k:OJ C ops Q l ((d,v)::E) D G L H)(h:RV C G L H E op v:=by exact OY):OJ C ops Q (⟨some d,op,ty,pos,aC,g⟩::l) E D G L H:=rv hnd hw hN h k
theorem ax{C:Cx}{ty:Nat}(v':Value)(k:OJ C ops Q l ((d,v')::E) D G L H)(h:RV C G L H E op v':=by exact RV.re OY TS)(hnd:MM op=true:=by exact rfl)(hw:nl ops E g=some true:=by exact rfl)(hN:Nat.blt d C.N=true:=by exact rfl):OJ C ops Q (⟨some d,op,ty,pos,aC,g⟩::l) E D G L H:=rv hnd hw hN h k
theorem rq{C:Cx}{ty:Nat}(v':Value)(h:RV C G L H E op v)(e:v=v')(k:OJ C ops Q l ((d,v')::E) D G L H)(hnd:MM op=true:=by exact rfl)(hw:nl ops E g=some true:=by exact rfl)(hN:Nat.blt d C.N=true:=by exact rfl):OJ C ops Q (⟨some d,op,ty,pos,aC,g⟩::l) E D G L H:=rv hnd hw hN (RV.re h e) k
theorem rr{C:Cx}{ty:Nat}(v':Value)(h:RV C G L H E op v)(k:OJ C ops Q l ((d,v')::E) D G L H)(e:v=v':=by exact rfl)(hnd:MM op=true:=by exact rfl)(hw:nl ops E g=some true:=by exact rfl)(hN:Nat.blt d C.N=true:=by exact rfl):OJ C ops Q (⟨some d,op,ty,pos,aC,g⟩::l) E D G L H:=rv hnd hw hN (RV.re h e) k
abbrev yv (l:Nat):Value:=.func (.yield l) #[] #[]
def Oo (P:Program) (l:Nat) (vs:Array Value) (W:World) (Φ:Bool->World->Prop):Prop:=
 ∃fn tmps assign body,(Instr.yield l vs).run P W= .ok (.round l fn tmps assign body) W/\
  RoundIn (FW none) 0 P l fn tmps assign body W (λe W'=>∃b,e= .returned (.bool b)/\Φ b W')
variable {assign body:Code} {R:Ending->World->Prop} {w:World}
theorem nro{r:Option Nat}{l:Nat}{f:FuncId}{tmps:Array Value}:RoundIn (FW none) 0 P l f tmps assign body w R->RoundIn (FW r) n P l f tmps assign body w R:=by
 unfold RoundIn;all_goals simp_all[nKk,n9n]
theorem St.yield{G':Gh}{W':World}(h:St G L H W)(hk:aH G.M W W')(hX:G'.X=G.X)(hV:G'.V=G.V)(hR:G'.R W'):St G' L H W' where
 ghost:=hR
 vlt:=λk hv=>lZ (h.vlt k (hV▸hv)) hk.size
 xlt:=λk hv=>lZ (h.xlt k (hX▸hv)) hk.size
 links:=λw hw=>by rw[hX];exact(h.links w hw).trans (hk.mono λk _ hm=>.inl (G.subX k hm))
 own:=λp hp=>by rw[hk.block p.1 (h.lt p hp) (λhm=>h.apart p hp (G.sub _ hm))];exact h.own p hp
 nodup:=h.nodup
 apart:=λp hp=>by rw[hV];exact h.apart p hp
section
variable {C:Cx} {Q:aZ} {E:Env} {D:List Deferred} {G:Gh} {L:List World} {H:ad} {ops:Array Oper} {l:List Oper}
variable {d ty:Nat} {pos:String} {aC:Array Edge} {g:Option (Nat×Bool)} {x:Operand} {xs:List Operand} {vs:List Value} {eo:Array Nat}
end
def eX (V:Nat->Prop) (R:World->Prop):Prop:=
 ∀W W':World,R W->W'.os=W.os->W'.tape=W.tape->W'.output=W.output->W.drawn<=W'.drawn->W.heap.size<=W'.heap.size->(∀k,V k->W'.heap[k]? =W.heap[k]?)->R W'
def nWh (P:Program) (f:Nat) (cap:List Value) {α:Type} (enc:α->List Value) (xs:List α) (MI RO:Nat->Prop) (W:World):Prop:=
 ∀(l:Nat) (M:Nat->Prop) (I:List α->World->Prop) (X:World->Prop),
  (∀k,M k->k<W.heap.size/\¬MI k/\¬RO k)->
  (∀pre,eX (λk=>k<W.heap.size/\¬MI k) (I pre))->eX (λk=>k<W.heap.size/\¬MI k) X->
  (∀pre x W1,(pre++[x]) <+:xs->I pre W1->Oo P l (enc x).toArray W1 (λb W2=>aH M W1 W2/\(if b then I (pre++[x]) W2 else X W2)))->
  I [] W->
  Calls P f (yv l::cap).toArray W (λe W'=>(∃v,e= .returned v)/\aH (λk=>M k\/MI k) W W'/\(I xs W'\/X W'))
/-! #### the consumer -/
/-- the memory of a loop over an iterator: own blocks, the loop's record, and what else was laid -/
abbrev book (Hc:ad) (l:Nat) (rec:Loop) (bx:ad):ad:=Hc++(l,.loop rec)::bx
def rI {α:Type} (G:Gh) (L:List World) (Inv:List α->ad->Prop) (l:Nat) (rec:Loop) (bx:ad) (pre:List α) (W:World):Prop:=
 ∃Hc,Inv pre Hc/\St G L (book Hc l rec bx) W
def rX (G:Gh) (L:List World) (cH:Code->ad->Prop) (l:Nat) (rec:Loop) (bx:ad) (W:World):Prop:=
 ∃c Hc,cH c Hc/\St G L (book Hc l {rec with state:=.done,pending:=some c} bx) W
def nLl {α:Type} (P:Program) (G:Gh) (L:List World) (W1:World) (M:Nat->Prop) (Inv:List α->ad->Prop) (cH:Code->ad->Prop) (l:Nat) (rec:Loop) (bx:ad) (pre:List α):aZ:=
 roundPost P l (λe W'=>∃b,e= .returned (.bool b)/\aH M W1 W'/\(if b then rI G L Inv l rec bx pre W' else rX G L cH l rec bx W'))
theorem I8(W:World)(b:Nat)(o:Obj):aH (· =b) W (W.putObj b o):=
 ⟨rfl,rfl,rfl,ak _,by simp,λ_ _ hk=>World.putObj_heap_other hk⟩
theorem MO(Hc:ad)(l:Nat)(rec:Loop)(bx:ad):(book Hc l rec bx)[Hc.length]? =some (l,.loop rec):=by simp[book]
theorem HP(Hc:ad)(l:Nat)(rec lC:Loop)(bx:ad):(book Hc l rec bx).set Hc.length (l,.loop lC)=book Hc l lC bx:=by simp[book]
theorem St.loop{Hc bx:ad}{l:Nat}{rec:Loop}(h:St G L (book Hc l rec bx) W)(lC:Loop):St G L (book Hc l lC bx) (W.putObj l (.loop lC)):=by
 have hl:l<W.heap.size:=h.lt (l,.loop rec) zJ;have:=h.put (MO Hc l rec bx) (I8 W l (.loop lC)) (World.putObj_heap_same hl);rwa[HP]at this
theorem St.loopAt{Hc bx:ad}{l:Nat}{rec:Loop}(h:St G L (book Hc l rec bx) W):W.heap[l]? =some (.loop rec):=h.own (l,.loop rec) zJ
section
variable {C:Cx} {α:Type} {E:Env} {D:List Deferred} {G:Gh} {L:List World} {Hc bx:ad} {W1:World} {Inv:List α->ad->Prop} {cH:Code->ad->Prop} {l:Nat} {rec lC:Loop} {pre:List α} {M:Nat->Prop}
theorem Nl{Qb:aZ}{K:aZ}(hs:rec.state= .ready)(h:CJ C body Qb E D G L (book Hc l {rec with state:=.busy} bx)):PJ C (Exit.then (λa W=>∃W2,(Instr.beginRound l).run C.P W= .ok () W2/\body.wpIn (FW C.r) 0 C.P Qb a W2) K) .normal E D G L (book Hc l rec bx):=by
 intro a W hN hD hF hS;exact⟨_,run_beginRound hS.loopAt hs,h a _ hN hD hF (hS.loop _)⟩
end
theorem nWg{zs:List (Nat×Value)}:∀{E:Env} {a:Act},Fits E a->(∀p∈zs,p.1<a.tmps.size)->(zs.foldl (λt (p:Nat×Value)=>t.setIfInBounds p.1 p.2) a.tmps).size=a.tmps.size/\Fits (zs.reverse++E) ⟨zs.foldl (λt (p:Nat×Value)=>t.setIfInBounds p.1 p.2) a.tmps,[]⟩:=by
 induction zs with
 |nil=>intro E a h _;exact⟨rfl,λt v hv=>h t v hv⟩
 |cons p zs ih=>
  intro E a h hp;have h1:=h.put p.2 (hp p zJ);obtain⟨i1,i2⟩:=ih (E:=(p.1,p.2)::E) (a:=a.put (some p.1) p.2) h1 (λq hq=>by simp[Act.put];exact hp q (by simp[hq]));refine⟨by simpa[Act.put]using i1,?_⟩;simpa[Act.put]using i2
variable {ps:Array Tmp} {cap:List Value} {f:Nat}
theorem nEo{B:World->Prop}{C:Cx}{g:Operand}{α:Type}{enc:α->List Value}{xs:List α}{MI RO:Nat->Prop}(hg:ev E g=some (.func (.func f) #[] cap.toArray))(az:eg C.P f)(lO:∀W W2,St G L H W->B W->Below W.heap.size W W2->nWh C.P f cap enc xs MI RO W2)(MP:∀W,St G L H W->(∀k,MI k->k<W.heap.size/\ae L k/\k∉H.map (·.1)/\¬G.V k/\¬G.X k))(kR:∀W,St G L H W->(∀k,RO k->k<W.heap.size/\k∉H.map (·.1)/\¬G.X k))(iJ:∀x,(enc x).length=ps.size)(Inv:List α->ad->Prop)(cH:Code->ad->Prop)(h0:Inv [] H)(tV:∀pre Hc,Inv pre Hc->Hc.map (·.1)=H.map (·.1))(rQ:∀c Hc,cH c Hc->Hc.map (·.1)=H.map (·.1))(vJ:∀p∈ps.toList,p<C.N)(TT:∀(a:Act) W fn,St G L H W->∃l mark bx W1 rec,(Instr.enterLoop fn a.tmps ps assign body C.r).run C.P W= .ok (l,mark) W1/\rec.state= .ready/\rec.pending=none/\rec.fn=fn/\rec.tmps=a.tmps/\rec.params=ps/\rec.assign=assign/\rec.body=body/\St G L (book H l rec bx) W1/\Below W.heap.size W W1/\(∀p∈(l,.loop rec)::bx,W.heap.size<=p.1)/\(∀(pre:List α) (x:α) (Hc:ad) (Wy:World),(pre++[x]) <+:xs->Inv pre Hc->(∀a1,a1.tmps.size=C.N->a1.defers=[]->Fits ((ps.toList.zip (enc x)).reverse++E) a1->St G (Wy::L) (book Hc l rec bx) Wy->assign.wpIn (FW (some l)) 0 C.P (Exit.then (λa₁ w₁=>∃w₂,(Instr.beginRound l).run C.P w₁= .ok () w₂/\body.wpIn (FW (some l)) 0 C.P (nLl C.P G L Wy (λk=>G.X k\/k∈(book H l rec bx).map (·.1)) Inv cH l rec bx (pre++[x])) a₁ w₂) (λ_ _ _=>False)) a1 Wy))/\(∀Ag Hc,Inv xs Hc->PJ C Q .normal E (mark++D) G L (book Hc l Ag bx))/\(∀Ag c Hc,cH c Hc->CJ C c Q E (mark++D) G L (book Hc l Ag bx))):∀a W,a.tmps.size=C.N->a.defers=D->Fits E a->St G L H W->B W->(Code.rangeFunc g ps assign body).wpIn (FW C.r) 0 C.P Q a W:=by
 intro a W hN hD hF hS hBW;refine wpIn_rangeFunc ?_;intro fn _;obtain⟨l,mark,bx,W1,rec,he,oe,vn,aK,hrt,TU,hra,hrb,lG,hB1,aaa,kM,abz,abA⟩:=TT a W fn hS;refine⟨l,mark,W1,{target:=.fn (.func f) cap.toArray,args:=#[yv l]},W1,f,(yv l::cap).toArray,W1,he,?_,λ_ _=>trivial,?_,by simp,?_⟩
 ·simp[resolve,hF.ev hg,Deferred.ofValue];rfl
 ·simp[invoke,az _ W1]
 refine I7.2 ?_;have sY:∀k,MI k->k<W.heap.size/\ae L k/\k∉H.map (·.1)/\¬G.V k/\¬G.X k:=MP W hS;have hbk:∀k,k∈(book H l rec bx).map (·.1)->k<W1.heap.size:=λk hk=>by
  obtain⟨p,hp,rfl⟩:=bY.1 hk;exact lG.lt p hp
 have ot:∀k,k∈(book H l rec bx).map (·.1)->¬MI k:=λk hk hm=>by
  obtain⟨hlt,_,hH,_,_⟩:=sY k hm;exact zgh
 have Oy:∀k,k∈(book H l rec bx).map (·.1)->¬RO k:=λk hk hm=>by
  obtain⟨hlt,hH,_⟩:=kR W hS k hm;exact zgh
 have aQ:∀{Hc:ad} {r2:Loop},Hc.map (·.1)=H.map (·.1)->(book Hc l r2 bx).map (·.1)=(book H l rec bx).map (·.1):=by
  intro Hc r2 h;simp[book,h]
 have stab:∀{Hb:ad},Hb.map (·.1)=(book H l rec bx).map (·.1)->eX (λk=>k<W1.heap.size/\¬MI k) (St G L Hb):=by
  intro Hb hk A B hA ho ht xw Cl hs ie;have HQ:∀w∈L,∀k,k<w.heap.size->k<W1.heap.size/\¬MI k:=λw hw k hk=>by
   refine⟨lZ hk (lG.links w hw).size,λhm=>?_⟩;have:=(sY k hm).2.1.mem w hw;omega
  refine⟨G.stab A B hA.ghost ho ht xw Cl hs (λk hv=>ie k ⟨lG.vlt k hv,λhm=>(sY k hm).2.2.2.1 hv⟩),λk hv=>lZ (hA.vlt k hv) hs,λk hv=>lZ (hA.xlt k hv) hs,λw hw=>?_,λp hp=>?_,hA.nodup,hA.apart⟩
  ·have h1:=hA.links w hw;exact⟨ho.trans h1.os,ht.trans h1.tape,xw.trans h1.output,dG h1.drawn Cl,dG h1.size hs,λk hk hx=>(ie k (HQ w hw k hk)).trans (h1.block k hk hx)⟩
  have hm:p.1∈(book H l rec bx).map (·.1):=by rw[<-hk];exact bY.2 ⟨p,hp,rfl⟩
  rw[ie p.1 ⟨hbk _ hm,ot _ hm⟩];exact hA.own p hp
 have Bh:∀x,(ps.zip (enc x).toArray).foldl (λtmps (p:Tmp×Value)=>match p with|(t,a)=>tmps.setIfInBounds t a) a.tmps=(ps.toList.zip (enc x)).foldl (λt (p:Nat×Value)=>t.setIfInBounds p.1 p.2) a.tmps:=by
  intro x;rw[<-Array.foldl_toList,Array.toList_zip]
 have HR:=lO W W1 hS hBW hB1 l (λk=>G.X k\/k∈(book H l rec bx).map (·.1)) (rI G L Inv l rec bx) (rX G L cH l rec bx)
  (λk hk=>hk.elim (λhm=>⟨lG.xlt k hm,λh=>(sY k h).2.2.2.2 hm,λh=>(kR W hS k h).2.2 hm⟩) (λhk=>⟨hbk k hk,ot k hk,λh=>Oy k hk h⟩))
  (λpre A B hA ho ht xw Cl hs ie=>by
   obtain⟨Hc,hi,dX⟩:=hA;exact⟨Hc,hi,stab (aQ (tV pre Hc hi)) A B dX ho ht xw Cl hs ie⟩)
  (λA B hA ho ht xw Cl hs ie=>by
   obtain⟨c,Hc,hi,dX⟩:=hA;exact⟨c,Hc,hi,stab (aQ (rQ c Hc hi)) A B dX ho ht xw Cl hs ie⟩)
  (λpre x Wy dP hI=>by
   obtain⟨Hc,hi,dX⟩:=hI;have hy:=run_yield (P:=C.P) (args:=(enc x).toArray) dX.loopAt (by simp[iJ,TU]);refine⟨_,_,_,_,hy,roundIn_of_wpIn (F:=FW none) trivial ?_⟩;rw[hra,hrb];refine kM pre x Hc Wy dP hi ⟨_,[]⟩ ?_ rfl ?_ dX.snap
   ·rw[hrt,TU,Bh x];have:=(nWg (zs:=ps.toList.zip (enc x)) hF (λp hp=>by rw[hN];exact vJ p.1 (List.of_mem_zip hp).1)).1;rw[hN]at this;exact this
   rw[hrt,TU,Bh x];exact(nWg (zs:=ps.toList.zip (enc x)) hF (λp hp=>by rw[hN];exact vJ p.1 (List.of_mem_zip hp).1)).2)
  ⟨H,h0,lG⟩
 refine HR.mono ?_;rintro e W2 ⟨⟨v,rfl⟩,abB,hI|hX⟩
 ·obtain⟨Hc,hi,dX⟩:=hI;refine⟨rec.pending,_,run_endLoop dX.loopAt (by rw[oe];simp),?_⟩;rw[vn];exact abz _ Hc hi _ _ (by simpa using hN) (by simp[hD]) (λt v hv=>hF t v hv) (dX.loop _)
 obtain⟨c,Hc,hi,dX⟩:=hX;refine⟨some c,_,run_endLoop dX.loopAt zJ,?_⟩;exact abA _ c Hc hi _ _ (by simpa using hN) (by simp[hD]) (λt v hv=>hF t v hv) (dX.loop _)
theorem nX(H:ad):kV H↔(H.map (·.1)).Nodup:=by
 rw[List.Nodup,List.pairwise_iff_getElem];constructor
 ·intro h i j hi hj hlt e;simp only[eG]at hi hj;have:=h i j H[i] H[j] (by simp[hi]) (by simp[hj]) (by simpa using e);omega
 intro h i j p q hi hj e;obtain⟨pT,Xc⟩:=gX.1 hi;obtain⟨Uh,hj2⟩:=gX.1 hj;rcases Nat.lt_trichotomy i j with hlt|heq|hlt
 ·have hne:=h i j (by simpa using pT) (by simpa using Uh) hlt;rw[adq,adq,Xc,hj2]at hne;exact absurd e hne
 ·exact heq
 have hne:=h j i (by simpa using Uh) (by simpa using pT) hlt;rw[adq,adq,Xc,hj2]at hne;exact absurd e.symm hne
theorem St.perm{H':ad}(h:St G L H W)(hp:H.Perm H'):St G L H' W where
 ghost:=h.ghost
 vlt:=h.vlt
 xlt:=h.xlt
 links:=λw hw=>(h.links w hw).mono λk _ hk=>hk.imp id (λhk=>(hp.map (·.1)).mem_iff.1 hk)
 own:=λp hm=>h.own p (hp.mem_iff.2 hm)
 nodup:=by rw[nX];exact(hp.map (·.1)).nodup_iff.1 ((nX H).1 h.nodup)
 apart:=λp hm=>h.apart p (hp.mem_iff.2 hm)
abbrev kN (Dk:Nat):Deferred:={target:=.collected Dk,args:=#[]}
abbrev fq (Dk:Nat):ad:=[(Dk,.deferred (some []))]
abbrev nym (C:Cx) (l:Nat) (body:Code) (Qb:aZ):aZ:=
 Exit.then (λa W=>∃W2,(Instr.beginRound l).run C.P W= .ok () W2/\body.wpIn (FW C.r) 0 C.P Qb a W2) (λ_ _ _=>False)
theorem TV{B:World->Prop}{N:Nat}{g:Operand}{α:Type}{enc:α->List Value}{xs:List α}{MI RO:Nat->Prop}(hg:ev E g=some (.func (.func f) #[] cap.toArray))(az:eg P f)(lO:∀W W2,St G L H W->B W->Below W.heap.size W W2->nWh P f cap enc xs MI RO W2)(MP:∀W,St G L H W->(∀k,MI k->k<W.heap.size/\ae L k/\k∉H.map (·.1)/\¬G.V k/\¬G.X k))(kR:∀W,St G L H W->(∀k,RO k->k<W.heap.size/\k∉H.map (·.1)/\¬G.X k))(iJ:∀x,(enc x).length=ps.size)(Inv:List α->ad->Prop)(cH:Code->ad->Prop)(h0:Inv [] H)(tV:∀pre Hc,Inv pre Hc->Hc.map (·.1)=H.map (·.1))(rQ:∀c Hc,cH c Hc->Hc.map (·.1)=H.map (·.1))(vJ:∀p∈ps.toList,p<N)(round:∀(pre:List α) (x:α) (Hc:ad) (l Dk:Nat) (rec:Loop) (Wy:World),rec.state= .ready->rec.pending=none->(pre++[x]) <+:xs->Inv pre Hc->ae L Dk->l=Dk+1->l<Wy.heap.size->ae L Wy.heap.size->CJ ⟨P,some l,N⟩ assign (nym ⟨P,some l,N⟩ l body (nLl P G L Wy (λk=>G.X k\/k∈(book Hc l rec (fq Dk)).map (·.1)) Inv cH l rec (fq Dk) (pre++[x]))) ((ps.toList.zip (enc x)).reverse++E) [] G (Wy::L) (book Hc l rec (fq Dk)))(done:∀l Dk rec Hc,ae L Dk->l=Dk+1->Inv xs Hc->PJ ⟨P,none,N⟩ Q .normal E (kN Dk::D) G L (book Hc l rec (fq Dk)))(stop:∀l Dk rec c Hc,ae L Dk->l=Dk+1->cH c Hc->CJ ⟨P,none,N⟩ c Q E (kN Dk::D) G L (book Hc l rec (fq Dk))):∀a W,a.tmps.size=N->a.defers=D->Fits E a->St G L H W->B W->(Code.rangeFunc g ps assign body).wpIn (FW none) 0 P Q a W:=by
 refine nEo (C:=⟨P,none,N⟩) hg az lO MP kR iJ Inv cH h0 tV rQ vJ ?_;intro a W fn hS;have lG:=((hS.alloc (.deferred (some []))).alloc (.loop {state:=.ready,pending:=none,fn,tmps:=a.tmps,params:=ps,assign,body,defers:=W.heap.size}));have kP:(W.alloc (.deferred (some []))).heap.size=W.heap.size+1:=by simp
 rw[kP]at lG;have hB1:Below W.heap.size W ((W.alloc (.deferred (some []))).alloc (.loop {state:=.ready,pending:=none,fn,tmps:=a.tmps,params:=ps,assign,body,defers:=W.heap.size})):=
  ((Below.refl _ _).alloc (ak _) _).alloc zJ _
 refine⟨W.heap.size+1,[kN W.heap.size],fq W.heap.size,_,{state:=.ready,pending:=none,fn,tmps:=a.tmps,params:=ps,assign,body,defers:=W.heap.size},run_enterLoop_outer _ _ _ _ _,rfl,rfl,rfl,rfl,rfl,rfl,rfl,lG.perm ?_,hB1,?_,?_,λAg Hc hi=>done _ _ Ag Hc hS.sizes rfl hi,λAg c Hc hi=>stop _ _ Ag c Hc hS.sizes rfl hi⟩
 ·exact(List.perm_append_comm (l₁:=[_,_]) (l₂:=H))
 ·intro p hp;simp only[bX,dy,or_false]at hp;rcases hp with rfl|rfl<;>simp
 intro pre x Hc Wy dP hi a1 hN1 xX zj hSt;have hm:∀k,k∈(book Hc (W.heap.size+1) {state:=.ready,pending:=none,fn,tmps:=a.tmps,params:=ps,assign,body,defers:=W.heap.size} (fq W.heap.size)).map (·.1)↔k∈(book H (W.heap.size+1) {state:=.ready,pending:=none,fn,tmps:=a.tmps,params:=ps,assign,body,defers:=W.heap.size} (fq W.heap.size)).map (·.1):=by
  intro k;simp only[book,gb,dt,tV pre Hc hi]
 have hr:=round pre x Hc (W.heap.size+1) W.heap.size {state:=.ready,pending:=none,fn,tmps:=a.tmps,params:=ps,assign,body,defers:=W.heap.size} Wy rfl rfl dP hi hS.sizes rfl (aT.1 hSt.loopAt).1 (hSt.lessL (L':=L) λw hw=>.tail _ hw).sizes;rw[show(λk=>G.X k\/k∈(book Hc (W.heap.size+1) {state:=.ready,pending:=none,fn,tmps:=a.tmps,params:=ps,assign,body,defers:=W.heap.size} (fq W.heap.size)).map (·.1))=
  (λk=>G.X k\/k∈(book H (W.heap.size+1) {state:=.ready,pending:=none,fn,tmps:=a.tmps,params:=ps,assign,body,defers:=W.heap.size} (fq W.heap.size)).map (·.1))from funext λk=>propext (or_congr Iff.rfl (hm k))]at hr
 exact hr a1 Wy hN1 xX zj hSt
theorem CJ.range{N:Nat}{g:Operand}{α:Type}{enc:α->List Value}{xs:List α}{MI RO:Nat->Prop}(hg:ev E g=some (.func (.func f) #[] cap.toArray))(az:eg P f)(lO:∀W W2,St G L H W->Below W.heap.size W W2->nWh P f cap enc xs MI RO W2)(MP:∀W,St G L H W->(∀k,MI k->k<W.heap.size/\ae L k/\k∉H.map (·.1)/\¬G.V k/\¬G.X k))(kR:∀W,St G L H W->(∀k,RO k->k<W.heap.size/\k∉H.map (·.1)/\¬G.X k))(iJ:∀x,(enc x).length=ps.size)(Inv:List α->ad->Prop)(cH:Code->ad->Prop)(h0:Inv [] H)(tV:∀pre Hc,Inv pre Hc->Hc.map (·.1)=H.map (·.1))(rQ:∀c Hc,cH c Hc->Hc.map (·.1)=H.map (·.1))(vJ:∀p∈ps.toList,p<N)(round:∀(pre:List α) (x:α) (Hc:ad) (l Dk:Nat) (rec:Loop) (Wy:World),rec.state= .ready->rec.pending=none->(pre++[x]) <+:xs->Inv pre Hc->ae L Dk->l=Dk+1->l<Wy.heap.size->ae L Wy.heap.size->CJ ⟨P,some l,N⟩ assign (nym ⟨P,some l,N⟩ l body (nLl P G L Wy (λk=>G.X k\/k∈(book Hc l rec (fq Dk)).map (·.1)) Inv cH l rec (fq Dk) (pre++[x]))) ((ps.toList.zip (enc x)).reverse++E) [] G (Wy::L) (book Hc l rec (fq Dk)))(done:∀l Dk rec Hc,ae L Dk->l=Dk+1->Inv xs Hc->PJ ⟨P,none,N⟩ Q .normal E (kN Dk::D) G L (book Hc l rec (fq Dk)))(stop:∀l Dk rec c Hc,ae L Dk->l=Dk+1->cH c Hc->CJ ⟨P,none,N⟩ c Q E (kN Dk::D) G L (book Hc l rec (fq Dk))):CJ ⟨P,none,N⟩ (.rangeFunc g ps assign body) Q E D G L H:=by
 exact λa W hN hD hF hS=>TV (B:=λ_=>True) hg az (λW W2 h _ hb=>lO W W2 h hb) MP kR iJ Inv cH h0 tV rQ vJ round done stop a W hN hD hF hS True.intro
variable {c:Code} {fn:Func} {vs:List Value}
/-! #### functions that leave with marks -/
theorem Pj{N:Nat}(G:Gh)(H:ad)(hf:P.funcs[f]? =some fn)(hb:fn.body=some c)(hN:fn.ntmps=N)(hl:Nat.ble vs.length N=true)(hS:St G [w] H w)(h:CJ ⟨P,none,N⟩ c (bodyPostM (FW none) 0 P fn R) (zy 0 vs) [] G [w] H):Calls P f vs.toArray w R:=by
 exact zdh
section
variable {C:Cx} {fn:Func} {R:Ending->World->Prop} {E:Env} {G:Gh} {L:List World} {H:ad}
theorem nLg{tmps:Array Value}{Ds:List Nat}(hD:D=Ds.map kN):∀{H:ad} {W:World},St G L H W->(∀k∈Ds,(k,.deferred (some []))∈H)->Ds.Nodup->(∀W' H',St G L H' W'->(∀p∈H,(∀k∈Ds,p.1≠k)->p∈H')->H'.map (·.1)=H.map (·.1)->∃v,(results fn tmps).run P W'= .ok v W'/\R (.returned v) W')->LeavesInM (FW none) 0 P fn tmps R D .returning W:=by
 subst hD;induction Ds with
 |nil=>
  intro H W hS _ _ h;exact h W H hS (λp hp _=>hp) rfl
 |cons k Ds ih=>
  intro H W hS jU hnd h;obtain⟨hk,hnd⟩:=List.nodup_cons.1 hnd;have Ce:=jU k zJ;obtain⟨i,hi⟩:=kA.1 Ce;have fj:W.heap[k]? =some (.deferred (some [])):=hS.own _ Ce;have hlt:k<W.heap.size:=(aT.1 fj).1;have gF:=hS.put hi (I8 W k (.deferred none)) (World.putObj_heap_same hlt);have lk:i<H.length:=(gX.1 hi).1;have OZ:∀p∈H,p.1≠k->p∈H.set i (k,.deferred none):=by
   intro p hp hne;obtain⟨j,hj⟩:=kA.1 hp;refine kA.2 ⟨j,?_⟩;rw[TJ]
   ·exact hj
   rintro rfl;rw[hi]at hj;cases hj;exact hne rfl
  have aQ:(H.set i (k,.deferred none)).map (·.1)=H.map (·.1):=by
   rw[List.map_set];apply Cy;intro j;by_cases e:i=j
   ·subst e;rw[aXp (by simpa using lk)];simp[hi]
   rw[TJ e]
  refine⟨by simp,.inl ⟨k,_,rfl,run_takeDeferred fj,?_⟩⟩;refine ih gF (λk' MQ=>OZ _ (jU k' (by simp[MQ])) (λe=>hk (e▸MQ))) hnd ?_;intro W' H' alG hH' abD;refine h W' H' alG (λp hp hne=>hH' p (OZ p hp (hne k zJ)) (λk' MQ=>hne k' (by simp[MQ]))) (abD.trans aQ)
theorem BI{Dk:Nat}{e:Exit}(he:e= .ret\/e= .normal)(hm:(Dk,.deferred (some []))∈H)(h:∀a W H',Fits E a->St G L H' W->(∀p∈H,p.1≠Dk->p∈H')->H'.map (·.1)=H.map (·.1)->∃v,(results fn a.tmps).run C.P W= .ok v W/\R (.returned v) W):PJ C (bodyPostM (FW none) 0 C.P fn R) e E [kN Dk] G L H:=by
 intro a W hN hD hF hS;have key:LeavesInM (FW none) 0 C.P fn a.tmps R a.defers .returning W:=
  nLg (Ds:=[Dk]) (by rw[hD];rfl) hS (λk hk=>by simp at hk;subst hk;exact hm) zJ (λW' H' gF hH aQ=>
   h a W' H' hF gF (λp hp hne=>hH p hp (λk hk=>by simp at hk;subst hk;exact hne)) aQ)
 exact zHh
theorem VV{Dk:Nat}{e:Exit}(he:e= .ret\/e= .normal)(hr:fn.results=#[.tmp t])(hv:look E t=some v)(hm:(Dk,.deferred (some []))∈H)(h:∀W H',St G L H' W->H'.map (·.1)=H.map (·.1)->R (.returned v) W):PJ C (bodyPostM (FW none) 0 C.P fn R) e E [kN Dk] G L H:=
 BI he hm λa W H' hF hS _ aQ=>⟨v,by rw[results_tmp hr];exact congrArg (λu=>Result.ok u W) (hF t v hv),h W H' hS aQ⟩
end
end Px
