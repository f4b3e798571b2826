/- Memory, operations, iterators, slices, maps. No conditions. -/
import Derived.Test.YtodpaegknpbomaaGreatDoorZa
import Derived.TacticsIn
import Derived.DefersIn
import Derived.RangeFuncIn
import Derived.Below
import Derived.WalkKit
import Derived.RangeFuncRecord
import Derived.OrdersIn
import Derived.Deep.AppendSrc
import Derived.Laws.MakeOwn
import Derived.Laws.IdiomStrings
import Derived.Laws.BytesArg
set_option linter.unusedSimpArgs false
set_option linter.unusedVariables false
set_option linter.unusedSectionVars false
set_option maxRecDepth 20000
set_option maxHeartbeats 8000000
namespace Px
open Go Go.RowKit
/-! ### short forms of common terms -/
abbrev ab (n:Int):Value:=.int .i64 n
abbrev bZ:Value:=.bool true
abbrev bG:Value:=.bool false
abbrev C1:Value:=.int .u8 0
abbrev ak:Value:=.slice none 0 0
abbrev Vp:Value:=.string ⟨#[]⟩
abbrev ao (b:Nat):Option Addr:=some ⟨b,0,none⟩
abbrev dQ (v:Value):Array Value:=#[.int .i64 3,.int .i64 0,.string ⟨#[]⟩,v]
abbrev oC (cs:Array Value) (t:Nat):Obj:=.cells cs t (0,0)
abbrev lJ (f:Nat->Int) (l:List Value):List Value:=.int .u8 (f 0):: .int .u8 (f 1):: .int .u8 (f 2):: .int .u8 (f 3):: .int .u8 (f 4):: .int .u8 (f 5):: .int .u8 (f 6):: .int .u8 (f 7):: .int .u8 (f 8):: .int .u8 (f 9):: .int .u8 (f 10):: .int .u8 (f 11):: .int .u8 (f 12):: .int .u8 (f 13):: .int .u8 (f 14):: .int .u8 (f 15):: .int .u8 (f 16):: .int .u8 (f 17):: .int .u8 (f 18):: .int .u8 (f 19):: .int .u8 (f 20):: .int .u8 (f 21):: .int .u8 (f 22):: .int .u8 (f 23):: .int .u8 (f 24):: .int .u8 (f 25):: .int .u8 (f 26):: .int .u8 (f 27):: .int .u8 (f 28):: .int .u8 (f 29):: .int .u8 (f 30):: .int .u8 (f 31)::l
abbrev um (l:List Value):List Value:=.int .u8 0:: .int .u8 0:: .int .u8 0:: .int .u8 0:: .int .u8 0:: .int .u8 0:: .int .u8 0:: .int .u8 0:: .int .u8 0:: .int .u8 0:: .int .u8 0:: .int .u8 0:: .int .u8 0:: .int .u8 0:: .int .u8 0:: .int .u8 0:: .int .u8 0:: .int .u8 0:: .int .u8 0:: .int .u8 0:: .int .u8 0:: .int .u8 0:: .int .u8 0:: .int .u8 0:: .int .u8 0:: .int .u8 0:: .int .u8 0:: .int .u8 0:: .int .u8 0:: .int .u8 0:: .int .u8 0:: .int .u8 0::l
/-! ### the environment: what is known of the temporaries -/
abbrev Env:=List (Nat×Value)
def look:Env->Nat->Option Value
 | [],_=>none
 |(k,v)::E,t=>match Nat.beq k t with|true=>some v|false=>look E t
variable {a:Act} {I:Array Bool->Act->World->Prop} {aC:Array Edge} {ops:Array Oper} {cs:Array Value} {s:ByteArray} {R:Ending->World->Prop} {fn:Func} {K K':IntKind} {ps:List (Nat×Operand)} {D:List Deferred} {ks:List Nat} {xs:List Operand} {rs:List ResultVar} {ys zs:List UInt8} {news sp vs:List Value} {L L':List World} {b d e f i m tx ty:Nat} {fr:Nat×Nat} {o:Obj} {op:Op} {g:Option (Nat×Bool)} {hi:Option Operand} {pos:String} {sv z:Value} {W w1:World}
theorem UJ{a:Nat}(e:¬a=b):Nat.beq a b=false:=by
 cases h:Nat.beq a b with
 |false=>rfl
 |true=>exact absurd (Nat.eq_of_beq_eq_true h) e
theorem NI(a:Nat):Nat.beq a a=true:=by induction a<;>simp_all[Nat.beq]
def Fits (E:Env) (a:Act):Prop:=∀t v,look E t=some v->a.eval (.tmp t)=v
def ev (E:Env):Operand->Option Value
 | .tmp t=>look E t
 | .const v=>some v
 | .global g=>some ((⟨#[],[]⟩:Act).eval (.global g))
 | .func f=>some ((⟨#[],[]⟩:Act).eval (.func f))
variable {E:Env}
theorem Fits.ev(h:Fits E a){x:Operand}{v:Value}(hx:ev E x=some v):a.eval x=v:=by
 cases x with
 |tmp t=>exact h t v hx
 |const u=>simp[Px.ev]at hx;subst hx;rfl
 |global g=>simp only[Px.ev,wK]at hx;rw[<-hx];rfl
 |func f=>simp only[Px.ev,wK]at hx;rw[<-hx];rfl
theorem Fits.put(h:Fits E a)(v:Value)(hd:d<a.tmps.size):Fits ((d,v)::E) (a.put (some d) v):=by
 intro t u ht;simp only[look]at ht;by_cases e:d=t
 ·subst e;simp only[NI,wK]at ht;subst ht;simp[Act.eval,Act.put,hd]
 have:Nat.beq d t=false:=UJ e;simp only[this]at ht;have:=h t u ht;simp only[Act.eval,Act.put]at this ⊢;rw[<-this];simp[Array.getElem?_setIfInBounds_ne e]
def Sub:Env->Env->Prop
 | [],_=>True
 |(t,v)::E',E=>look E t=some v/\Sub E' E
variable {E':Env}
theorem Sub.fits(hs:Sub E' E)(h:Fits E a):Fits E' a:=by
 induction E' with
 |nil=>intro t v hv;simp[look]at hv
 |cons p E' ih=>
  obtain⟨k,u⟩:=p;intro t v hv;simp only[look]at hv;by_cases e:k=t
  ·subst e;simp only[NI,wK]at hv;subst hv;exact h _ _ hs.1
  have:Nat.beq k t=false:=UJ e;simp only[this]at hv;exact ih hs.2 t v hv
def nr (ops:Array Oper) (E:Env) (g:Option (Nat×Bool)):Option Bool:=
 match g with
 |none=>some true
 |some (j,b)=>
  match(ops[j]?).bind (·.dst)with
  |none=>some false
  |some d=>
   match look E d with
   |some (.bool true)=>some b
   |some (.bool false)=>some (!b)
   |some (.tuple _)=>some false
   |_=>none
theorem BB{o:Oper}{c:Bool}(h:Fits E a)(hw:nr ops E o.guard=some c):Region.wanted o (yielded ops a.tmps)=c:=by
 unfold nr at hw;unfold Region.wanted;cases hg:o.guard with
 |none=>simp[hg]at hw;subst hw;rfl
 |some p=>
  obtain⟨j,b⟩:=p;simp only[hg]at hw ⊢;cases hd:(ops[j]?).bind (·.dst)with
  |none=>simp[hd]at hw;subst hw;simp[yielded,hd]
  |some d=>
   simp only[hd]at hw;cases hl:look E d with
   |none=>simp[hl]at hw
   |some v=>
    have hv:=h d v hl;simp only[hl]at hw;have key:∀u,v=u->yielded ops a.tmps j=(match u with| .bool b=>some b|_=>none):=by
     intro u hu;simp only[yielded,hd,Option.bind_some];simp only[Act.eval]at hv;cases ht:a.tmps[d]? with
     |none=>
      have:v=undef:=by rw[<-hv,Array.getD_eq_getD_getElem?,ht];rfl
      subst hu;rw[this];rfl
     |some u'=>
      have:v=u':=by rw[<-hv,Array.getD_eq_getD_getElem?,ht];rfl
      subst hu;subst this;cases v<;>rfl
    split at hw
    ·simp at hw;subst hw;rename_i h1;rw[key _ (by injection h1)];cases b<;>rfl
    ·simp at hw;subst hw;rename_i h1;rw[key _ (by injection h1)];cases c<;>rfl
    ·simp at hw;subst hw;rename_i h1;rw[key _ (by injection h1)];rfl
    simp at hw
/-! ### the memory: ghost (another party's blocks), snapshots, own blocks -/
structure Gh where
 M:Nat->Prop
 V:Nat->Prop
 R:World->Prop
 X:Nat->Prop
 sub:∀k,M k->V k
 subX:∀k,M k->X k
 stab:∀W W':World,R W->W'.os=W.os->W'.tape=W.tape->W'.output=W.output->W.drawn<=W'.drawn->W.heap.size<=W'.heap.size->(∀k,V k->W'.heap[k]? =W.heap[k]?)->R W'
def Gh.no:Gh:=⟨λ_=>False,λ_=>False,λ_=>True,λ_=>False,λ_ h=>h,λ_ h=>h,λ_ _ _ _ _ _ _ _ _=>trivial⟩
def Gh.lent (Z:Nat->Prop):Gh:=⟨λ_=>False,λ_=>False,λ_=>True,Z,λ_ h=>h,λ_ h=>h.elim,λ_ _ _ _ _ _ _ _ _=>trivial⟩
abbrev ad:=List (Nat×Obj)
structure Below (B:Nat) (w w':World):Prop where
 os:w'.os=w.os
 tape:w'.tape=w.tape
 output:w'.output=w.output
 drawn:w.drawn<=w'.drawn
 size:w.heap.size<=w'.heap.size
 block:∀k,k<B->w'.heap[k]? =w.heap[k]?
theorem Below.refl(B:Nat)(w:World):Below B w w:=⟨rfl,rfl,rfl,aj _,aj _,λ_ _=>rfl⟩
theorem Below.trans{B:Nat}{a b c:World}(h:Below B a b)(k:Below B b c):Below B a c:=
 ⟨k.os.trans h.os,k.tape.trans h.tape,k.output.trans h.output,eE h.drawn k.drawn,eE h.size k.size,λi hi=>(k.block i hi).trans (h.block i hi)⟩
theorem Below.mono{B B':Nat}{w w':World}(h:Below B w w')(hB:B'<=B):Below B' w w':=⟨h.os,h.tape,h.output,h.drawn,h.size,λk hk=>h.block k (qH hk hB)⟩
theorem Below.alloc{B:Nat}{a w:World}(h:Below B a w)(hB:B<=w.heap.size)(o:Obj):Below B a (w.alloc o):=by
 refine⟨h.os,h.tape,h.output,h.drawn,eE h.size zJ,λk hk=>?_⟩;rw[<-h.block k hk];show(w.heap.push o)[k]? =w.heap[k]?;all_goals grind
structure aQ (X:Nat->Prop) (w W:World):Prop where
 os:W.os=w.os
 tape:W.tape=w.tape
 output:W.output=w.output
 drawn:w.drawn<=W.drawn
 size:w.heap.size<=W.heap.size
 block:∀k,k<w.heap.size->¬X k->W.heap[k]? =w.heap[k]?
theorem aQ.refl(X:Nat->Prop)(w:World):aQ X w w:=⟨rfl,rfl,rfl,aj _,aj _,λ_ _ _=>rfl⟩
theorem aQ.trans{X:Nat->Prop}{a b c:World}(h:aQ X a b)(k:aQ X b c):aQ X a c:=
 ⟨k.os.trans h.os,k.tape.trans h.tape,k.output.trans h.output,eE h.drawn k.drawn,eE h.size k.size,
  λi hi hx=>(k.block i (qH hi h.size) hx).trans (h.block i hi hx)⟩
theorem aQ.mono{X Y:Nat->Prop}{a b:World}(h:aQ X a b)(hxy:∀k,k<a.heap.size->X k->Y k):aQ Y a b:=
 ⟨h.os,h.tape,h.output,h.drawn,h.size,λi hi hy=>h.block i hi (λhx=>hy (hxy i hi hx))⟩
theorem aQ.of_below{X:Nat->Prop}{a b:World}(h:Below a.heap.size a b):aQ X a b:=
 ⟨h.os,h.tape,h.output,h.drawn,h.size,λi hi _=>h.block i hi⟩
theorem aQ.below{X:Nat->Prop}{a b:World}(h:aQ X a b)(hx:∀k,k<a.heap.size->¬X k):Below a.heap.size a b:=
 ⟨h.os,h.tape,h.output,h.drawn,h.size,λi hi=>h.block i hi (hx i hi)⟩
def lO (H:ad):Prop:=∀(i j:Nat) (p q:Nat×Obj),H[i]? =some p->H[j]? =some q->p.1=q.1->i=j
structure St (G:Gh) (L:List World) (H:ad) (W:World):Prop where
 ghost:G.R W
 vlt:∀k,G.V k->k<W.heap.size
 xlt:∀k,G.X k->k<W.heap.size
 links:∀w∈L,aQ (λk=>G.X k\/k∈H.map (·.1)) w W
 own:∀p∈H,W.heap[p.1]? =some p.2
 nodup:lO H
 apart:∀p∈H,¬G.V p.1
def ah:List World->Nat->Prop
 | [],_=>True
 |w::L,b=>w.heap.size<=b/\ah L b
theorem ah.of_mem(h:∀w∈L,w.heap.size<=b):ah L b:=by
 induction L with
 |nil=>trivial
 |cons w L ih=>exact⟨h w zJ,ih λw' hw=>h w' (by simp[hw])⟩
theorem ah.mem(h:ah L b):∀w∈L,w.heap.size<=b:=by
 induction L with
 |nil=>intro w hw;simp at hw
 |cons w L ih=>
  intro w' hw;simp only[cd]at hw;rcases hw with rfl|hw
  ·exact h.1
  exact ih h.2 w' hw
def bM:ad->Nat->Prop
 | [],_=>True
 |p::H,b=>p.1≠b/\bM H b
variable {H:ad}
theorem bM.mem(h:bM H b):b∉H.map (·.1):=by
 induction H with
 |nil=>simp
 |cons p H ih=>
  simp only[dL,cd,not_or];exact⟨λe=>h.1 e.symm,ih h.2⟩
theorem bM.of_mem(h:b∉H.map (·.1)):bM H b:=by
 induction H with
 |nil=>trivial
 |cons p H ih=>
  simp only[dL,cd,not_or]at h;exact⟨λe=>h.1 e.symm,ih h.2⟩
def I9:ad->Nat->Prop
 | [],_=>True
 |p::H,b=>p.1<b/\I9 H b
section
variable {G:Gh} {L:List World} {H:ad} {W W':World}
theorem St.lt(h:St G L H W):∀p∈H,p.1<W.heap.size:=λp hp=>(bA.1 (h.own p hp)).1
theorem St.under(h:St G L H W):I9 H W.heap.size:=by
 have:=h.lt;clear h;induction H with
 |nil=>trivial
 |cons p H ih=>exact⟨this p zJ,ih λq hq=>this q (by simp[hq])⟩
theorem St.sizes(h:St G L H W):ah L W.heap.size:=ah.of_mem λw hw=>(h.links w hw).size
theorem St.step(h:St G L H W)(hb:Below W.heap.size W W'):St G L H W' where
 ghost:=G.stab W W' h.ghost hb.os hb.tape hb.output hb.drawn hb.size (λk hk=>hb.block k (h.vlt k hk))
 vlt:=λk hk=>qH (h.vlt k hk) hb.size
 xlt:=λk hk=>qH (h.xlt k hk) hb.size
 links:=λw hw=>(h.links w hw).trans (aQ.of_below hb)
 own:=λp hp=>(hb.block p.1 (h.lt p hp)).trans (h.own p hp)
 nodup:=h.nodup
 apart:=h.apart
theorem St.snap(h:St G L H W):St G (W::L) H W:=by
 refine{h with links:=λw hw=>?_};simp only[cd]at hw;rcases hw with rfl|hw
 ·exact aQ.refl _ _
 exact h.links w hw
theorem n4c(W:World)(o:Obj):Below W.heap.size W (W.alloc o):=(Below.refl _ _).alloc (aj _) o
theorem EJ(W:World)(n:Nat)(h:W.drawn<=n:=by simp):Below W.heap.size W {W with drawn:=n}:=⟨rfl,rfl,rfl,h,aj _,λ_ _=>rfl⟩
theorem St.alloc(h:St G L H W)(o:Obj):St G L ((W.heap.size,o)::H) (W.alloc o):=by
 have h1:=h.step (n4c W o);refine{h1 with links:=λw hw=>?_,own:=λp hp=>?_,nodup:=?_,apart:=λp hp=>?_}
 ·exact(h1.links w hw).mono λk _ hk=>hk.imp id (λhk=>by simp[hk])
 ·simp only[cd]at hp;rcases hp with rfl|hp
  ·exact heap_alloc_new W o
  exact h1.own p hp
 ·intro i j p q hi hj e;cases i with
  |zero=>
   cases j with
   |zero=>rfl
   |succ j=>
    simp only[J8,wK,Jd]at hi hj;have:=h.lt q (cA hj);subst hi;simp at e;omega
  |succ i=>
   cases j with
   |zero=>
    simp only[J8,wK,Jd]at hi hj;have:=h.lt p (cA hi);subst hj;simp at e;omega
   |succ j=>
    simp only[Jd]at hi hj;rw[h.nodup i j p q hi hj e]
 simp only[cd]at hp;rcases hp with rfl|hp
 ·intro hm;have:=h.vlt _ hm;simp at this
 exact h.apart p hp
theorem St.old(h:St G L H W){w:World}(hw:w∈L)(hb:w.heap[b]? =some o)(hm:¬G.X b)(ho:bM H b):W.heap[b]? =some o:=by
 have hlt:=(bA.1 hb).1;rw[(h.links w hw).block b hlt (λhx=>hx.elim hm ho.mem)];exact hb
theorem St.put(h:St G L H W){o':Obj}(hi:H[i]? =some (b,o))(hW:aQ (· =b) W W')(hb:W'.heap[b]? =some o'):St G L (H.set i (b,o')) W':=by
 have kL:(b,o)∈H:=cA hi;have lM:i<H.length:=(gW.1 hi).1;have fJ:∀(j:Nat) (p:Nat×Obj),(H.set i (b,o'))[j]? =some p->(j=i/\p=(b,o'))\/(j≠i/\H[j]? =some p):=by
  intro j p hp;by_cases e:j=i
  ·subst e;rw[amq lM]at hp;exact .inl ⟨rfl,(Option.some.inj hp).symm⟩
  rw[UK (λx=>e x.symm)]at hp;exact .inr ⟨e,hp⟩
 have GJ:∀(j:Nat) (p:Nat×Obj),(H.set i (b,o'))[j]? =some p->∃q,H[j]? =some q/\q.1=p.1:=by
  intro j p hp;rcases fJ j p hp with⟨rfl,rfl⟩|⟨_,hp⟩
  ·exact⟨_,hi,rfl⟩
  exact⟨p,hp,rfl⟩
 have aW:∀k,k∈(H.set i (b,o')).map (·.1)↔k∈H.map (·.1):=by
  intro k;rw[List.map_set];constructor
  ·intro hk;rcases List.mem_or_eq_of_mem_set hk with hk|rfl
   ·exact hk
   exact bT.2 ⟨_,kL,rfl⟩
  intro hk;obtain⟨j,hj⟩:=jG.1 hk;by_cases e:i=j
  ·subst e;have:k=b:=by simp[hi]at hj;exact hj.symm
   subst this;exact jG.2 ⟨i,by rw[amq (by simpa using lM)]⟩
  exact jG.2 ⟨j,by rw[UK e];exact hj⟩
 have hM:=h.apart _ kL;refine⟨G.stab W W' h.ghost hW.os hW.tape hW.output hW.drawn hW.size (λk hk=>hW.block k (h.vlt k hk) (λe=>hM (e▸hk))),λk hk=>qH (h.vlt k hk) hW.size,λk hk=>qH (h.xlt k hk) hW.size,λw hw=>?_,λp hp=>?_,λj j' p q hj yC e=>?_,λp hp=>?_⟩
 ·have h1:=(h.links w hw).trans (hW.mono (Y:=λk=>G.X k\/k∈H.map (·.1)) λk _ hk=>by subst hk;exact .inr (bT.2 ⟨_,kL,rfl⟩));exact h1.mono λk _ hk=>hk.imp id (aW k).2
 ·obtain⟨j,hj⟩:=jG.1 hp;rcases fJ j p hj with⟨rfl,rfl⟩|⟨hne,hj⟩
  ·exact hb
  have hm:=cA hj;rw[hW.block p.1 (h.lt p hm) (λe=>hne (h.nodup j i p (b,o) hj hi e))];exact h.own p hm
 ·obtain⟨p',hp',e1⟩:=GJ j p hj;obtain⟨q',hq',e2⟩:=GJ j' q yC;exact h.nodup j j' p' q' hp' hq' (by rw[e1,e2];exact e)
 obtain⟨j,hj⟩:=jG.1 hp;obtain⟨q,hq,e⟩:=GJ j p hj;rw[<-e];exact h.apart q (cA hq)
end
/-! ### the judgements -/
abbrev FW (r:Option Nat):Fence:={fn:=λ_=>True,depth:=none,alive:=false,round:=r}
theorem nvo(r:Option Nat)(n:Nat):(FW r).room n:=λ_ h=>by simp at h
theorem nZk(P:Program)(r:Option Nat):Machine.fenced P (FW r)=Machine.fenced P Fence.wide:=rfl
theorem NJ{r:Option Nat}{n:Nat}{P:Program}{f:FuncId}{args:Array Value}{w:World}:CallsIn (FW r) n P f args w R↔Calls P f args w R:=by
 rw[<-callsIn_wide (n:=n)];unfold CallsIn;rw[nZk];exact⟨λh=>⟨trivial,λcs _=>h.2 cs (nvo _ _)⟩,λh=>⟨trivial,λcs _=>h.2 cs (room_wide _)⟩⟩
abbrev bC:=Exit->Act->World->Prop
structure Cx where
 P:Program
 r:Option Nat
 N:Nat
variable (C:Cx)
def PJ (Q:bC) (e:Exit) (E:Env) (D:List Deferred) (G:Gh) (L:List World) (H:ad):Prop:=
 ∀a W,a.tmps.size=C.N->a.defers=D->Fits E a->St G L H W->Q e a W
def CJ (c:Code) (Q:bC) (E:Env) (D:List Deferred) (G:Gh) (L:List World) (H:ad):Prop:=
 ∀a W,a.tmps.size=C.N->a.defers=D->Fits E a->St G L H W->c.wpIn (FW C.r) 0 C.P Q a W
def OJ (ops:Array Oper) (Q:bC) (l:List Oper) (E:Env) (D:List Deferred) (G:Gh) (L:List World) (H:ad):Prop:=
 ∀a W,a.tmps.size=C.N->a.defers=D->Fits E a->St G L H W->wpListIn (FW C.r) 0 C.P ops Q l a W
section
variable {C:Cx} {Q:bC} {E E':Env} {D:List Deferred} {G:Gh} {L L':List World} {H:ad} {ops:Array Oper} {l:List Oper}
theorem CJ.region{id:Nat}(h:OJ C l.toArray Q l E D G L H):CJ C (.region id l.toArray false) Q E D G L H:=
 λa W hN hD hF hS=>wpIn_region_lit (h a W hN hD hF hS)
theorem CJ.seq{x y:Code}(h:CJ C x (Exit.then (y.wpIn (FW C.r) 0 C.P Q) Q) E D G L H):CJ C (.seq x y) Q E D G L H:=
 λa W hN hD hF hS=>wpIn_seq (h a W hN hD hF hS)
theorem CJ.block{id:Nat}{c:Code}(h:CJ C c (Exit.inBlock id Q) E D G L H):CJ C (.block id c) Q E D G L H:=
 λa W hN hD hF hS=>wpIn_block (h a W hN hD hF hS)
theorem CJ.skip(h:PJ C Q .normal E D G L H):CJ C .skip Q E D G L H:=λa W hN hD hF hS=>wpIn_skip (h a W hN hD hF hS)
theorem CJ.ret(h:PJ C Q .ret E D G L H):CJ C .ret Q E D G L H:=λa W hN hD hF hS=>wpIn_ret (h a W hN hD hF hS)
theorem CJ.exit{id:Nat}(h:PJ C Q (.exit id) E D G L H):CJ C (.exit id) Q E D G L H:=λa W hN hD hF hS=>wpIn_exit (h a W hN hD hF hS)
theorem PJ.next{y:Code}(h:CJ C y Q E D G L H):PJ C (Exit.then (y.wpIn (FW C.r) 0 C.P Q) Q) .normal E D G L H:=h
theorem OJ.done(h:PJ C Q .normal E D G L H):OJ C ops Q [] E D G L H:=h
theorem CJ.condT{c:Operand}{x y:Code}(hc:ev E c=some (.bool true))(h:CJ C x Q E D G L H):CJ C (.cond c x y) Q E D G L H:=
 λa W hN hD hF hS=>wpIn_cond_true (hF.ev hc) (h a W hN hD hF hS)
theorem CJ.condF{c:Operand}{x y:Code}(hc:ev E c=some (.bool false))(h:CJ C y Q E D G L H):CJ C (.cond c x y) Q E D G L H:=
 λa W hN hD hF hS=>wpIn_cond_false (hF.ev hc) (h a W hN hD hF hS)
theorem CJ.cond{c:Operand}{x y:Code}{t:Bool}(hc:ev E c=some (.bool t))(h1:t=true->CJ C x Q E D G L H)(h2:t=false->CJ C y Q E D G L H):CJ C (.cond c x y) Q E D G L H:=
 λa W hN hD hF hS=>wpIn_cond_split (hF.ev hc) (λht=>h1 ht a W hN hD hF hS) (λht=>h2 ht a W hN hD hF hS)
theorem CJ.less{c:Code}(hs:Sub E' E)(h:CJ C c Q E' D G L H):CJ C c Q E D G L H:=
 λa W hN hD hF hS=>h a W hN hD (hs.fits hF) hS
theorem OJ.less(hs:Sub E' E)(h:OJ C ops Q l E' D G L H):OJ C ops Q l E D G L H:=
 λa W hN hD hF hS=>h a W hN hD (hs.fits hF) hS
theorem PJ.less{e:Exit}(hs:Sub E' E)(h:PJ C Q e E' D G L H):PJ C Q e E D G L H:=
 λa W hN hD hF hS=>h a W hN hD (hs.fits hF) hS
theorem St.lessL(h:St G L H W)(hs:∀w∈L',w∈L):St G L' H W:=
 {h with links:=λw hw=>h.links w (hs w hw)}
theorem ni{t:Nat}{c:Bool}(hc:look E t=some (.bool c))(h1:c=true->OJ C ops Q l ((t,.bool true)::E) D G L H)(h2:c=false->OJ C ops Q l ((t,.bool false)::E) D G L H):OJ C ops Q l E D G L H:=by
 intro a W hN hD hF hS;have P0:∀b,c=b->Fits ((t,.bool b)::E) a:=by
  rintro b rfl u v hv;simp only[look]at hv;by_cases e:t=u
  ·subst e;simp only[NI,wK]at hv;subst hv;exact hF _ _ hc
  simp only[UJ e]at hv;exact hF _ _ hv
 cases c with
 |true=>exact h1 rfl a W hN hD (P0 _ rfl) hS
 |false=>exact h2 rfl a W hN hD (P0 _ rfl) hS
theorem OJ.off{o:Oper}(hd:o.dst=some d)(jz:d<C.N)(hw:nr ops E o.guard=some false)(h:OJ C ops Q l ((d,undef)::E) D G L H):OJ C ops Q (o::l) E D G L H:=by
 intro a W hN hD hF hS;unfold wpListIn;rw[if_neg (by rw[BB hF hw];simp)];refine⟨λ_ _=>trivial,?_⟩;rw[hd];exact h (a.put (some d) undef) W (by simp[Act.put,hN]) z6 (hF.put _ aa) hS
variable {H':ad}
section
variable {o:Oper}{v:Value}(hd:o.dst=some d)(hnd:∀c,o.op≠ .defer c)(jz:d<C.N)(hw:nr ops E o.guard=some true)
include v hd hnd jz hw
theorem OJ.run(h:∀a W,Fits E a->St G L H W->∃W',(execOp a.eval o).run C.P W= .ok (.value v) W'/\St G L' H' W')(k:OJ C ops Q l ((d,v)::E) D G L' H'):OJ C ops Q (o::l) E D G L H:=by
 intro a W hN hD hF hS;obtain⟨W',hr,hQ⟩:=h a W hF hS;unfold wpListIn;rw[if_pos (BB hF hw)];refine⟨λ_ _=>trivial,?_⟩;rw[Oper.semAt_eq _ _ _ hnd,hr,Oper.uponIn_value,hd];exact k (a.put (some d) v) W' (by simp[Act.put,hN]) z6 (hF.put _ aa) hQ
theorem OJ.val(h:∀a W,Fits E a->St G L H W->(execOp a.eval o).run C.P W= .ok (.value v) W)(k:OJ C ops Q l ((d,v)::E) D G L H):OJ C ops Q (o::l) E D G L H:=
 OJ.run hd hnd jz hw (λa W hF hS=>⟨W,h a W hF hS,hS⟩) k
end
theorem NK{o:Oper}(hd:o.dst=none)(hnd:∀c,o.op≠ .defer c)(hw:nr ops E o.guard=some true)(h:∀a W,Fits E a->St G L H W->∃n W',(n= .skip\/∃v,n= .value v)/\(execOp a.eval o).run C.P W= .ok n W'/\St G L' H' W')(k:OJ C ops Q l E D G L' H'):OJ C ops Q (o::l) E D G L H:=by
 intro a W hN hD hF hS;obtain⟨n,W',hn,hr,hQ⟩:=h a W hF hS;unfold wpListIn;rw[if_pos (BB hF hw)];refine⟨λ_ _=>trivial,?_⟩;rw[Oper.semAt_eq _ _ _ hnd,hr];rcases hn with rfl|⟨v,rfl⟩
 ·rw[Oper.uponIn_skip,hd];exact k a W' hN hD hF hQ
 rw[Oper.uponIn_value,hd];exact k a W' hN hD hF hQ
end
end Px
namespace Px
open Go Go.RowKit
section
variable {C:Cx} {Q:bC} {E:Env} {D:List Deferred} {G:Gh} {L:List World} {H:ad} {ops:Array Oper} {l:List Oper}
variable {d T U ty:Nat} {pos:String} {aC:Array Edge} {g:Option (Nat×Bool)} {x y z:Operand}
variable {b:Nat}
theorem nW{a:Nat}(h:Nat.blt a b=true):a<b:=eh h
def RV (C:Cx) (G:Gh) (L:List World) (H:ad) (E:Env) (op:Op) (v:Value):Prop:=
 ∀(d ty:Nat) (pos:String) (aC:Array Edge) (g:Option (Nat×Bool)) (a:Act) (W:World),Fits E a->St G L H W->(execOp a.eval ⟨some d,op,ty,pos,aC,g⟩).run C.P W= .ok (.value v) W
variable {op:Op}
theorem UL{v:Value}(hnd:∀c,op≠ .defer c)(hw:nr ops E g=some true)(hN:Nat.blt d C.N=true)(h:∀a W,Fits E a->St G L H W->(execOp a.eval ⟨some d,op,ty,pos,aC,g⟩).run C.P W= .ok (.value v) W)(k:OJ C ops Q l ((d,v)::E) D G L H):OJ C ops Q (⟨some d,op,ty,pos,aC,g⟩::l) E D G L H:=
 OJ.val rfl hnd (nW hN) hw h k
theorem pO{v:Value}(hx:ev E x=some v):RV C G L H E (.move x) (v):=λd ty pos aC g a W hF hS=>by
 exact(λa W hF _=>by simp[execOp,hF.ev hx]:∀(a:Act) (W:World),Fits E a->St G L H W->(execOp a.eval ⟨some d,.move x,ty,pos,aC,g⟩).run C.P W= .ok (.value (v)) W) a W hF hS
theorem ur{v:Value}(hx:ev E x=some v):RV C G L H E (.assign x) (v):=λd ty pos aC g a W hF hS=>by
 exact(λa W hF _=>by simp[execOp,hF.ev hx]:∀(a:Act) (W:World),Fits E a->St G L H W->(execOp a.eval ⟨some d,.assign x,ty,pos,aC,g⟩).run C.P W= .ok (.value (v)) W) a W hF hS
theorem acG{v:Value}(hc:ev E x=some (.bool true))(hx:ev E y=some v):RV C G L H E (.pick x y z) (v):=λd ty pos aC g a W hF hS=>by
 exact(λa W hF _=>by simp[execOp,asBool,hF.ev hx,hF.ev hc]:∀(a:Act) (W:World),Fits E a->St G L H W->(execOp a.eval ⟨some d,.pick x y z,ty,pos,aC,g⟩).run C.P W= .ok (.value (v)) W) a W hF hS
theorem acH{v:Value}(hc:ev E x=some (.bool false))(hx:ev E z=some v):RV C G L H E (.pick x y z) (v):=λd ty pos aC g a W hF hS=>by
 exact(λa W hF _=>by simp[execOp,asBool,hF.ev hx,hF.ev hc]:∀(a:Act) (W:World),Fits E a->St G L H W->(execOp a.eval ⟨some d,.pick x y z,ty,pos,aC,g⟩).run C.P W= .ok (.value (v)) W) a W hF hS
/-! #### integers -/
section ints
variable {K:IntKind} {m n:Int}
section
variable (hx:ev E x=some (.int K m))(hy:ev E y=some (.int K n))
include hx hy
theorem Bw:RV C G L H E (.binOp .lss T x y U) (.bool (decide (m<n))):=λd ty pos aC g a W hF hS=>by
 exact(λa W hF _=>by simp[execOp,eqGuard,binOp,Op.intCmp,hF.ev hx,hF.ev hy]:∀(a:Act) (W:World),Fits E a->St G L H W->(execOp a.eval ⟨some d,.binOp .lss T x y U,ty,pos,aC,g⟩).run C.P W= .ok (.value (.bool (decide (m<n)))) W) a W hF hS
theorem acI:RV C G L H E (.binOp .leq T x y U) (.bool (decide (m<=n))):=λd ty pos aC g a W hF hS=>by
 exact(λa W hF _=>by simp[execOp,eqGuard,binOp,Op.intCmp,hF.ev hx,hF.ev hy]:∀(a:Act) (W:World),Fits E a->St G L H W->(execOp a.eval ⟨some d,.binOp .leq T x y U,ty,pos,aC,g⟩).run C.P W= .ok (.value (.bool (decide (m<=n)))) W) a W hF hS
theorem acJ:RV C G L H E (.binOp .gtr T x y U) (.bool (decide (n<m))):=λd ty pos aC g a W hF hS=>by
 exact(λa W hF _=>by simp[execOp,eqGuard,binOp,Op.intCmp,hF.ev hx,hF.ev hy]:∀(a:Act) (W:World),Fits E a->St G L H W->(execOp a.eval ⟨some d,.binOp .gtr T x y U,ty,pos,aC,g⟩).run C.P W= .ok (.value (.bool (decide (n<m)))) W) a W hF hS
theorem acK:RV C G L H E (.binOp .geq T x y U) (.bool (decide (n<=m))):=λd ty pos aC g a W hF hS=>by
 exact(λa W hF _=>by simp[execOp,eqGuard,binOp,Op.intCmp,hF.ev hx,hF.ev hy]:∀(a:Act) (W:World),Fits E a->St G L H W->(execOp a.eval ⟨some d,.binOp .geq T x y U,ty,pos,aC,g⟩).run C.P W= .ok (.value (.bool (decide (n<=m)))) W) a W hF hS
theorem kY:RV C G L H E (.binOp .eql T x y U) (.bool (decide (m=n))):=λd ty pos aC g a W hF hS=>by
 exact(λa W hF _=>by
  simp only[execOp,eqGuard,binOp,Op.intCmp,hF.ev hx,hF.ev hy];simp;rfl:∀(a:Act) (W:World),Fits E a->St G L H W->(execOp a.eval ⟨some d,.binOp .eql T x y U,ty,pos,aC,g⟩).run C.P W= .ok (.value (.bool (decide (m=n)))) W) a W hF hS
theorem dz:RV C G L H E (.binOp .neq T x y U) (.bool (!decide (m=n))):=λd ty pos aC g a W hF hS=>by
 exact(λa W hF _=>by
  simp only[execOp,eqGuard,binOp,Op.intCmp,hF.ev hx,hF.ev hy];simp;rfl:∀(a:Act) (W:World),Fits E a->St G L H W->(execOp a.eval ⟨some d,.binOp .neq T x y U,ty,pos,aC,g⟩).run C.P W= .ok (.value (.bool (!decide (m=n)))) W) a W hF hS
theorem pX:RV C G L H E (.binOp .add T x y U) (.int K (K.wrap (m+n))):=λd ty pos aC g a W hF hS=>by
 exact(λa W hF _=>by simp[execOp,eqGuard,binOp,Op.intArith,hF.ev hx,hF.ev hy]:∀(a:Act) (W:World),Fits E a->St G L H W->(execOp a.eval ⟨some d,.binOp .add T x y U,ty,pos,aC,g⟩).run C.P W= .ok (.value (.int K (K.wrap (m+n)))) W) a W hF hS
theorem vX:RV C G L H E (.binOp .sub T x y U) (.int K (K.wrap (m-n))):=λd ty pos aC g a W hF hS=>by
 exact(λa W hF _=>by simp[execOp,eqGuard,binOp,Op.intArith,hF.ev hx,hF.ev hy]:∀(a:Act) (W:World),Fits E a->St G L H W->(execOp a.eval ⟨some d,.binOp .sub T x y U,ty,pos,aC,g⟩).run C.P W= .ok (.value (.int K (K.wrap (m-n)))) W) a W hF hS
theorem kW:RV C G L H E (.binOp .mul T x y U) (.int K (K.wrap (m*n))):=λd ty pos aC g a W hF hS=>by
 exact(λa W hF _=>by simp[execOp,eqGuard,binOp,Op.intArith,hF.ev hx,hF.ev hy]:∀(a:Act) (W:World),Fits E a->St G L H W->(execOp a.eval ⟨some d,.binOp .mul T x y U,ty,pos,aC,g⟩).run C.P W= .ok (.value (.int K (K.wrap (m*n)))) W) a W hF hS
end
theorem UM{n:Int}(h1: -9223372036854775808<=n)(h2:n<=9223372036854775807):IntKind.i64.wrap n=n:=by
 unfold IntKind.wrap;simp[IntKind.bits,IntKind.signed];split<;>omega
theorem P1{n:Int}(h1:0<=n)(h2:n<18446744073709551616):IntKind.u64.wrap n=n:=by
 unfold IntKind.wrap;simp[IntKind.bits,IntKind.signed];omega
theorem nD(n:Int):IntKind.u64.wrap n=n%18446744073709551616:=by
 exact zji
theorem nwl(n:Int):IntKind.u8.wrap n=n%256:=by
 exact zji
theorem nlf(n:Int):IntKind.u32.wrap n=n%4294967296:=by
 exact zji
section
variable (hx:ev E x=some (.int .i64 m))(hy:ev E y=some (.int .i64 n))
include hx hy
theorem jx(h1: -9223372036854775808<=m+n)(h2:m+n<=9223372036854775807):RV C G L H E (.binOp .add T x y U) (.int .i64 (m+n)):=by
 have:=pX (C:=C) (G:=G) (L:=L) (H:=H) (T:=T) (U:=U) hx hy;rwa[UM h1 h2]at this
theorem pq(h1: -9223372036854775808<=m-n)(h2:m-n<=9223372036854775807):RV C G L H E (.binOp .sub T x y U) (.int .i64 (m-n)):=by
 have:=vX (C:=C) (G:=G) (L:=L) (H:=H) (T:=T) (U:=U) hx hy;rwa[UM h1 h2]at this
theorem vP(h1: -9223372036854775808<=m*n)(h2:m*n<=9223372036854775807):RV C G L H E (.binOp .mul T x y U) (.int .i64 (m*n)):=by
 have:=kW (C:=C) (G:=G) (L:=L) (H:=H) (T:=T) (U:=U) hx hy;rwa[UM h1 h2]at this
end
/-! #### division, shifts, bits -/
theorem IE(hx:ev E x=some (.int K m))(hy:ev E y=some (.int K n))(h0:n≠0):RV C G L H E (.binOp .quo T x y U) (.int K (K.wrap (m.tdiv n))):=λd ty pos aC g a W hF _=>by
 simp[execOp,eqGuard,binOp,Op.intDiv,hF.ev hx,hF.ev hy,h0]
theorem UN(hx:ev E x=some (.int K m))(hy:ev E y=some (.int K n))(h0:n≠0):RV C G L H E (.binOp .rem T x y U) (.int K (m.tmod n)):=λd ty pos aC g a W hF _=>by
 simp[execOp,eqGuard,binOp,Op.intDiv,hF.ev hx,hF.ev hy,h0]
variable {K':IntKind}
section
variable (hx:ev E x=some (.int K m))
include hx
theorem rC(hy:ev E y=some (.int K' n))(h0:0<=n):RV C G L H E (.binOp .shl T x y U) (.int K (K.wrap (m*2^(min n.toNat K.bits)))):=λd ty pos aC g a W hF _=>by
 simp[execOp,eqGuard,binOp,Op.shift,hF.ev hx,hF.ev hy,show ¬n<0 by omega]
theorem mB(hy:ev E y=some (.int K' n))(h0:0<=n):RV C G L H E (.binOp .shr T x y U) (.int K (m.fdiv (2^(min n.toNat K.bits)))):=λd ty pos aC g a W hF _=>by
 simp[execOp,eqGuard,binOp,Op.shift,hF.ev hx,hF.ev hy,show ¬n<0 by omega]
theorem IF(hy:ev E y=some (.int K n)):RV C G L H E (.binOp .and T x y U) (.int K (K.wrap (BitVec.ofInt K.bits m&&&BitVec.ofInt K.bits n).toNat)):=λd ty pos aC g a W hF _=>by
 simp only[execOp,eqGuard,binOp,Op.intBits,hF.ev hx,hF.ev hy];simp
theorem AG(hy:ev E y=some (.int K n)):RV C G L H E (.binOp .or T x y U) (.int K (K.wrap (BitVec.ofInt K.bits m|||BitVec.ofInt K.bits n).toNat)):=λd ty pos aC g a W hF _=>by
 simp only[execOp,eqGuard,binOp,Op.intBits,hF.ev hx,hF.ev hy];simp
theorem yR(hy:ev E y=some (.int K n)):RV C G L H E (.binOp .xor T x y U) (.int K (K.wrap (BitVec.ofInt K.bits m^^^BitVec.ofInt K.bits n).toNat)):=λd ty pos aC g a W hF _=>by
 simp only[execOp,eqGuard,binOp,Op.intBits,hF.ev hx,hF.ev hy];simp
end
variable {s:ByteArray}
theorem DI{b:UInt8}(hU:C.P.underlying T=some .string)(hx:ev E x=some (.string s))(hy:ev E y=some (.int K n))(h0:0<=n)(hb:s[n.toNat]? =some b):RV C G L H E (.index T x y) (.int .u8 b.toNat):=λd ty pos aC g a W hF _=>by
 simp[execOp,hF.ev hx,hF.ev hy,Instr.index,asIntOf,run_underlying hU,h0,hb]
def JM:Op->Bool
 | .defer _=>false
 |_=>true
theorem IG(h:JM op=true):∀c,op≠ .defer c:=λc e=>by subst e;cases h
theorem rv{v:Value}(hnd:JM op=true)(hw:nr ops E g=some true)(hN:Nat.blt d C.N=true)(h:RV C G L H E op v)(k:OJ C ops Q l ((d,v)::E) D G L H):OJ C ops Q (⟨some d,op,ty,pos,aC,g⟩::l) E D G L H:=
 UL (IG hnd) hw hN (λa W hF hS=>h d ty pos aC g a W hF hS) k
theorem RV.re{v v':Value}(h:RV C G L H E op v)(e:v=v'):RV C G L H E op v':=e▸h
theorem OJ.re{v v':Value}(e:v=v')(k:OJ C ops Q l ((d,v')::E) D G L H):OJ C ops Q l ((d,v)::E) D G L H:=by rw[e];exact k
theorem Yd(m:Int)(j:Nat):m.fdiv (2^j)=m/2^j:=by grind
theorem nSo{m:Int}(h0:0<=m)(h1:m<18446744073709551616)(j:Nat)(hj:j<=64):IntKind.u64.wrap (BitVec.ofInt IntKind.u64.bits m&&&BitVec.ofInt IntKind.u64.bits (2^j-1)).toNat=m%2^j:=by
 obtain⟨k,rfl⟩:=Og h0;have hk:k<18446744073709551616:=by omega
 have e1:(BitVec.ofInt IntKind.u64.bits (k:Int)).toNat=k:=by
  rw[BitVec.ofInt_natCast,BitVec.toNat_ofNat];exact Nat.mod_eq_of_lt hk
 have hp:(2:Int)^j-1=((2^j-1:Nat):Int):=by
  have:0<2^j:=Nat.two_pow_pos j;rw[Int.ofNat_sub aa];simp
 have hle:2^j<=18446744073709551616:=by
  have:=Nat.pow_le_pow_right (show 0<2 by decide) hj;simpa using this
 have e2:(BitVec.ofInt IntKind.u64.bits ((2:Int)^j-1)).toNat=2^j-1:=by
  rw[hp,BitVec.ofInt_natCast,BitVec.toNat_ofNat];exact Nat.mod_eq_of_lt (by have:0<2^j:=Nat.two_pow_pos j;simp[IntKind.bits];omega)
 rw[BitVec.toNat_and,e1,e2,Nat.and_two_pow_sub_one_eq_mod];have:k%2^j<=k:=Nat.mod_le _ _;rw[P1 aa aa];simp
section
variable (hx:ev E x=some (.int .u64 m))(hy:ev E y=some (.int .u64 n))
include hx hy
theorem IH(h1:0<=m+n)(h2:m+n<18446744073709551616):RV C G L H E (.binOp .add T x y U) (.int .u64 (m+n)):=by
 have:=pX (C:=C) (G:=G) (L:=L) (H:=H) (T:=T) (U:=U) hx hy;rwa[P1 h1 h2]at this
theorem uP(h1:0<=m-n)(h2:m-n<18446744073709551616):RV C G L H E (.binOp .sub T x y U) (.int .u64 (m-n)):=by
 have:=vX (C:=C) (G:=G) (L:=L) (H:=H) (T:=T) (U:=U) hx hy;rwa[P1 h1 h2]at this
theorem Ax(h1:0<=m*n)(h2:m*n<18446744073709551616):RV C G L H E (.binOp .mul T x y U) (.int .u64 (m*n)):=by
 have:=kW (C:=C) (G:=G) (L:=L) (H:=H) (T:=T) (U:=U) hx hy;rwa[P1 h1 h2]at this
theorem yE(h0:0<=m)(h1:m<18446744073709551616)(h2:1<=n):RV C G L H E (.binOp .quo T x y U) (.int .u64 (m/n)):=by
 have:=IE (C:=C) (G:=G) (L:=L) (H:=H) (T:=T) (U:=U) hx hy aa;rw[Int.tdiv_eq_ediv_of_nonneg h0,P1 (Int.ediv_nonneg h0 aa) (Int.lt_of_le_of_lt (Int.ediv_le_self _ h0) h1)]at this;exact this
end
theorem DQ(hx:ev E x=some (.int K m))(hy:ev E y=some (.int K n))(h0:0<=m)(h2:1<=n):RV C G L H E (.binOp .rem T x y U) (.int K (m%n)):=by
 have:=UN (C:=C) (G:=G) (L:=L) (H:=H) (T:=T) (U:=U) hx hy aa;all_goals grind
theorem EC(hx:ev E x=some (.int .i64 m))(hy:ev E y=some (.int .i64 n))(h0:0<=m)(h1:m<9223372036854775808)(h2:1<=n):RV C G L H E (.binOp .quo T x y U) (.int .i64 (m/n)):=by
 have:=IE (C:=C) (G:=G) (L:=L) (H:=H) (T:=T) (U:=U) hx hy aa;have h3:m/n<=m:=Int.ediv_le_self _ h0;have h4:0<=m/n:=Int.ediv_nonneg h0 aa;all_goals grind [UM]
theorem nBl{j:Nat}(hj:Nat.ble j K.bits=true):min (Int.toNat (j:Int)) K.bits=j:=by
 have:=eh hj;simp;omega
section
variable (j:Nat)(q:Int)(hq:(2:Int)^j=q)(hj:Nat.ble j K.bits=true)(hx:ev E x=some (.int K m))(hy:ev E y=some (.int K' (j:Int)))
include hq hj hx hy
theorem jq:RV C G L H E (.binOp .shr T x y U) (.int K (m/q)):=by
 have:=mB (C:=C) (G:=G) (L:=L) (H:=H) (T:=T) (U:=U) hx hy aa;rw[nBl hj,Yd,hq]at this;exact this
theorem DT:RV C G L H E (.binOp .shl T x y U) (.int K (K.wrap (m*q))):=by
 have:=rC (C:=C) (G:=G) (L:=L) (H:=H) (T:=T) (U:=U) hx hy aa;rw[nBl hj,hq]at this;exact this
end
theorem rD(j:Nat)(q:Int)(hq:(2:Int)^j=q)(hj:Nat.ble j 64=true)(hx:ev E x=some (.int .u64 m))(hy:ev E y=some (.int .u64 n))(hn:n=q-1)(h0:0<=m)(h1:m<18446744073709551616):RV C G L H E (.binOp .and T x y U) (.int .u64 (m%q)):=by
 have:=IF (C:=C) (G:=G) (L:=L) (H:=H) (T:=T) (U:=U) hx hy;rw[hn,<-hq,nSo h0 h1 j (eh hj)]at this;rwa[<-hq]
section
variable {S T':Nat}{ds:TypeDesc}(II:C.P.underlying S=some ds)
include S T' ds II
theorem kZ(hT:C.P.underlying T'=some (.int K'))(hx:ev E x=some (.int K m)):RV C G L H E (.convert S T' x) (.int K' (K'.wrap m)):=λd ty pos aC g a W hF hS=>by
 exact(λa W hF _=>by
  simp[execOp,convert,hF.ev hx,run_underlying II,run_underlying hT,Conv.intToInt]:∀(a:Act) (W:World),Fits E a->St G L H W->(execOp a.eval ⟨some d,.convert S T' x,ty,pos,aC,g⟩).run C.P W= .ok (.value (.int K' (K'.wrap m))) W) a W hF hS
theorem yJ(hT:C.P.underlying T'=some (.int .i64))(hx:ev E x=some (.int K m))(h1: -9223372036854775808<=m)(h2:m<=9223372036854775807):RV C G L H E (.convert S T' x) (.int .i64 m):=by
 have:=kZ (C:=C) (G:=G) (L:=L) (H:=H) II hT hx;rwa[UM h1 h2]at this
theorem yD(hT:C.P.underlying T'=some (.int .u64))(hx:ev E x=some (.int K m))(h1:0<=m)(h2:m<18446744073709551616):RV C G L H E (.convert S T' x) (.int .u64 m):=by
 have:=kZ (C:=C) (G:=G) (L:=L) (H:=H) II hT hx;rwa[P1 h1 h2]at this
theorem pw(hT:C.P.underlying T'=some (.int .u8))(hx:ev E x=some (.int K m)):RV C G L H E (.convert S T' x) (.int .u8 (m%256)):=by
 have:=kZ (C:=C) (G:=G) (L:=L) (H:=H) II hT hx;rwa[nwl]at this
theorem vU(hT:C.P.underlying T'=some (.int .u8))(hx:ev E x=some (.int K m))(h0:0<=m)(h1:m<256):RV C G L H E (.convert S T' x) (.int .u8 m):=by
 have:=pw (C:=C) (G:=G) (L:=L) (H:=H) II hT hx;rwa[Int.emod_eq_of_lt h0 h1]at this
end
end ints
theorem kq{b:Bool}(hx:ev E x=some (.bool b)):RV C G L H E (.unOp .not T x) (.bool (!b)):=λd ty pos aC g a W hF hS=>by
 exact(λa W hF _=>by simp[execOp,Op.unary,hF.ev hx]:∀(a:Act) (W:World),Fits E a->St G L H W->(execOp a.eval ⟨some d,.unOp .not T x,ty,pos,aC,g⟩).run C.P W= .ok (.value (.bool (!b))) W) a W hF hS
variable {i:Nat}
theorem jg{vs:Array Value}{v:Value}(hx:ev E x=some (.tuple vs))(hv:vs[i]? =some v):RV C G L H E (.extract x i) (v):=λd ty pos aC g a W hF hS=>by
 exact(λa W hF _=>by simp[execOp,Instr.extract,hF.ev hx,hv]:∀(a:Act) (W:World),Fits E a->St G L H W->(execOp a.eval ⟨some d,.extract x i,ty,pos,aC,g⟩).run C.P W= .ok (.value (v)) W) a W hF hS
/-! #### calls -/
/-- What a contract says that leaves all that lay as_ it lay: it returns v. -/
def aP (w:World) (v:Value):Ending->World->Prop:=λe w'=>e= .returned v/\Below w.heap.size w w'
def cZ {α:Type} (w:World) (v:α->Value) (Φ:α->World->Prop):Ending->World->Prop:=λe w'=>∃x,e= .returned (v x)/\Below w.heap.size w w'/\Φ x w'
def eU (P:Program) (f:Nat):Prop:=∀(args:Array Value) (w:World),(callFunc f args).run P w= .ok (.enter f args) w
def jy (E:Env):List Operand->Option (List Value)
 | []=>some []
 |x::xs=>
  match ev E x with
  |some v=>
   match jy E xs with
   |some vs=>some (v::vs)
   |none=>none
  |none=>none
theorem NL{E:Env}{a:Act}(h:Fits E a):∀(xs:List Operand) (vs:List Value),jy E xs=some vs->xs.map a.eval=vs
 | [],vs,hv=>by simp[jy]at hv;simp[hv]
 |x::xs,vs,hv=>by
  simp only[jy]at hv;cases hx:ev E x with
  |none=>simp[hx]at hv
  |some v=>
   simp only[hx]at hv;cases hs:jy E xs with
   |none=>simp[hs]at hv
   |some us=>
    simp only[hs,wK]at hv;subst hv;simp[h.ev hx,NL h xs us hs]
variable {f:Nat} {xs:List Operand} {vs:List Value} {eJ:Array Nat}
theorem nK{o:Oper}{x:Operand}(ho:o.op= .call ⟨.value x,xs.toArray,eJ⟩){first cap lH:Array Value}(hw:nr ops E o.guard=some true)(hx:ev E x=some (.func (.func f) first cap))(ha:jy E xs=some vs)(has:first++vs.toArray++cap=lH)(aA:eU C.P f)(hc:∀a W,a.tmps.size=C.N->a.defers=D->Fits E a->St G L H W->Calls C.P f lH W λ| .returned v,W'=>wpListIn (FW C.r) 0 C.P ops Q l (a.put o.dst v) W'| .panicked ch,W'=>Q (.panic ch) a W'| .outgrown,_=>LetsOut Q):OJ C ops Q (o::l) E D G L H:=by
 intro a W hN hD hF hS;unfold wpListIn;rw[if_pos (BB hF hw)];refine⟨λ_ _=>trivial,?_⟩;have hr:(execOp a.eval o).run C.P W= .ok (.enter f lH) W:=by
  have h2:(xs.toArray).map a.eval=vs.toArray:=by rw[DH,NL hF xs vs ha]
  simp only[execOp,ho,resolve,hF.ev hx,Deferred.ofValue,h2];simp[invoke,has,aA lH W]
 rw[Oper.semAt_eq _ _ _ (by rw[ho];simp),hr,Oper.uponIn_enter];exact⟨by simp,NJ.2 (hc a W hN hD hF hS)⟩
theorem call{v:Value}(aA:eU C.P f)(hw:nr ops E g=some true)(hN:Nat.blt d C.N=true)(ha:jy E xs=some vs)(hc:∀W,St G L H W->Calls C.P f vs.toArray W (aP W v))(k:OJ C ops Q l ((d,v)::E) D G L H):OJ C ops Q (⟨some d,.call ⟨.value (.func f),xs.toArray,eJ⟩,ty,pos,aC,g⟩::l) E D G L H:=
 nK rfl hw rfl ha zJ aA λa W jz hD hF hS=>(hc W hS).mono (by
  rintro e W' ⟨rfl,hb⟩;exact k (a.put (some d) v) W' z8 z6 (hF.put _ z7) (hS.step hb))
theorem nv{α:Type}{v:α->Value}{Φ:World->α->World->Prop}(aA:eU C.P f)(hw:nr ops E g=some true)(hN:Nat.blt d C.N=true)(ha:jy E xs=some vs)(hc:∀W,St G L H W->Calls C.P f vs.toArray W (cZ W v (Φ W)))(k:∀W x w1,St G L H W->Below W.heap.size W w1->Φ W x w1->OJ C ops Q l ((d,v x)::E) D G (w1::L) H):OJ C ops Q (⟨some d,.call ⟨.value (.func f),xs.toArray,eJ⟩,ty,pos,aC,g⟩::l) E D G L H:=
 nK rfl hw rfl ha zJ aA λa W jz hD hF hS=>(hc W hS).mono (by
  rintro e W' ⟨x,rfl,hb,hx⟩;exact k W x W' hS hb hx (a.put (some d) (v x)) W' z8 z6 (hF.put _ z7) (hS.step hb).snap)
end
/-! #### into a function, and out of it -/
def yx:Nat->List Value->Env
 |_,[]=>[]
 |i,v::vs=>(i,v)::yx (i+1) vs
theorem nQi:∀(vs:List Value) (i t:Nat) (v:Value),look (yx i vs) t=some v->i<=t/\vs[t-i]? =some v
 | [],i,t,v,h=>by simp[yx,look]at h
 |u::vs,i,t,v,h=>by
  simp only[yx,look]at h;by_cases e:i=t
  ·subst e;simp only[NI,wK]at h;subst h;simp
  simp only[UJ e]at h;obtain⟨h1,h2⟩:=nQi vs (i+1) t v h;refine⟨by omega,?_⟩;have:t-i=(t-(i+1))+1:=by omega
  rw[this];simpa using h2
theorem npc(vs:List Value)(n:Nat):Fits (yx 0 vs) ⟨vs.toArray++Array.replicate n undef,[]⟩:=by
 intro t v h;obtain⟨_,h⟩:=nQi vs 0 t v h;simp only[Nat.sub_zero]at h;have hlt:=(gW.1 h).1;simp only[Act.eval,Array.getD_eq_getD_getElem?];rw[WI (by simpa using hlt)];simp[h]
variable {R:Ending->World->Prop} {fn:Func} {vs:List Value} {f:Nat}
theorem nB{P:Program}{N:Nat}{c:Code}{w:World}(G:Gh)(H:ad)(hf:P.funcs[f]? =some fn)(hb:fn.body=some c)(hN:fn.ntmps=N)(hl:Nat.ble vs.length N=true)(hS:St G [w] H w)(h:CJ ⟨P,none,N⟩ c (bodyPost P fn R) (yx 0 vs) [] G [w] H):Calls P f vs.toArray w R:=by
 exact zIh
theorem JU(w:World):St Gh.no [w] [] w:=
 ⟨trivial,λ_ h=>h.elim,λ_ h=>h.elim,λw' hw=>by simp at hw;subst hw;exact aQ.refl _ _,λ_ h=>by simp at h,λ_ _ _ _ h=>by simp at h,λ_ h=>by simp at h⟩
theorem enter{P:Program}{N:Nat}{c:Code}{w:World}(hf:P.funcs[f]? =some fn)(hb:fn.body=some c)(hN:fn.ntmps=N)(hl:Nat.ble vs.length N=true)(h:CJ ⟨P,none,N⟩ c (bodyPost P fn R) (yx 0 vs) [] Gh.no [w] []):Calls P f vs.toArray w R:=
 nB Gh.no [] hf hb hN hl (JU w) h
section
variable {C:Cx} {fn:Func} {R:Ending->World->Prop} {E:Env} {G:Gh} {L:List World} {H:ad}
variable {W:World}
theorem St.belowNo{w:World}(h:St Gh.no L [] W)(hw:w∈L):Below w.heap.size w W:=
 (h.links w hw).below λk _ hx=>by simp[Gh.no]at hx
theorem acL{t:Nat}{v:Value}(hr:fn.results=#[.tmp t])(hv:look E t=some v)(h:∀W,St G L H W->R (.returned v) W):PJ C (bodyPost C.P fn R) .ret E [] G L H:=
 λa W _ hD hF hS=>⟨hD,v,by rw[results_tmp hr];exact congrArg (λu=>Result.ok u W) (hF t v hv),h W hS⟩
theorem anv{t u:Nat}{v v':Value}(hr:fn.results=#[.tmp t,.tmp u])(hv:look E t=some v)(hv':look E u=some v')(h:∀W,St G L H W->R (.returned (.tuple #[v,v'])) W):PJ C (bodyPost C.P fn R) .ret E [] G L H:=
 λa W _ hD hF hS=>⟨hD,.tuple #[v,v'],by
  rw[results_tmp2 hr];have h1:=hF t v hv;have h2:=hF u v' hv';simp only[Act.eval]at h1 h2;rw[h1,h2],h W hS⟩
theorem sQ{α:Type}{t:Nat}{v:Value}{w:World}{u:α->Value}{Φ:α->World->Prop}(x:α)(hr:fn.results=#[.tmp t])(hv:look E t=some v)(hw:w∈L)(e:v=u x)(h:∀W,St Gh.no L [] W->Φ x W):PJ C (bodyPost C.P fn (cZ w u Φ)) .ret E [] Gh.no L []:=
 acL hr hv λW hS=>⟨x,by rw[e],hS.belowNo hw,h W hS⟩
theorem aK{t:Nat}{v v':Value}{w:World}(hr:fn.results=#[.tmp t])(hv:look E t=some v)(hw:w∈L)(e:v=v'):PJ C (bodyPost C.P fn (aP w v')) .ret E [] Gh.no L []:=
 acL hr hv λ_ hS=>⟨by rw[e],hS.belowNo hw⟩
theorem nT{t u:Nat}{v v' v1 v2:Value}{w:World}(hr:fn.results=#[.tmp t,.tmp u])(hv:look E t=some v)(hv':look E u=some v')(hw:w∈L)(e:v=v1)(e':v'=v2):PJ C (bodyPost C.P fn (aP w (.tuple #[v1,v2]))) .ret E [] Gh.no L []:=
 anv hr hv hv' λ_ hS=>⟨by rw[e,e'],hS.belowNo hw⟩
end
end Px
namespace Px
open Go Go.RowKit
section
variable {C:Cx} {Q:bC} {E:Env} {D:List Deferred} {G:Gh} {L:List World} {H:ad} {K:Act->World->Prop} {id j:Nat}
theorem PJ.retThen(h:PJ C Q .ret E D G L H):PJ C (Exit.then K Q) .ret E D G L H:=h
theorem PJ.retBlock(h:PJ C Q .ret E D G L H):PJ C (Exit.inBlock id Q) .ret E D G L H:=h
theorem PJ.norBlock(h:PJ C Q .normal E D G L H):PJ C (Exit.inBlock id Q) .normal E D G L H:=h
theorem PJ.exThen(h:PJ C Q (.exit id) E D G L H):PJ C (Exit.then K Q) (.exit id) E D G L H:=h
theorem PJ.exHit(h:PJ C Q .normal E D G L H):PJ C (Exit.inBlock id Q) (.exit id) E D G L H:=λa W hN hD hF hS=>by
 simp only[Exit.inBlock,if_true];exact h a W hN hD hF hS
theorem nQb(hne:Nat.beq id j=false)(h:PJ C Q (.exit id) E D G L H):PJ C (Exit.inBlock j Q) (.exit id) E D G L H:=λa W hN hD hF hS=>by
 have:¬id=j:=λe=>by subst e;rw[NI]at hne;cases hne
 simp only[Exit.inBlock,this,if_false];exact h a W hN hD hF hS
theorem n3g(p:Nat->Prop):∀n,p n->∃m,p m/\∀k,p k->m<=k:=by
 intro n;induction n using Nat.strongRecOn with
 |_ n ih=>
  intro hn;by_cases h:∃k,k<n/\p k
  ·obtain⟨k,hk,hp⟩:=h;exact ih k hk hp
  exact⟨n,hn,λk hk=>Nat.le_of_not_lt λhlt=>h ⟨k,hlt,hk⟩⟩
open Classical in
noncomputable def UO (p:Nat->Prop):Nat:=if h:∃m,p m/\∀k,p k->m<=k then Classical.choose h else 0
theorem nJe{p:Nat->Prop}(h:∃n,p n):p (UO p):=by
 obtain⟨n,hn⟩:=h;have h:=n3g p n hn;unfold UO;rw[dif_pos h];exact(Classical.choose_spec h).1
theorem nbg{p:Nat->Prop}{n:Nat}(hn:p n):UO p<=n:=by
 have h:=n3g p n hn;unfold UO;rw[dif_pos h];exact(Classical.choose_spec h).2 n hn
def n8i {α:Type} (C:Cx) (D:List Deferred) (Ei:α->Env) (Hi:α->ad) (Li:α->List World) (Gi:α->Gh) (ok:α->Prop) (μ:α->Nat) (x:α) (a:Act) (W:World):Prop:=
 ∃x',ok x'/\μ x'<μ x/\a.tmps.size=C.N/\a.defers=D/\Fits (Ei x') a/\St (Gi x') (Li x') (Hi x') W
section
variable {α:Type}{c:Code}(Ei:α->Env)(Hi:α->ad)(Li:α->List World)(Gi:α->Gh)(ok:α->Prop)(μ:α->Nat)(x0:α)(h0:ok x0)
include Ei Hi Li Gi ok μ x0 h0
theorem CJ.loopF(hE:∀{a},Fits E a->Fits (Ei x0) a)(hH:Hi x0=H)(hG:Gi x0=G)(hL:∀w∈Li x0,w∈L)(round:∀x,ok x->CJ C c (Exit.then (n8i C D Ei Hi Li Gi ok μ x) Q) (Ei x) D (Gi x) (Li x) (Hi x)):CJ C (.loop c) Q E D G L H:=by
 intro a W hN hD hF hS;subst hH;subst hG
 let Inv:Act->World->Nat->Prop:=λa W m=>∃x,μ x=m/\ok x/\a.tmps.size=C.N/\a.defers=D/\Fits (Ei x) a/\St (Gi x) (Li x) (Hi x) W
 refine wpIn_loop (λa W=>∃m,Inv a W m) (λa W=>UO (Inv a W)) ⟨_,x0,rfl,h0,hN,hD,hE hF,hS.lessL hL⟩ ?_;exact zog
theorem CJ.loop(hE:Sub (Ei x0) E)(hH:Hi x0=H)(hG:Gi x0=G)(hL:∀w∈Li x0,w∈L)(round:∀x,ok x->CJ C c (Exit.then (n8i C D Ei Hi Li Gi ok μ x) Q) (Ei x) D (Gi x) (Li x) (Hi x)):CJ C (.loop c) Q E D G L H:=CJ.loopF Ei Hi Li Gi ok μ x0 h0 (λhF=>hE.fits hF) hH hG hL round
end
theorem PJ.again{α:Type}{Ei:α->Env}{Hi:α->ad}{Li:α->List World}{Gi:α->Gh}{ok:α->Prop}{μ:α->Nat}{x:α}(x':α)(h0:ok x')(hlt:μ x'<μ x)(hE:Sub (Ei x') E)(hH:Hi x'=H)(hG:Gi x'=G)(hL:∀w∈Li x',w∈L):PJ C (Exit.then (n8i C D Ei Hi Li Gi ok μ x) Q) .normal E D G L H:=by
 intro a W hN hD hF hS;subst hH;subst hG;exact⟨x',h0,hlt,hN,hD,hE.fits hF,hS.lessL hL⟩
theorem n6c(A B:Env)(t:Nat):look (A++B) t=(look A t).or (look B t):=by induction A<;>grind [look]
variable {a:Act}
theorem UP{A B:Env}(h1:Fits A a)(h2:Fits B a):Fits (A++B) a:=by
 intro t v hv;rw[n6c]at hv;cases h:look A t with
 |some u=>simp[h]at hv;subst hv;exact h1 t u h
 |none=>simp[h]at hv;exact h2 t v hv
/-- the slots of a list, each once -/
inductive KS:List Nat->Env->Env->Prop
 |nil {ks:List Nat} {E:Env}:KS ks E []
 |keep {ks:List Nat} {t:Nat} {v:Value} {E E':Env}:ks.any (Nat.beq t)=true->KS (ks.filter λk=> !Nat.beq t k) E E'->KS ks ((t,v)::E) ((t,v)::E')
 |skip {ks:List Nat} {t:Nat} {v:Value} {E E':Env}:ks.any (Nat.beq t)=false->KS ks E E'->KS ks ((t,v)::E) E'
variable {ks:List Nat}
theorem KS.done(_h:ks.isEmpty=true):KS ks E []:=.nil
variable {E':Env}
theorem KS.look(h:KS ks E E'):∀{t v},Px.look E' t=some v->ks.any (Nat.beq t)=true/\Px.look E t=some v:=by
 induction h with
 |nil=>intro t v h;simp[Px.look]at h
 |@keep ks t0 v0 E E' h _ ih=>
  intro t v h2;simp only[Px.look]at h2 ⊢;cases hb:Nat.beq t0 t with
  |true=>rw[hb]at h2;rw[Nat.beq_eq]at hb;subst hb;exact⟨h,h2⟩
  |false=>
   rw[hb]at h2;have h3:=ih h2;refine⟨?_,h3.2⟩;have h4:=h3.1;simp only[List.any_eq_true,uK]at h4 ⊢;obtain⟨k,hk,e⟩:=h4;exact⟨k,hk.1,e⟩
 |@skip ks t0 v0 E E' h _ ih=>
  intro t v h2;have h3:=ih h2;simp only[Px.look];cases hb:Nat.beq t0 t with
  |true=>rw[Nat.beq_eq]at hb;subst hb;rw[h]at h3;cases h3.1
  |false=>exact h3
theorem KS.fits(h:KS ks E E')(hF:Fits E a):Fits E' a:=λt v hv=>hF t v (h.look hv).2
theorem CJ.lp{α:Type}{c:Code}{E0:Env}(ks:List Nat)(Ei:α->Env)(Hi:α->ad)(ok:α->Prop)(μ:α->Nat)(x0:α)(h0:ok x0)(round:∀x,ok x->CJ C c (Exit.then (n8i C D (λx=>Ei x++E0) Hi (λ_=>L) (λ_=>G) ok μ x) Q) (Ei x++E0) D G L (Hi x))(hK:KS ks E E0:=by exact zKS)(hE:Sub (Ei x0) E:=by exact zSU)(hH:Hi x0=H:=by exact rfl):CJ C (.loop c) Q E D G L H:=
 CJ.loopF (λx=>Ei x++E0) Hi (λ_=>L) (λ_=>G) ok μ x0 h0 (λhF=>UP (hE.fits hF) (hK.fits hF)) hH rfl (λ_ h=>h) round
theorem ag{α:Type}{Ei:α->Env}{Hi:α->ad}{Li:α->List World}{Gi:α->Gh}{ok:α->Prop}{μ:α->Nat}{x:α}(x':α)(h0:ok x')(hlt:μ x'<μ x:=by first|omega|(dsimp only;omega))(hE:Sub (Ei x') E:=by exact zSU)(hH:Hi x'=H:=by exact rfl)(hG:Gi x'=G:=by exact rfl)(hL:∀w∈Li x',w∈L:=by first|exact λ_ h=>h|simp):PJ C (Exit.then (n8i C D Ei Hi Li Gi ok μ x) Q) .normal E D G L H:=PJ.again x' h0 hlt hE hH hG hL
variable {R:Ending->World->Prop} {fn:Func} {vs:List Value} {f:Nat}
theorem eN{P:Program}{N:Nat}{c:Code}{w:World}(hf:P.funcs[f]? =some fn)(hN:fn.ntmps=N)(h:CJ ⟨P,none,N⟩ c (bodyPost P fn R) (yx 0 vs) [] Gh.no [w] [])(hb:fn.body=some c:=by exact rfl)(hl:Nat.ble vs.length N=true:=by exact rfl):Calls P f vs.toArray w R:=enter hf hb hN hl h
theorem ef{P:Program}{N:Nat}{c:Code}{w:World}{K:Prop}(n:Nat)(hf:P.funcs[f]? =some fn)(hN:fn.ntmps=N)(k:K)(hb:fn.body=some c:=by exact rfl)(h:Ct n->ZW K->CJ ⟨P,none,N⟩ c (bodyPost P fn R) (yx 0 vs) [] Gh.no [w] []:=by intro Cz Kz;refine Xl Cz ?_;exact Kz.p)(hl:Nat.ble vs.length N=true:=by exact rfl):Calls P f vs.toArray w R:=enter hf hb hN hl (h (.mk n) ⟨k⟩)
end
end Px
namespace Px
open Go Go.RowKit
abbrev ptr (b off:Nat):Value:=.pointer (some ⟨b,off,none⟩)
abbrev nL (P:Program) (t n:Nat):Prop:=∀w:World,(Go.sizeOf t).run P w= .ok n w
abbrev fe (P:Program) (t:Nat) (b:Bool):Prop:=∀w:World,(isAgg t).run P w= .ok b w
abbrev Ay (P:Program) (t:Nat) (v:Value):Prop:=∀w:World,(zeroValue t).run P w= .ok v w
theorem UQ(b off n:Nat):(⟨b,off,none⟩:Addr).add n=⟨b,off+n,none⟩:=by
 unfold Addr.add;split<;>simp_all
variable {cs:Array Value} {b:Nat} {fr:Nat×Nat} {W:World}
theorem Lj{t:Nat}(h:W.heap[b]? =some (.cells cs t fr))(i:Nat):W.cell? ⟨b,i,none⟩=cs[i]? :=by
 simp[World.cell?,h]
theorem nWe{P:Program}{t T off:Nat}{v:Value}(hA:fe P T false)(h:W.heap[b]? =some (.cells cs t fr))(hv:cs[off]? =some v):(loadVar T ⟨b,off,none⟩).run P W= .ok v W:=by
 have:W.cell? ⟨b,off,none⟩=some v:=by rw[Lj h,hv]
 simp[loadVar,hA,load,Sem.run,this]
theorem nCg{P:Program}{t off n:Nat}(h:W.heap[b]? =some (.cells cs t fr))(hn:off+n<=cs.size):(loadCells ⟨b,off,none⟩ n).run P W= .ok (cs.extract off (off+n)) W:=by
 have hl:(cs.extract off (off+n)).toList.length=n:=by simp;omega
 have:=run_loadCells_list (P:=P) W ⟨b,off,none⟩ (cs.extract off (off+n)).toList (λj v hv=>by
  rw[UQ,Lj h];have hj:j<n:=by
   have:=(gW.1 hv).1;omega
  rw[OZ,Array.getElem?_extract]at hv;simpa[show j<min (off+n) cs.size-off by omega]using hv)
 rw[hl]at this;rw[this,Array.toArray_toList]
def cut (cs:Array Value) (off n:Nat):Array Value:=((cs.toList.drop off).take n).toArray
theorem nyf(cs:Array Value)(off n:Nat):cs.extract off (off+n)=cut cs off n:=by grind [cut]
theorem nRf(cs:Array Value)(n:Nat)(h:cs.size=n):cut cs 0 n=cs:=by grind [cut]
theorem n8g{P:Program}{t T off n:Nat}(hA:fe P T true)(hZ:nL P T n)(h:W.heap[b]? =some (.cells cs t fr))(hn:off+n<=cs.size):(loadVar T ⟨b,off,none⟩).run P W= .ok (.agg (cut cs off n)) W:=by
 simp[loadVar,hA W,hZ W,nCg h hn,nyf]
def setCells (cs:Array Value) (off:Nat):List Value->Array Value
 | []=>cs
 |x::xs=>setCells (cs.setIfInBounds off x) (off+1) xs
theorem nke(cs:Array Value)(off:Nat)(xs:List Value):(setCells cs off xs).size=cs.size:=by induction xs generalizing cs off<;>grind [setCells]
def yN:Value->Bool
 | .agg _| .tuple _=>false
 |_=>true
def bD:List Value->Bool
 | []=>true
 |x::xs=>yN x&&bD xs
theorem nbp{P:Program}{t off:Nat}{v:Value}(h:W.heap[b]? =some (.cells cs t (0,0)))(mW:off<cs.size)(h1:yN v=true):(store ⟨b,off,none⟩ v).run P W= .ok () (W.setCell ⟨b,off,none⟩ v):=by
 have hc:W.cell? ⟨b,off,none⟩=some cs[off]:=by rw[Lj h];simp[mW]
 have hf:W.frozen? ⟨b,off,none⟩=false:=by simp[World.frozen?,h]
 cases v<;>simp_all[store,Sem.run,yN]
theorem ngh{t off:Nat}(v:Value)(h:W.heap[b]? =some (.cells cs t fr)):(W.setCell ⟨b,off,none⟩ v).heap[b]? =some (.cells (cs.setIfInBounds off v) t fr):=by
 have hlt:=(bA.1 h);simp only[World.setCell,awq,if_true,h];simp
theorem neh(W:World)(b off:Nat)(v:Value):aQ (· =b) W (W.setCell ⟨b,off,none⟩ v):=
 ⟨rfl,rfl,rfl,aj _,by simp[World.setCell],λk _ hk=>by
  simp only[World.setCell,awq];rw[if_neg (λe=>hk e.symm)]⟩
theorem nRc{P:Program}{b t off:Nat}:∀(xs:List Value) (i:Nat) (cs:Array Value) (W:World),W.heap[b]? =some (.cells cs t (0,0))->off+i+xs.length<=cs.size->bD xs=true->∃W',(storeCells ⟨b,off,none⟩ xs i).run P W= .ok () W'/\aQ (· =b) W W'/\W'.heap[b]? =some (.cells (setCells cs (off+i) xs) t (0,0))
 | [],i,cs,W,h,_,_=>⟨W,by simp[storeCells],aQ.refl _ _,h⟩
 |x::xs,i,cs,W,h,hn,h1=>by
  simp only[bD,mO]at h1;simp only[dO]at hn;have hs:=nbp (P:=P) h (show off+i<cs.size by omega) h1.1;obtain⟨W',hr,hk,hb⟩:=nRc (P:=P) (off:=off) xs (i+1) (cs.setIfInBounds (off+i) x) (W.setCell ⟨b,off+i,none⟩ x) (ngh x h) mV h1.2;refine⟨W',?_,(neh W b (off+i) x).trans hk,?_⟩
  ·unfold storeCells;rw[Sem.run_bind,UQ,hs];simpa using hr
  rw[hb,setCells];rfl
theorem nVl{P:Program}{t T off n:Nat}{v:Value}(hZ:nL P T n)(hv:v.cells.size=n)(h:W.heap[b]? =some (.cells cs t (0,0)))(hn:off+n<=cs.size)(h1:bD v.cells.toList=true):∃W',(storeVar T ⟨b,off,none⟩ v).run P W= .ok () W'/\aQ (· =b) W W'/\W'.heap[b]? =some (.cells (setCells cs off v.cells.toList) t (0,0)):=by
 obtain⟨W',hr,hk,hb⟩:=nRc (P:=P) (off:=off) v.cells.toList 0 cs W h (by simp[hv];omega) h1;exact⟨W',by simp[storeVar,hZ W,hv,hr],hk,hb⟩
section
variable {C:Cx} {Q:bC} {E:Env} {D:List Deferred} {G:Gh} {L:List World} {H:ad} {ops:Array Oper} {l:List Oper}
variable {d T ty:Nat} {pos:String} {aC:Array Edge} {g:Option (Nat×Bool)} {x y:Operand}
variable {op:Op}
theorem ru(hnd:∀c,op≠ .defer c)(hw:nr ops E g=some true)(hN:Nat.blt d C.N=true)(h:∀a W,Fits E a->St G L H W->∃v W' L' H',(execOp a.eval ⟨some d,op,ty,pos,aC,g⟩).run C.P W= .ok (.value v) W'/\St G L' H' W'/\OJ C ops Q l ((d,v)::E) D G L' H'):OJ C ops Q (⟨some d,op,ty,pos,aC,g⟩::l) E D G L H:=by
 intro a W jz hD hF hS;obtain⟨v,W',L',H',hr,hQ,k⟩:=h a W hF hS;unfold wpListIn;rw[if_pos (BB hF hw)];refine⟨λ_ _=>trivial,?_⟩;rw[Oper.semAt_eq _ _ _ hnd,hr,Oper.uponIn_value];exact k (a.put (some d) v) W' z8 z6 (hF.put _ z7) hQ
theorem St.offNew(h:St G L H W):bM H W.heap.size:=bM.of_mem λhm=>by
 obtain⟨p,hp,e⟩:=bT.1 hm;have:=h.lt p hp;omega
theorem St.mNew(h:St G L H W):¬G.X W.heap.size:=λhm=>by have:=h.xlt _ hm;omega
variable {a:Act}
theorem nTj{P:Program}{v:Value}(hx:a.eval x=v):(execOp a.eval ⟨some d,.box T x,ty,pos,aC,g⟩).run P W= .ok (.value (ptr W.heap.size 0)) (W.alloc (.cells v.cells T (0,0))):=by
 simp[execOp,hx,Instr.box,newVar,newRow,newObj,Sem.run]
variable {z:Value}
theorem nxp{P:Program}(hz:Ay P T z):(execOp a.eval ⟨some d,.alloc T,ty,pos,aC,g⟩).run P W= .ok (.value (ptr W.heap.size 0)) (W.alloc (.cells z.cells T (0,0))):=by
 simp[execOp,Instr.alloc,hz W,newVar,newRow,newObj,Sem.run]
section
variable {v:Value}(hw:nr ops E g=some true)(hN:Nat.blt d C.N=true)(hx:ev E x=some v)
include v hw hN hx
theorem UR(k:∀(b:Nat) (w1:World),w1.heap[b]? =some (.cells v.cells T (0,0))->ah L b->bM H b->¬G.X b->w1.heap.size=b+1->OJ C ops Q l ((d,ptr b 0)::E) D G (w1::L) H):OJ C ops Q (⟨some d,.box T x,ty,pos,aC,g⟩::l) E D G L H:=
 ru zJ hw hN λ_ W hF hS=>⟨_,_,_,_,nTj (hF.ev hx),(hS.step (n4c W _)).snap,
  k W.heap.size _ (heap_alloc_new W _) hS.sizes hS.offNew hS.mNew zJ⟩
theorem Ki(k:∀(b:Nat),ah L b->bM H b->OJ C ops Q l ((d,ptr b 0)::E) D G L ((b,.cells v.cells T (0,0))::H)):OJ C ops Q (⟨some d,.box T x,ty,pos,aC,g⟩::l) E D G L H:=
 ru zJ hw hN λ_ W hF hS=>⟨_,_,_,_,nTj (hF.ev hx),hS.alloc _,k W.heap.size hS.sizes hS.offNew⟩
end
theorem acO(hz:Ay C.P T z)(hw:nr ops E g=some true)(hN:Nat.blt d C.N=true)(k:∀(b:Nat),ah L b->bM H b->OJ C ops Q l ((d,ptr b 0)::E) D G L ((b,.cells z.cells T (0,0))::H)):OJ C ops Q (⟨some d,.alloc T,ty,pos,aC,g⟩::l) E D G L H:=
 ru zJ hw hN λ_ W _ hS=>⟨_,_,_,_,nxp hz,hS.alloc _,k W.heap.size hS.sizes hS.offNew⟩
variable {f:Nat}
theorem cR{off n:Nat}{fs:Array Field}{fi:Field}(hU:C.P.underlying T=some (.struct fs))(hf:fs[f]? =some fi)(hZ:nL C.P fi.type (n+1))(hx:ev E x=some (ptr b off)):RV C G L H E (.fieldAddr T x f) (ptr b (off+fi.offset)):=λd ty pos aC g a W hF hS=>by
 exact(λa W hF _=>by
  simp[execOp,hF.ev hx,Instr.fieldAt,run_underlying hU,hf,Instr.sureAddr,fieldPlace,hZ W,UQ]:∀(a:Act) (W:World),Fits E a->St G L H W->(execOp a.eval ⟨some d,.fieldAddr T x f,ty,pos,aC,g⟩).run C.P W= .ok (.value (ptr b (off+fi.offset))) W) a W hF hS
variable {K:IntKind} {e:Nat}
theorem uY{off len n:Nat}{i:Int}(hU:C.P.underlying T=some (.array len e))(hZ:nL C.P e n)(hx:ev E x=some (ptr b off))(hy:ev E y=some (.int K i))(h0:0<=i)(h1:i<len):RV C G L H E (.indexAddr T x y) (ptr b (off+i.toNat*n)):=λd ty pos aC g a W hF hS=>by
 exact(λa W hF _=>by
  simp[execOp,hF.ev hx,hF.ev hy,Instr.indexAt,asIntOf,run_underlying hU,Instr.sureAddr,h0,h1,hZ W,UQ]:∀(a:Act) (W:World),Fits E a->St G L H W->(execOp a.eval ⟨some d,.indexAddr T x y,ty,pos,aC,g⟩).run C.P W= .ok (.value (ptr b (off+i.toNat*n))) W) a W hF hS
theorem bK{off len cap n:Nat}{i:Int}(hU:C.P.underlying T=some (.slice e))(hZ:nL C.P e n)(hx:ev E x=some (.slice (some ⟨b,off,none⟩) len cap))(hy:ev E y=some (.int K i))(h0:0<=i)(h1:i<len):RV C G L H E (.indexAddr T x y) (ptr b (off+i.toNat*n)):=λd ty pos aC g a W hF hS=>by
 exact(λa W hF _=>by
  simp[execOp,hF.ev hx,hF.ev hy,Instr.indexAt,asIntOf,run_underlying hU,h0,h1,hZ W,UQ]:∀(a:Act) (W:World),Fits E a->St G L H W->(execOp a.eval ⟨some d,.indexAddr T x y,ty,pos,aC,g⟩).run C.P W= .ok (.value (ptr b (off+i.toNat*n))) W) a W hF hS
variable {xs:List Operand} {vs:List Value}
theorem acP{fn:Fn}(ha:jy E xs=some vs):RV C G L H E (.makeFunc fn #[] xs.toArray) (.func fn #[] vs.toArray):=λd ty pos aC g a W hF _=>by
 have h2:(xs.toArray).map a.eval=vs.toArray:=by rw[DH,NL hF xs vs ha]
 simp[execOp,Instr.makeFunc,h2]
/-! #### loads -/
theorem nVg{P:Program}{t off:Nat}{v:Value}(hA:fe P T false)(hx:a.eval x=ptr b off)(h:W.heap[b]? =some (.cells cs t fr))(hv:cs[off]? =some v):(execOp a.eval ⟨some d,.load T x,ty,pos,aC,g⟩).run P W= .ok (.value v) W:=by
 simp[execOp,hx,Instr.loadAt,Instr.sureAddr,nWe hA h hv]
theorem nSg{P:Program}{t off n:Nat}(hA:fe P T true)(hZ:nL P T n)(hx:a.eval x=ptr b off)(h:W.heap[b]? =some (.cells cs t fr))(hn:off+n<=cs.size):(execOp a.eval ⟨some d,.load T x,ty,pos,aC,g⟩).run P W= .ok (.value (.agg (cut cs off n))) W:=by
 simp[execOp,hx,Instr.loadAt,Instr.sureAddr,n8g hA hZ h hn]
variable {w1:World}
theorem ar{off t:Nat}{v:Value}(hA:fe C.P T false)(hx:ev E x=some (ptr b off))(hm:w1∈L)(hb:w1.heap[b]? =some (.cells cs t fr))(hG:¬G.X b)(hO:bM H b)(hv:cs[off]? =some v):RV C G L H E (.load T x) (v):=λd ty pos aC g a W hF hS=>by
 exact(λ_ _ hF hS=>nVg hA (hF.ev hx) (hS.old hm hb hG hO) hv:∀(a:Act) (W:World),Fits E a->St G L H W->(execOp a.eval ⟨some d,.load T x,ty,pos,aC,g⟩).run C.P W= .ok (.value (v)) W) a W hF hS
theorem dy{off t n:Nat}(hA:fe C.P T true)(hZ:nL C.P T n)(hx:ev E x=some (ptr b off))(hm:w1∈L)(hb:w1.heap[b]? =some (.cells cs t fr))(hG:¬G.X b)(hO:bM H b)(hn:off+n<=cs.size):RV C G L H E (.load T x) (.agg (cut cs off n)):=λd ty pos aC g a W hF hS=>by
 exact(λ_ _ hF hS=>nSg hA hZ (hF.ev hx) (hS.old hm hb hG hO) hn:∀(a:Act) (W:World),Fits E a->St G L H W->(execOp a.eval ⟨some d,.load T x,ty,pos,aC,g⟩).run C.P W= .ok (.value (.agg (cut cs off n))) W) a W hF hS
variable {i:Nat}
theorem bU{off t:Nat}{v:Value}(hi:H[i]? =some (b,.cells cs t fr))(hA:fe C.P T false)(hx:ev E x=some (ptr b off))(hv:cs[off]? =some v):RV C G L H E (.load T x) (v):=λd ty pos aC g a W hF hS=>by
 exact(λ_ _ hF hS=>nVg hA (hF.ev hx) (hS.own _ (cA hi)) hv:∀(a:Act) (W:World),Fits E a->St G L H W->(execOp a.eval ⟨some d,.load T x,ty,pos,aC,g⟩).run C.P W= .ok (.value (v)) W) a W hF hS
theorem fH{off t n:Nat}(hi:H[i]? =some (b,.cells cs t fr))(hA:fe C.P T true)(hZ:nL C.P T n)(hx:ev E x=some (ptr b off))(hn:off+n<=cs.size):RV C G L H E (.load T x) (.agg (cut cs off n)):=λd ty pos aC g a W hF hS=>by
 exact(λ_ _ hF hS=>nSg hA hZ (hF.ev hx) (hS.own _ (cA hi)) hn:∀(a:Act) (W:World),Fits E a->St G L H W->(execOp a.eval ⟨some d,.load T x,ty,pos,aC,g⟩).run C.P W= .ok (.value (.agg (cut cs off n))) W) a W hF hS
theorem fb{t n:Nat}(hA:fe C.P T true)(hZ:nL C.P T n)(hx:ev E x=some (ptr b 0))(hm:w1∈L)(hb:w1.heap[b]? =some (.cells cs t fr))(hG:¬G.X b)(hO:bM H b)(hn:cs.size=n):RV C G L H E (.load T x) (.agg cs):=by
 have:=dy (E:=E) (C:=C) (H:=H) hA hZ hx hm hb hG hO aa;rw[nRf cs n hn]at this;exact this
theorem eB{t n:Nat}(hi:H[i]? =some (b,.cells cs t fr))(hA:fe C.P T true)(hZ:nL C.P T n)(hx:ev E x=some (ptr b 0))(hn:cs.size=n):RV C G L H E (.load T x) (.agg cs):=by
 have:=fH (E:=E) (C:=C) (H:=H) (L:=L) (G:=G) hi hA hZ hx aa;rw[nRf cs n hn]at this;exact this
theorem kT{off t n:Nat}{v:Value}(hi:H[i]? =some (b,.cells cs t (0,0)))(hZ:nL C.P T n)(hw:nr ops E g=some true)(hx:ev E x=some (ptr b off))(hy:ev E y=some v)(hv:v.cells.size=n)(hn:off+n<=cs.size)(h1:bD v.cells.toList=true)(k:OJ C ops Q l E D G L (H.set i (b,.cells (setCells cs off v.cells.toList) t (0,0)))):OJ C ops Q (⟨none,.store T x y,ty,pos,aC,g⟩::l) E D G L H:=
 NK rfl zJ hw (λa W hF hS=>by
  have hb:=hS.own _ (cA hi);obtain⟨W',hr,hk,eP⟩:=nVl (P:=C.P) (off:=off) hZ hv hb hn h1;refine⟨.skip,W',.inl rfl,?_,hS.put hi hk eP⟩;simp[execOp,hF.ev hx,hF.ev hy,Instr.storeAt,Instr.sureAddr,hr]) k
theorem CQ{off t:Nat}{v:Value}(hx:ev E x=some (ptr b off))(hi:H[i]? =some (b,.cells cs t fr))(hA:fe C.P T false)(hv:cs[off]? =some v):RV C G L H E (.load T x) v:=bU hi hA hx hv
theorem pY{t n:Nat}(hx:ev E x=some (ptr b 0))(hi:H[i]? =some (b,.cells cs t fr))(hA:fe C.P T true)(hZ:nL C.P T n)(hn:cs.size=n):RV C G L H E (.load T x) (.agg cs):=eB hi hA hZ hx hn
theorem uN{off t n:Nat}(hx:ev E x=some (ptr b off))(hi:H[i]? =some (b,.cells cs t fr))(hA:fe C.P T true)(hZ:nL C.P T n)(hn:off+n<=cs.size):RV C G L H E (.load T x) (.agg (cut cs off n)):=fH hi hA hZ hx hn
theorem anC{off t:Nat}{v:Value}(hx:ev E x=some (ptr b off))(hb:w1.heap[b]? =some (.cells cs t fr))(hA:fe C.P T false)(hm:w1∈L)(hG:¬G.X b)(hO:bM H b)(hv:cs[off]? =some v):RV C G L H E (.load T x) v:=ar hA hx hm hb hG hO hv
theorem US{t n:Nat}(hx:ev E x=some (ptr b 0))(hb:w1.heap[b]? =some (.cells cs t fr))(hA:fe C.P T true)(hZ:nL C.P T n)(hm:w1∈L)(hG:¬G.X b)(hO:bM H b)(hn:cs.size=n):RV C G L H E (.load T x) (.agg cs):=fb hA hZ hx hm hb hG hO hn
theorem acQ{off t n:Nat}(hx:ev E x=some (ptr b off))(hb:w1.heap[b]? =some (.cells cs t fr))(hA:fe C.P T true)(hZ:nL C.P T n)(hm:w1∈L)(hG:¬G.X b)(hO:bM H b)(hn:off+n<=cs.size):RV C G L H E (.load T x) (.agg (cut cs off n)):=dy hA hZ hx hm hb hG hO hn
end
variable {aC:Array Edge} {ops:Array Oper} {E:Env} {G:Gh} {H:ad} {D:List Deferred} {L:List World} {d ty:Nat} {op:Op} {g:Option (Nat×Bool)} {pos:String}
section
variable {C:Cx}{Q:bC}{l:List Oper}
theorem rvA{v:Value}(hnd:JM op=true)(hw:nr ops E g=some true)(hN:Nat.blt d C.N=true)(k:OJ C ops Q l ((d,v)::E) D G L H)(h:RV C G L H E op v:=by exact NM):OJ C ops Q (⟨some d,op,ty,pos,aC,g⟩::l) E D G L H:=rv hnd hw hN h k
theorem dp(v':Value)(k:OJ C ops Q l ((d,v')::E) D G L H)(h:RV C G L H E op v':=by exact RV.re NM P2)(hnd:JM op=true:=by exact rfl)(hw:nr ops E g=some true:=by exact rfl)(hN:Nat.blt d C.N=true:=by exact rfl):OJ C ops Q (⟨some d,op,ty,pos,aC,g⟩::l) E D G L H:=rv hnd hw hN h k
theorem zrC{v:Value}(_:Vt v)(k:OJ C ops Q l ((d,v)::E) D G L H)(h:RV C G L H E op v:=by exact RV.re NM P2)(hnd:JM op=true:=by exact rfl)(hw:nr ops E g=some true:=by exact rfl)(hN:Nat.blt d C.N=true:=by exact rfl):OJ C ops Q (⟨some d,op,ty,pos,aC,g⟩::l) E D G L H:=rv hnd hw hN h k
theorem rq{v:Value}(v':Value)(h:RV C G L H E op v)(e:v=v')(k:OJ C ops Q l ((d,v')::E) D G L H)(hnd:JM op=true:=by exact rfl)(hw:nr ops E g=some true:=by exact rfl)(hN:Nat.blt d C.N=true:=by exact rfl):OJ C ops Q (⟨some d,op,ty,pos,aC,g⟩::l) E D G L H:=rv hnd hw hN (RV.re h e) k
theorem rr{v:Value}(v':Value)(h:RV C G L H E op v)(k:OJ C ops Q l ((d,v')::E) D G L H)(e:v=v':=by exact rfl)(hnd:JM op=true:=by exact rfl)(hw:nr ops E g=some true:=by exact rfl)(hN:Nat.blt d C.N=true:=by exact rfl):OJ C ops Q (⟨some d,op,ty,pos,aC,g⟩::l) E D G L H:=rv hnd hw hN (RV.re h e) k
end
abbrev yv (l:Nat):Value:=.func (.yield l) #[] #[]
def SX (P:Program) (l:Nat) (vs:Array Value) (W:World) (Φ:Bool->World->Prop):Prop:=
 ∃fn tmps assign body,(Instr.yield l vs).run P W= .ok (.round l fn tmps assign body) W/\
  RoundIn (FW none) 0 P l fn tmps assign body W (λe W'=>∃b,e= .returned (.bool b)/\Φ b W')
variable {R:Ending->World->Prop}
theorem nRo{r:Option Nat}{n:Nat}{P:Program}{l:Nat}{f:FuncId}{tmps:Array Value}{assign body:Code}{w:World}:RoundIn (FW none) 0 P l f tmps assign body w R->RoundIn (FW r) n P l f tmps assign body w R:=by
 unfold RoundIn;all_goals simp_all[nZk,nvo]
section
variable {C:Cx} {Q:bC} {E:Env} {D:List Deferred} {G:Gh} {L:List World} {H:ad} {ops:Array Oper} {l:List Oper}
variable {d ty:Nat} {pos:String} {aC:Array Edge} {g:Option (Nat×Bool)} {x:Operand} {xs:List Operand} {vs:List Value} {eJ:Array Nat}
end
def gk (V:Nat->Prop) (R:World->Prop):Prop:=
 ∀W W':World,R W->W'.os=W.os->W'.tape=W.tape->W'.output=W.output->W.drawn<=W'.drawn->W.heap.size<=W'.heap.size->(∀k,V k->W'.heap[k]? =W.heap[k]?)->R W'
/-! #### the consumer -/
/-- the memory of a loop over an iterator: own blocks, the loop's record, and what else was laid -/
abbrev book (Hc:ad) (l:Nat) (rec:Loop) (bx:ad):ad:=Hc++(l,.loop rec)::bx
theorem JN(W:World)(b:Nat)(o:Obj):aQ (· =b) W (W.putObj b o):=
 ⟨rfl,rfl,rfl,aj _,by simp,λ_ _ hk=>World.putObj_heap_other hk⟩
theorem NN(Hc:ad)(l:Nat)(rec:Loop)(bx:ad):(book Hc l rec bx)[Hc.length]? =some (l,.loop rec):=by simp[book]
theorem IJ(Hc:ad)(l:Nat)(rec ml:Loop)(bx:ad):(book Hc l rec bx).set Hc.length (l,.loop ml)=book Hc l ml bx:=by simp[book]
theorem St.loop{Hc bx:ad}{l:Nat}{rec:Loop}(h:St G L (book Hc l rec bx) W)(ml:Loop):St G L (book Hc l ml bx) (W.putObj l (.loop ml)):=by
 have hl:l<W.heap.size:=h.lt (l,.loop rec) zJ;have:=h.put (NN Hc l rec bx) (JN W l (.loop ml)) (World.putObj_heap_same hl);rwa[IJ]at this
theorem St.loopAt{Hc bx:ad}{l:Nat}{rec:Loop}(h:St G L (book Hc l rec bx) W):W.heap[l]? =some (.loop rec):=h.own (l,.loop rec) zJ
section
variable {C:Cx} {α:Type} {E:Env} {D:List Deferred} {G:Gh} {L:List World} {Hc bx:ad} {W1:World} {Inv:List α->ad->Prop} {ew:Code->ad->Prop} {l:Nat} {rec ml:Loop} {pre:List α} {M:Nat->Prop}
theorem Om{body:Code}{Qb:bC}{K:bC}(hs:rec.state= .ready)(h:CJ C body Qb E D G L (book Hc l {rec with state:=.busy} bx)):PJ C (Exit.then (λa W=>∃W2,(Instr.beginRound l).run C.P W= .ok () W2/\body.wpIn (FW C.r) 0 C.P Qb a W2) K) .normal E D G L (book Hc l rec bx):=by
 intro a W hN hD hF hS;exact⟨_,run_beginRound hS.loopAt hs,h a _ hN hD hF (hS.loop _)⟩
end
theorem nUp{zs:List (Nat×Value)}:∀{E:Env} {a:Act},Fits E a->(∀p∈zs,p.1<a.tmps.size)->(zs.foldl (λt (p:Nat×Value)=>t.setIfInBounds p.1 p.2) a.tmps).size=a.tmps.size/\Fits (zs.reverse++E) ⟨zs.foldl (λt (p:Nat×Value)=>t.setIfInBounds p.1 p.2) a.tmps,[]⟩:=by
 induction zs with
 |nil=>intro E a h _;exact⟨rfl,λt v hv=>h t v hv⟩
 |cons p zs ih=>
  intro E a h hp;have h1:=h.put p.2 (hp p zJ);obtain⟨i1,i2⟩:=ih (E:=(p.1,p.2)::E) (a:=a.put (some p.1) p.2) h1 (λq hq=>by simp[Act.put];exact hp q (by simp[hq]));refine⟨by simpa[Act.put]using i1,?_⟩;simpa[Act.put]using i2
theorem vO(H:ad):lO H↔(H.map (·.1)).Nodup:=by
 rw[List.Nodup,List.pairwise_iff_getElem];constructor
 ·intro h i j hi hj hlt e;simp only[eO]at hi hj;have:=h i j H[i] H[j] (by simp[hi]) (by simp[hj]) (by simpa using e);omega
 intro h i j p q hi hj e;obtain⟨qD,VA⟩:=gW.1 hi;obtain⟨Vi,hj2⟩:=gW.1 hj;rcases Nat.lt_trichotomy i j with hlt|heq|hlt
 ·have hne:=h i j (by simpa using qD) (by simpa using Vi) hlt;rw[aAq,aAq,VA,hj2]at hne;exact absurd e hne
 ·exact heq
 have hne:=h j i (by simpa using Vi) (by simpa using qD) hlt;rw[aAq,aAq,VA,hj2]at hne;exact absurd e.symm hne
variable {H':ad}
theorem St.perm(h:St G L H W)(hp:H.Perm H'):St G L H' W where
 ghost:=h.ghost
 vlt:=h.vlt
 xlt:=h.xlt
 links:=λw hw=>(h.links w hw).mono λk _ hk=>hk.imp id (λhk=>(hp.map (·.1)).mem_iff.1 hk)
 own:=λp hm=>h.own p (hp.mem_iff.2 hm)
 nodup:=by rw[vO];exact(hp.map (·.1)).nodup_iff.1 ((vO H).1 h.nodup)
 apart:=λp hm=>h.apart p (hp.mem_iff.2 hm)
abbrev qX (Dk:Nat):Deferred:={target:=.collected Dk,args:=#[]}
abbrev ji (Dk:Nat):ad:=[(Dk,.deferred (some []))]
abbrev UT (C:Cx) (l:Nat) (body:Code) (Qb:bC):bC:=
 Exit.then (λa W=>∃W2,(Instr.beginRound l).run C.P W= .ok () W2/\body.wpIn (FW C.r) 0 C.P Qb a W2) (λ_ _ _=>False)
variable {fn:Func} {vs:List Value} {f:Nat}
/-! #### functions that leave with marks -/
theorem Qk{P:Program}{N:Nat}{c:Code}{w:World}(G:Gh)(H:ad)(hf:P.funcs[f]? =some fn)(hb:fn.body=some c)(hN:fn.ntmps=N)(hl:Nat.ble vs.length N=true)(hS:St G [w] H w)(h:CJ ⟨P,none,N⟩ c (bodyPostM (FW none) 0 P fn R) (yx 0 vs) [] G [w] H):Calls P f vs.toArray w R:=by
 exact zDh
section
variable {C:Cx} {fn:Func} {R:Ending->World->Prop} {E:Env} {G:Gh} {L:List World} {H:ad}
theorem n1g{P:Program}{tmps:Array Value}{Ds:List Nat}(hD:D=Ds.map qX):∀{H:ad} {W:World},St G L H W->(∀k∈Ds,(k,.deferred (some []))∈H)->Ds.Nodup->(∀W' H',St G L H' W'->(∀p∈H,(∀k∈Ds,p.1≠k)->p∈H')->H'.map (·.1)=H.map (·.1)->∃v,(results fn tmps).run P W'= .ok v W'/\R (.returned v) W')->LeavesInM (FW none) 0 P fn tmps R D .returning W:=by
 subst hD;induction Ds with
 |nil=>
  intro H W hS _ _ h;exact h W H hS (λp hp _=>hp) rfl
 |cons k Ds ih=>
  intro H W hS kL hnd h;obtain⟨hk,hnd⟩:=List.nodup_cons.1 hnd;have CH:=kL k zJ;obtain⟨i,hi⟩:=jG.1 CH;have fJ:W.heap[k]? =some (.deferred (some [])):=hS.own _ CH;have hlt:k<W.heap.size:=(bA.1 fJ).1;have hQ:=hS.put hi (JN W k (.deferred none)) (World.putObj_heap_same hlt);have lM:i<H.length:=(gW.1 hi).1;have P3:∀p∈H,p.1≠k->p∈H.set i (k,.deferred none):=by
   intro p hp hne;obtain⟨j,hj⟩:=jG.1 hp;refine jG.2 ⟨j,?_⟩;rw[UK]
   ·exact hj
   rintro rfl;rw[hi]at hj;cases hj;exact hne rfl
  have aW:(H.set i (k,.deferred none)).map (·.1)=H.map (·.1):=by
   rw[List.map_set];apply C3;intro j;by_cases e:i=j
   ·subst e;rw[amq (by simpa using lM)];simp[hi]
   rw[UK e]
  refine⟨by simp,.inl ⟨k,_,rfl,run_takeDeferred fJ,?_⟩⟩;refine ih hQ (λk' NO=>P3 _ (kL k' (by simp[NO])) (λe=>hk (e▸NO))) hnd ?_;intro W' H' anD hH' acS;refine h W' H' anD (λp hp hne=>hH' p (P3 p hp (hne k zJ)) (λk' NO=>hne k' (by simp[NO]))) (acS.trans aW)
theorem B3{Dk:Nat}{e:Exit}(he:e= .ret\/e= .normal)(hm:(Dk,.deferred (some []))∈H)(h:∀a W H',Fits E a->St G L H' W->(∀p∈H,p.1≠Dk->p∈H')->H'.map (·.1)=H.map (·.1)->∃v,(results fn a.tmps).run C.P W= .ok v W/\R (.returned v) W):PJ C (bodyPostM (FW none) 0 C.P fn R) e E [qX Dk] G L H:=by
 intro a W hN hD hF hS;have key:LeavesInM (FW none) 0 C.P fn a.tmps R a.defers .returning W:=
  n1g (Ds:=[Dk]) (by rw[hD];rfl) hS (λk hk=>by simp at hk;subst hk;exact hm) zJ (λW' H' hQ hH aW=>
   h a W' H' hF hQ (λp hp hne=>hH p hp (λk hk=>by simp at hk;subst hk;exact hne)) aW)
 exact z4h
theorem XB{Dk t:Nat}{v:Value}{e:Exit}(he:e= .ret\/e= .normal)(hr:fn.results=#[.tmp t])(hv:look E t=some v)(hm:(Dk,.deferred (some []))∈H)(h:∀W H',St G L H' W->H'.map (·.1)=H.map (·.1)->R (.returned v) W):PJ C (bodyPostM (FW none) 0 C.P fn R) e E [qX Dk] G L H:=
 B3 he hm λa W H' hF hS _ aW=>⟨v,by rw[results_tmp hr];exact congrArg (λu=>Result.ok u W) (hF t v hv),h W H' hS aW⟩
end
def X (C:Cx) (ops:Array Oper) (G:Gh) (L:List World) (H:ad) (E:Env) (Pre:World->Prop) (o:Oper) (Φ:Value->World->Prop):Prop:=
 ∀(a:Act) (W:World) (K:Act->World->Prop) (Q:bC),a.tmps.size=C.N->Fits E a->St G L H W->Pre W->
  (∀v W',Below W.heap.size W W'->Φ v W'->K (a.put o.dst v) W')->
  if Region.wanted o (yielded ops a.tmps)then o.wpIn (FW C.r) 0 C.P a W K Q else K (a.put o.dst undef) W
section
variable {C:Cx} {G:Gh} {L:List World} {H:ad} {E:Env} {Pre:World->Prop} {ops:Array Oper} {Φ:Value->World->Prop}
variable {d ty:Nat} {op:Op} {pos:String} {aC:Array Edge} {g:Option (Nat×Bool)}
theorem X.val{v:Value}(hnd:JM op=true)(hw:nr ops E g=some true)(hr:RV C G L H E op v)(hΦ:∀W,Pre W->Φ v W):X C ops G L H E Pre ⟨some d,op,ty,pos,aC,g⟩ Φ:=by
 intro a W K Q _ hF hS hP hk;rw[if_pos (BB hF hw)];refine⟨λ_ _=>trivial,?_⟩;rw[Oper.semAt_eq _ _ _ (IG hnd),hr d ty pos aC g a W hF hS,Oper.uponIn_value];exact hk v W (Below.refl _ _) (hΦ W hP)
theorem X.v{v:Value}(hr:RV C G L H E op v)(hnd:JM op=true:=by rfl)(hw:nr ops E g=some true:=by rfl):X C ops G L H E Pre ⟨some d,op,ty,pos,aC,g⟩ (λu _=>u=v):=X.val hnd hw hr λ_ _=>rfl
theorem X.off(hw:nr ops E g=some false)(hΦ:∀W,Pre W->Φ undef W):X C ops G L H E Pre ⟨some d,op,ty,pos,aC,g⟩ Φ:=by
 intro a W K Q _ hF hS hP hk;all_goals grind [BB,Below.refl]
variable {f:Nat} {xs:List Operand} {vs:List Value} {eJ:Array Nat}
theorem X.call{R:World->Ending->World->Prop}(aA:eU C.P f)(hw:nr ops E g=some true)(ha:jy E xs=some vs)(hc:∀W,St G L H W->Pre W->Calls C.P f vs.toArray W (R W))(hR:∀W e W',R W e W'->Pre W->∃v,e= .returned v/\Below W.heap.size W W'/\Φ v W'):X C ops G L H E Pre ⟨some d,.call ⟨.value (.func f),xs.toArray,eJ⟩,ty,pos,aC,g⟩ Φ:=by
 intro a W K Q _ hF hS hP hk;rw[if_pos (BB hF hw)];refine⟨λ_ _=>trivial,?_⟩;have hr:(execOp a.eval ⟨some d,.call ⟨.value (.func f),xs.toArray,eJ⟩,ty,pos,aC,g⟩).run C.P W= .ok (.enter f vs.toArray) W:=by
  have h2:(xs.toArray).map a.eval=vs.toArray:=by rw[DH,NL hF xs vs ha]
  simp only[execOp,resolve,Act.eval,Deferred.ofValue,h2];simp[invoke,aA _ W]
 rw[Oper.semAt_eq _ _ _ zJ,hr,Oper.uponIn_enter];refine⟨by simp,NJ.2 ((hc W hS hP).mono ?_)⟩;intro e W' h;obtain⟨v,rfl,hb,hv⟩:=hR W e W' h hP;exact hk v W' hb hv
theorem nf{v:Value}(aA:eU C.P f)(hw:nr ops E g=some true)(ha:jy E xs=some vs)(hc:∀W,St G L H W->Pre W->Calls C.P f vs.toArray W (aP W v))(hΦ:∀W,Φ v W):X C ops G L H E Pre ⟨some d,.call ⟨.value (.func f),xs.toArray,eJ⟩,ty,pos,aC,g⟩ Φ:=
 X.call aA hw ha hc λ_ _ W' h _=>⟨v,h.1,h.2,hΦ W'⟩
end
theorem nDl{p q:Nat->Bool}:∀(l:List Nat),(∀k∈l,q k=true->p k=true)->l.countP q<=l.countP p:=
 by intro x;induction x<;>(intros;grind)
theorem nEg{p q:Nat->Bool}:∀(l:List Nat),(∀k∈l,q k=true->p k=true)->(∃k∈l,p k=true/\q k=false)->l.countP q<l.countP p
 | [],_,h=>by obtain⟨k,hk,_⟩:=h;cases hk
 |k::l,h,hx=>by
  have aoT:=nDl (p:=p) (q:=q) l λj hj=>h j (by simp[hj]);simp only[List.countP_cons];obtain⟨j,hj,hp,hq⟩:=hx;rcases cd.1 hj with rfl|hj
  ·simp[hp,hq];omega
  have ih:=nEg l (λj hj=>h j (by simp[hj])) ⟨j,hj,hp,hq⟩;cases hqk:q k with
  |false=>simp;omega
  |true=>simp[h k zJ hqk];omega
def BC (N:Nat):List Oper->Bool
 | []=>true
 |o::l=>(match o.dst with|some d=>Nat.blt d N|none=>true)&&BC N l
theorem nJp{N:Nat}:∀{l:List Oper},BC N l=true->∀o∈l,∀d,o.dst=some d->d<N:=
 by intro x;induction x<;>(intros;grind [BC,nW])
def Ub:List Nat->Nat->Nat
 | [],_=>0
 |c::ch,j=>match Nat.beq c j with|true=>0|false=>Ub ch j+1
theorem nQe:∀(ch:List Nat) (k c:Nat),ch[k]? =some c->ch.Nodup->Ub ch c=k:=
 by intro x;induction x<;>(intros;grind [Ub,NI,UJ])
def ntj:List Nat->Bool
 | []=>true
 |c::ch=>ch.all (λj=> !Nat.beq c j)&&ntj ch
theorem IK:∀{ch:List Nat},ntj ch=true->ch.Nodup:=
 by intro x;induction x<;>(intros;grind [ntj,NI])
variable {a:Act}
theorem nrj{F:Fence}{n:Nat}{P:Program}{Q Q':bC}{o:Oper}{w:World}{K K':Act->World->Prop}(h:∀a w,K a w->K' a w)(hq:∀c a w,Q (.panic c) a w->Q' (.panic c) a w)(hl:LetsOut Q->LetsOut Q')(hh:o.wpIn F n P a w K Q):o.wpIn F n P a w K' Q':=by
 unfold Oper.wpIn at *;refine⟨hh.1,?_⟩;have hh:=hh.2;generalize (o.semAt F.round a.eval).run P w=r at *;cases r with
 |ok x w'=>
  cases x<;>simp only[Oper.uponIn]at hh ⊢ <;>
   first
    |exact h _ _ hh
    |exact⟨hh.1,CallsIn.mono hh.2 (λe w'' he=>by cases e<;>first|exact h _ _ he|exact hq _ _ _ he|exact hl he)⟩
    |exact⟨hh.1,RowsIn.mono hh.2 (λ_ _ he=>h _ _ he)⟩
    |exact⟨hh.1,RoundIn.mono hh.2 (λe w'' he=>by cases e<;>first|exact h _ _ he|exact hq _ _ _ he|exact hl he)⟩
 |halt x w'=>cases x<;>simp only[Oper.uponIn]at hh ⊢ <;>first|exact hh|exact hq _ _ _ hh
def Qn (Q:bC) (K:Act->World->Prop):bC:=λe a w=>match e with| .normal=>K a w|e=>Q e a w
/-! ### regions that draw their order -/
/-- what an operation stands behind -/
def wI (o:Oper):List Nat:=(o.after.toList.filter (λe=>Region.binds .any e)).map (·.on)
def pe (n0:Nat) (o:Oper):List Nat:=(wI o).filter (Nat.ble n0)
def Xm (acc:List Nat):List Nat->Nat
 | []=>0
 |j::js=>(1<<<j)|||acc.getD j 0|||Xm acc js
def NS:List Oper->List Nat->List Nat
 | [],acc=>acc
 |o::l,acc=>NS l (acc++[Xm acc (wI o)])
theorem ncj(acc:List Nat)(b:Nat):∀js,(Xm acc js).testBit b=true->∃d∈js,d=b\/(acc.getD d 0).testBit b=true
 | [],h=>by simp[Xm]at h
 |j::js,h=>by
  simp only[Xm,Nat.testBit_or,Bool.or_eq_true]at h;rcases h with(h|h)|h
  ·refine⟨j,by simp,.inl ?_⟩;rw[Nat.testBit_shiftLeft]at h;simp only[mO,decide_eq_true_eq]at h;obtain⟨h1,h2⟩:=h;have:b-j=0:=by
    rcases Nat.eq_zero_or_pos (b-j)with h0|h0
    ·exact h0
    rw[Nat.testBit_one_eq_true_iff_self_eq_zero]at h2;omega
   omega
  ·exact⟨j,by simp,.inr h⟩
  obtain⟨d,hd,h⟩:=ncj acc b js h;exact⟨d,by simp[hd],h⟩
theorem nag(ops:List Oper)(D:Nat->Prop)(hD:∀(k:Nat) (o:Oper),ops[k]? =some o->D k->∀j∈wI o,D j)(hlt:∀(i:Nat) (o:Oper),ops[i]? =some o->∀j∈wI o,j<i):∀(l:List Oper) (acc:List Nat),ops.drop acc.length=l->(∀(k:Nat) (o:Oper),ops[k]? =some o->k<acc.length->(∀j∈wI o,D j)->∀j,(acc.getD k 0).testBit j=true->D j)->∀(k:Nat) (o:Oper),ops[k]? =some o->(∀j∈wI o,D j)->∀j,((NS l acc).getD k 0).testBit j=true->D j
 | [],acc,hl,hP=>by
  intro k o ho hr j hj;have:=aCq.1 hl;exact hP k o ho (by have:=(gW.1 ho).1;omega) hr j hj
 |o::l,acc,hl,hP=>by
  have ho0:ops[acc.length]? =some o:=by
   have:(ops.drop acc.length)[0]? =some o:=by rw[hl];rfl
   simpa using this
  refine nag ops D hD hlt l (acc++[Xm acc (wI o)]) (by rw[cO,<-Wo,hl];rfl) ?_;intro k o' xI hk hr j hj;simp only[cO,List.length_singleton]at hk;by_cases e:k=acc.length
  ·subst e;rw[ho0]at xI;cases xI;obtain⟨d,hd,h⟩:=ncj acc j _ (by simpa using hj);have anH:=hlt _ _ ho0 d hd;rcases h with rfl|h
   ·exact hr _ hd
   have dH:ops[d]? =some (ops[d]'(by have:=(gW.1 ho0).1;omega)):=lj _;exact hP d _ dH anH (hD d _ dH (hr _ hd)) j h
  exact hP k o' xI aa hr j (by rwa[List.getD_eq_getElem?_getD,TF aa,<-List.getD_eq_getElem?_getD]at hj)
abbrev Sp:=List (Option Value)
abbrev UU:=List (Option Value)->List World->ad->Prop
def mL (sp:Sp) (ch:List Nat) (cv:List (Option Value)) (j:Nat):Value:=
 match sp[j]? with
 |some (some u)=>u
 |_=>((cv[Ub ch j]?).join).getD undef
def da (ops:Array Oper) (sp:Sp) (ch:List Nat) (cv:List (Option Value)):List Nat->Env
 | []=>[]
 |j::js=>match(ops[j]?).bind (·.dst)with
  |some d=>(d,mL sp ch cv j)::da ops sp ch cv js
  |none=>da ops sp ch cv js
section
variable {C:Cx} {Q:bC} {E:Env} {D:List Deferred} {G:Gh} {L:List World} {H:ad} {l:List Oper} {ops:Array Oper} {sp:Sp} {ch:List Nat} {cv:List (Option Value)} {Ph:UU} {n0:Nat}
theorem ngf(d:Nat):∀js:List Nat,(look (da ops sp ch cv js) d=none/\∀j∈js,(ops[j]?).bind (·.dst)≠some d)\/∃j∈js,(ops[j]?).bind (·.dst)=some d/\look (da ops sp ch cv js) d=some (mL sp ch cv j)
 | []=>.inl ⟨rfl,by simp⟩
 |j::js=>by
  have ih:=ngf d js;unfold da;cases e:(ops[j]?).bind (·.dst)with
  |none=>grind
  |some t=>
   by_cases ht:t=d
   ·subst ht;exact .inr ⟨j,by simp,e,by simp[look,NI]⟩
   simp only[look,UJ ht];grind
theorem n7g(js:List Nat)(h:∀j∈js,∀d,(ops[j]?).bind (·.dst)=some d->a.eval (.tmp d)=mL sp ch cv j):Fits (da ops sp ch cv js) a:=λt v ht=>by
 rcases ngf (ops:=ops) (sp:=sp) (ch:=ch) (cv:=cv) t js with h1|⟨j,hj,hd,h1⟩
 ·rw[h1.1]at ht;cases ht
 rw[h1]at ht;cases ht;exact h j hj t hd
def H7 (rq:List Nat) (k:Nat) (cv:List (Option Value)):Bool:=((cv[k]?).join).isNone&&rq.all λj=>((cv[j]?).join).isSome
def NU (ops:List Oper) (ch:List Nat):Nat->List (List Nat)->Bool
 |_,[]=>true
 |k,rq::kS=>(match ch[k]? with|some c=>rq.all (λj=>match ch[j]? with|some c'=>((NS ops []).getD c 0).testBit c'|none=>false)|none=>false)&&NU ops ch (k+1) kS
theorem IL(ops:List Oper)(ch:List Nat):∀(kS:List (List Nat)) (n:Nat),NU ops ch n kS=true->∀(k c:Nat) (rq:List Nat),kS[k]? =some rq->ch[n+k]? =some c->∀j∈rq,∃c',ch[j]? =some c'/\((NS ops []).getD c 0).testBit c'=true
 | [],_,_,k,c,rq,h,_=>by simp at h
 |r::kS,n,h,k,c,rq,hk,hc=>by
  simp only[NU,mO]at h;cases k with
  |zero=>
   simp at hk;subst hk;rw[Nat.add_zero]at hc;rw[hc]at h;intro j hj;have h1:=h.1;simp only[uF]at h1;have:=h1 j hj;split at this
   ·rename_i c' Az;exact⟨c',Az,this⟩
   cases this
  |succ k=>exact IL ops ch kS (n+1) h.2 k c rq (by simpa using hk) (by rw[show n+1+k=n+(k+1) by omega];exact hc)
def MX (ch ds:List Nat) (cv:List (Option Value)):Bool:=ds.all λj=> !(ch.any λc=>Nat.beq c j)||((cv[Ub ch j]?).join).isSome
def BD (ch:List Nat):Nat->Sp->Bool
 |_,[]=>true
 |i,u::sp=>(match u with|none=>ch.any (λc=>Nat.beq c i)|some _=>ch.all (λc=> !Nat.beq c i))&&BD ch (i+1) sp
theorem n8j(ch:List Nat):∀(sp:Sp) (i:Nat),BD ch i sp=true->∀j u,sp[j]? =some u->(i+j∈ch↔u=none)
 | [],_,_,j,u,h=>by simp at h
 |u'::sp,i,h,j,u,hj=>by
  simp only[BD,mO]at h;cases j with
  |zero=>
   cases u'<;>simp at hj<;>subst hj<;>simp at h ⊢
   ·exact h.1
   exact λhm=>by have:=h.1 _ hm;simp at this
  |succ j=>rw[show i+(j+1)=i+1+j by omega];exact n8j ch sp (i+1) h.2 j u (by simpa using hj)
def BF (N:Nat) (l:List Oper) (n0 nA:Nat) (ch:List Nat) (sp:Sp) (kS:List (List Nat)) (E:Env):Bool:=
 Nat.beq sp.length nA&&(Nat.ble n0 nA&&(Nat.ble nA l.length&&(Nat.beq kS.length ch.length&&(ntj ch&&(BD ch 0 sp&&(NU l ch 0 kS&&(BC N l&&(ch.all (λc=>Nat.ble n0 c&&Nat.blt c nA)&&
 ((List.range l.length).all (λi=>match l[i]? with|none=>true|some o=>(wI o).all λj=>Nat.blt j i)&&
 ((List.range l.length).all (λi=>Nat.blt i nA||(List.range nA).all λj=>((NS l []).getD i 0).testBit j)&&
 (List.range nA).all λi=>Nat.blt i n0||match(l.toArray[i]?).bind (·.dst)with
  |none=>true
  |some d=>(look E d).isNone&&(List.range nA).all λj=>Nat.beq i j||(Nat.blt j n0||match(l.toArray[j]?).bind (·.dst)with|none=>true|some d'=> !Nat.beq d d')))))))))))
def NV (C:Cx) (ops:Array Oper) (Q:bC) (n:Nat) (a:Act) (W:World):Prop:=∀dh:Array Bool,dh.size=ops.size->(∀i,i<ops.size->(dh.getD i false=true↔i<n))->∀fuel:Nat,(List.range ops.size).countP (λi=> !dh.getD i false)<=fuel->wpAnyIn (FW C.r) 0 C.P .any ops Q fuel dh a W
def DJ (C:Cx) (ops:Array Oper) (Q:bC) (n:Nat) (E:Env) (D:List Deferred) (G:Gh) (L:List World) (H:ad):Prop:=∀a W,a.tmps.size=C.N->a.defers=D->Fits E a->St G L H W->NV C ops Q n a W
theorem CJ.dj{id:Nat}(hm:C.P.follows .mixedOrders=true)(h:DJ C l.toArray Q 0 E D G L H):CJ C (.region id l.toArray true) Q E D G L H:=by
 intro a W acV hD hF hS;refine wpIn_region_draw λt=>?_;simp only[Region.schedule,hm,Bool.true_or,if_true];refine wpAnyIn_sound l.toArray.size t _ a _ (h a _ acV hD hF (hS.step (EJ W _)) (Array.replicate l.toArray.size false) zJ (λi hi=>?_) _ (eE List.countP_le_length zJ));simp only[Array.getD_eq_getD_getElem?,Array.getElem?_replicate];split<;>simp
theorem nui(dh:Array Bool)(i:Nat)(kQ:dh.size=l.length):i∈Region.ready .any l.toArray dh↔∃o,l[i]? =some o/\dh.getD i false=false/\∀j∈wI o,dh.getD j false=true:=by
 simp only[Region.ready,uK,ux,mO,Bool.not_eq_true',wI,bT];constructor
 ·rintro⟨hi,hf,hr⟩;have Wj:i<l.length:=by simpa using hi
  refine⟨l[i],lj Wj,by simp[show i<dh.size by omega]at hf ⊢;exact hf,?_⟩;rintro _ ⟨e,he,rfl⟩;rw[Es,lj Wj]at hr;simp only[Ky,Option.getD_some,Array.all_eq_true_iff_forall_mem,Bool.or_eq_true,Bool.not_eq_true']at hr;simp only[Array.mem_toList_iff]at he;rcases hr e he.1 with h|h
  ·rw[he.2]at h;cases h
  exact h
 rintro⟨o,ho,hf,hr⟩;have Wj:=(gW.1 ho).1;refine⟨by simpa using Wj,by simp[show i<dh.size by omega]at hf ⊢;exact hf,?_⟩;rw[Es,ho];simp only[Ky,Option.getD_some,Array.all_eq_true_iff_forall_mem,Bool.or_eq_true,Bool.not_eq_true'];intro e he;by_cases hb:Region.binds .any e=true
 ·exact .inr (hr _ ⟨e,by simpa[hb]using he,rfl⟩)
 exact .inl (by simpa using hb)
variable {I:Array Bool->Act->World->Prop}
theorem nJl{Dn:Array Bool->Prop}(hb:∀(i:Nat) (o:Oper),l[i]? =some o->∀j∈wI o,j<i)(hs:∀dh a W,I dh a W->dh.size=l.length)(hd:∀dh a W,I dh a W->Dn dh->∀fuel,(List.range l.length).countP (λi=> !dh.getD i false)<=fuel->wpAnyIn (FW C.r) 0 C.P .any l.toArray Q fuel dh a W)(hn:∀dh a W,I dh a W->¬Dn dh->(∃k,k<l.length/\dh.getD k false=false)/\∀(i:Nat) (o:Oper),l[i]? =some o->dh.getD i false=false->(∀j∈wI o,dh.getD j false=true)->wpOpIn (FW C.r) 0 C.P l.toArray Q i (λa' W'=>I (dh.setIfInBounds i true) a' W') a W):∀(fuel:Nat) (dh:Array Bool) a W,I dh a W->(List.range l.length).countP (λi=> !dh.getD i false)<=fuel->wpAnyIn (FW C.r) 0 C.P .any l.toArray Q fuel dh a W:=by
 intro fuel;induction fuel with
 |zero=>
  intro dh a W hI hc;refine hd _ _ _ hI (Classical.byContradiction λh=>?_) _ hc;obtain⟨⟨k,hk,hf⟩,-⟩:=hn _ _ _ hI h;simpa[hf]using List.countP_eq_zero.1 (Nat.le_zero.1 hc) k (ux.2 hk)
 |succ fuel ih=>
  intro dh a W hI hc;by_cases cF:Dn dh
  ·exact hd _ _ _ hI cF _ hc
  obtain⟨⟨k,hk,TI⟩,hn⟩:=hn _ _ _ hI cF;have kQ:=hs _ _ _ hI;refine⟨λhr=>?_,λi hi=>?_⟩
  ·have all:∀i,i<l.length->dh.getD i false=true:=by
    intro i;induction i using Nat.strongRecOn with
    |_ i ih2=>
     intro hi;refine Classical.byContradiction λhf=>?_;have:=(nui dh i kQ).2 ⟨_,lj hi,by simpa using hf,λj hj=>by
      have:=hb i _ (lj hi) j hj;exact ih2 j this aa⟩
     rw[hr]at this;cases this
   rw[all k hk]at TI;cases TI
  obtain⟨o,ho,hf,hr⟩:=(nui dh i kQ).1 hi;have lM:=(gW.1 ho).1;refine wpOpIn_mono (λa' W' hI'=>ih _ a' W' hI' (Nat.le_of_lt_succ (qH (nEg _ (λk _ hk=>?_) ⟨i,ux.2 lM,by simp[hf],?_⟩) hc))) (hn i o ho hf hr)
  ·simp only[Array.getD_eq_getD_getElem?,aLq]at hk ⊢;grind
  simp only[Array.getD_eq_getD_getElem?,aLq];grind
variable {i:Nat}
theorem n4l(dh:Array Bool)(hi:i<dh.size)(k:Nat):(dh.setIfInBounds i true).getD k false=if k=i then true else dh.getD k false:=by
 simp only[Array.getD_eq_getD_getElem?,aLq];grind
theorem IM{K:Act->World->Prop}{o:Oper}(ho:l[i]? =some o)(h:wpListIn (FW C.r) 0 C.P l.toArray (Qn Q K) [o] a W):wpOpIn (FW C.r) 0 C.P l.toArray Q i K a W:=by
 unfold wpListIn at h;unfold wpOpIn;simp only[Es,ho];split
 ·rename_i hw;rw[if_pos hw]at h;exact nrj (λa' W' h=>h) (λ_ _ _ h=>h) zI h
 rename_i hw;rw[if_neg hw]at h;exact h
theorem nVk{n:Nat}{o:Oper}(ho:l[n]? =some o)(hb:∀(i:Nat) (o:Oper),l[i]? =some o->∀j∈wI o,j<i)(hk:∀i,n<i->i<l.length->((NS l []).getD i 0).testBit n=true)(h:wpOpIn (FW C.r) 0 C.P l.toArray Q n (NV C l.toArray Q (n+1)) a W):NV C l.toArray Q n a W:=by
 intro dh kQ sO fuel hc;have wZ:=(gW.1 ho).1;simp only[rh]at kQ sO hc;have h0:dh.getD n false=false:=Bool.eq_false_iff.2 λe=>by have:=(sO n wZ).1 e;omega
 refine nJl (I:=λdh a W=>dh.size=l.length/\((dh.getD n false=false/\(∀i,i<l.length->(dh.getD i false=true↔i<n))/\wpOpIn (FW C.r) 0 C.P l.toArray Q n (NV C l.toArray Q (n+1)) a W)\/(∀i,i<l.length->(dh.getD i false=true↔i<n+1))/\NV C l.toArray Q (n+1) a W))
  (Dn:=λdh=>dh.getD n false=true) hb (λ_ _ _ h=>h.1) (λdh a W hI hd=>?_) (λdh a W hI hd=>?_) fuel dh a W ⟨kQ,.inl ⟨h0,sO,h⟩⟩ hc
 ·rcases hI.2 with h1|h1
  ·rw[h1.1]at hd;cases hd
  exact λfuel hc=>h1.2 dh (by simpa using hI.1) (by simpa using h1.1) fuel (by simpa using hc)
 rcases hI.2 with h1|h1
 ·refine⟨⟨n,wZ,h1.1⟩,λi o' xI hf hr=>?_⟩;have lM:=(gW.1 xI).1;obtain rfl:i=n:=by
   rcases Nat.lt_trichotomy i n with h9|h9|h9
   ·rw[(h1.2.1 i lM).2 h9]at hf;cases hf
   ·exact h9
   have:=nag l (λj=>dh.getD j false=true) (λk o2 hk2 hd2 j hj=>?_) hb l [] rfl (λ_ _ _ hk=>by simp at hk) i o' xI hr n (hk i h9 lM)
   ·rw[h1.1]at this;cases this
   have sU:=(gW.1 hk2).1;have:=hb k o2 hk2 j hj;exact(h1.2.1 j aa).2 (by have:=(h1.2.1 k sU).1 hd2;omega)
  refine wpOpIn_mono (λa' W' h2=>⟨by simp[hI.1],.inr ⟨λk sU=>?_,h2⟩⟩) h1.2.2;rw[n4l dh (by rw[hI.1];exact lM)];by_cases e:k=i
  ·subst e;simp
  rw[if_neg e,h1.2.1 k sU];omega
 exact absurd ((h1.1 n wZ).2 aa) hd
theorem n2g{n:Nat}(hn:l.length<=n)(h:Q .normal a W):NV C l.toArray Q n a W:=by
 intro dh kQ sO fuel hc;have hz:Region.ready .any l.toArray dh=[]:=List.eq_nil_iff_forall_not_mem.2 λi hi=>by
  obtain⟨o,ho,hf,_⟩:=(nui dh i (by simpa using kQ)).1 hi;have lM:=(gW.1 ho).1;rw[(sO i (by simpa using lM)).2 aa]at hf;cases hf
 cases fuel with
 |zero=>exact⟨hz,h⟩
 |succ fuel=>exact⟨λ_=>h,λi hi=>absurd hi (by rw[hz];simp)⟩
theorem nSk(hb:∀(i:Nat) (o:Oper),l[i]? =some o->∀j∈wI o,j<i):∀(m n:Nat),l.length<=n+m->(∀i,n<=i->i<l.length->∀j,j<i->((NS l []).getD i 0).testBit j=true)->∀a W,wpListIn (FW C.r) 0 C.P l.toArray Q (l.drop n) a W->NV C l.toArray Q n a W
 |0,n,hm,_,a,W,h=>n2g aa (by rwa[aCq.2 aa]at h)
 |m+1,n,hm,hk,a,W,h=>by
  by_cases hn:l.length<=n
  ·exact n2g hn (by rwa[aCq.2 hn]at h)
  have ho:l[n]? =some (l[n]'aa):=lj _;rw[aNq aa]at h;refine nVk ho hb (λi h1 h2=>hk i aa h2 n h1) (wpOpIn_mono (λa' W' h2=>nSk hb m (n+1) aa (λi h1=>hk i aa) a' W' h2) ?_);unfold wpListIn at h;unfold wpOpIn;simp only[Es,ho];exact h
abbrev xJ (o:Oper) (v:Value) (E:Env):Env:=match o.dst with|some d=>(d,v)::E|none=>E
def uO (C:Cx) (ops:Array Oper) (G:Gh) (E:Env) (n0:Nat) (sp:Sp) (ch:List Nat) (Ph:UU):List Oper->Sp->Prop
 |o::l,some u::ss=>(∀cv L' H',cv.length=ch.length->MX ch (pe n0 o) cv=true->Ph cv L' H'->X C ops G L' H' (da ops sp ch cv (pe n0 o)++E) (λ_=>True) o (λv _=>v=u))/\uO C ops G E n0 sp ch Ph l ss
 |_::l,none::ss=>uO C ops G E n0 sp ch Ph l ss
 |_,_=>True
theorem nQn:∀(l:List Oper) (ss:Sp),uO C ops G E n0 sp ch Ph l ss->∀(i:Nat) (o:Oper) (u:Value),l[i]? =some o->ss[i]? =some (some u)->∀cv L' H',cv.length=ch.length->MX ch (pe n0 o) cv=true->Ph cv L' H'->X C ops G L' H' (da ops sp ch cv (pe n0 o)++E) (λ_=>True) o (λv _=>v=u)
 | [],_,_,i,o,u,hl,_=>by simp at hl
 |_::_,[],_,i,o,u,_,hs=>by simp at hs
 |o'::l,u'::ss,h,i,o,u,hl,hs=>by
  cases i with
  |zero=>simp at hl hs;subst hs;subst hl;exact h.1
  |succ i=>exact nQn l ss (by cases u'<;>first|exact h.2|exact h) i o u K7 (by simpa using hs)
abbrev CR (C:Cx) (l:List Oper) (G:Gh) (E:Env) (D:List Deferred) (n0:Nat) (sp:Sp) (ch:List Nat) (cv:List (Option Value)) (o:Oper) (K:Value->List World->ad->Prop) (L':List World) (H':ad):Prop:=
 ∀(F:Env) (Q':bC),(∀v ry rz,K v ry rz->PJ C Q' .normal (xJ o v (da l.toArray sp ch cv (pe n0 o)++(E++F))) D G ry rz)->OJ C l.toArray Q' [o] (da l.toArray sp ch cv (pe n0 o)++(E++F)) D G L' H'
def gR (C:Cx) (l:List Oper) (G:Gh) (E:Env) (D:List Deferred) (n0:Nat) (sp:Sp) (ch:List Nat) (kS:List (List Nat)) (Ph:UU):Nat->List Nat->Prop
 |_,[]=>True
 |k,c::rest=>(∀(rq:List Nat) (o:Oper),kS[k]? =some rq->l[c]? =some o->∀cv L' H',cv.length=ch.length->H7 rq k cv=true->Ph cv L' H'->CR C l G E D n0 sp ch cv o (λv=>Ph (cv.set k (some v))) L' H')/\gR C l G E D n0 sp ch kS Ph (k+1) rest
theorem nqo{kS:List (List Nat)}:∀(rest:List Nat) (n:Nat),gR C l G E D n0 sp ch kS Ph n rest->∀(k c:Nat) (rq:List Nat) (o:Oper),rest[k]? =some c->kS[n+k]? =some rq->l[c]? =some o->∀cv L' H',cv.length=ch.length->H7 rq (n+k) cv=true->Ph cv L' H'->CR C l G E D n0 sp ch cv o (λv=>Ph (cv.set (n+k) (some v))) L' H'
 | [],_,_,k,c,_,_,h,_,_=>by simp at h
 |c'::rest,n,h,k,c,rq,o,hk,hr,hl=>by
  cases k with
  |zero=>simp at hk;subst hk;exact h.1 rq o hr hl
  |succ k=>
   rw[show n+(k+1)=n+1+k by omega]at hr ⊢;exact nqo rest (n+1) h.2 k c rq o (by simpa using hk) hr hl
theorem DJ.net(nA:Nat)(kS:List (List Nat))(h0:Ph (ch.map λ_=>none) L H)(pure:uO C l.toArray G E n0 sp ch Ph (l.drop n0) (sp.drop n0))(step:gR C l G E D n0 sp ch kS Ph 0 ch)(fin:∀cv L' H',cv.length=ch.length->cv.all (λx=>x.isSome)=true->Ph cv L' H'->DJ C l.toArray Q nA (da l.toArray sp ch cv ((List.range nA).filter (Nat.ble n0))++E) D G L' H')(iR:BF C.N l n0 nA ch sp kS E=true):DJ C l.toArray Q n0 E D G L H:=by
 simp only[BF,mO,uF,ux,Nat.beq_eq,Nat.ble_eq,Nat.blt_eq,Bool.or_eq_true]at iR;obtain⟨wG,hn0,hnA,hrq,hnd,Dy,anN,hN,sw,hb,acW,acX⟩:=iR;have hnd:=IK hnd;have back:∀(i:Nat) (o:Oper),l[i]? =some o->∀j∈wI o,j<i:=λi o ho j hj=>by
  have:=hb i (gW.1 ho).1;simp only[ho,uF,Nat.blt_eq]at this;exact this j hj
 have apart:∀i d,n0<=i->i<nA->(l.toArray[i]?).bind (·.dst)=some d->look E d=none/\∀j,n0<=j->j<nA->(l.toArray[j]?).bind (·.dst)=some d->i=j:=by
  intro i d h1 h2 h3;have h4:=(acX i h2).resolve_left aa;simp only[h3,mO,uF,ux,Nat.beq_eq,Nat.blt_eq,Bool.or_eq_true]at h4;refine⟨by simpa using h4.1,λj h5 h6 h7=>?_⟩;have:=h4.2 j h6;simp only[h7,Nat.beq_refl]at this
  grind
 let done:=λ(dh:Array Bool)=>(List.range nA).filter λj=>Nat.ble n0 j&&dh.getD j false
 let I:Array Bool->Act->World->Prop:=λdh a W=>dh.size=l.length/\(∀(k:Nat) (o:Oper),l[k]? =some o->dh.getD k false=true->∀j∈wI o,dh.getD j false=true)/\(∀i,i<n0->dh.getD i false=true)/\(∀i,nA<=i->dh.getD i false=false)/\
  ∃cv L' H',a.tmps.size=C.N/\a.defers=D/\Fits E a/\Ph cv L' H'/\St G L' H' W/\cv.length=ch.length/\(∀(k c:Nat),ch[k]? =some c->(dh.getD c false=true↔∃v,cv[k]? =some (some v)))/\∀j∈done dh,∀d,(l.toArray[j]?).bind (·.dst)=some d->a.eval (.tmp d)=mL sp ch cv j
 have eV:∀dh a W,I dh a W->¬(∀k,k<nA->dh.getD k false=true)->(∃k,k<l.length/\dh.getD k false=false)/\∀(i:Nat) (o:Oper),l[i]? =some o->dh.getD i false=false->(∀j∈wI o,dh.getD j false=true)->
  wpOpIn (FW C.r) 0 C.P l.toArray Q i (λa' W'=>I (dh.setIfInBounds i true) a' W') a W:=by
  rintro dh a W ⟨kQ,mA,I6,Xx,cv,L',H',h1,h2,h3,h4,h5,h6,h7,h8⟩ cF;obtain⟨k0,hk0,JT⟩:∃k,k<nA/\dh.getD k false=false:=by simpa using cF
  refine⟨⟨k0,by omega,JT⟩,λi o ho JO hrd=>?_⟩;have lM:=(gW.1 ho).1;have hi0:n0<=i:=Nat.le_of_not_lt λh=>by rw[I6 i h]at JO;cases JO
  have mask:=nag l (λj=>dh.getD j false=true) mA back l [] rfl (λ_ _ _ hk=>by simp at hk) i o ho hrd;have xw:i<nA:=(acW i lM).resolve_right λh=>by
   have:=mask k0 (h k0 hk0);rw[JT]at this;cases this
  have gs:=n4l dh (i:=i) aa;have UW:∀j∈done dh,n0<=j/\j<nA/\dh.getD j false=true:=λj hj=>by simp only[done,uK,ux,mO,Nat.ble_eq]at hj;exact⟨hj.2.1,hj.1,hj.2.2⟩
  have iP:∀j∈pe n0 o,j∈done dh:=λj hj=>by
   obtain⟨h9,h10⟩:=uK.1 hj;have:=back i o ho j h9;exact uK.2 ⟨ux.2 aa,by rw[h10,hrd j h9];rfl⟩
  have bP:Fits (da l.toArray sp ch cv (pe n0 o)) a:=n7g _ λj hj=>h8 j (iP j hj);have hF:Fits (da l.toArray sp ch cv (done dh)) a:=n7g _ h8
  -- after it
  have next:∀js v cv' ry rz a' W',(∀j∈js,j∈done dh)->a'.tmps.size=C.N->a'.defers=D->Fits (xJ o v (da l.toArray sp ch cv js++(E++da l.toArray sp ch cv (done dh)))) a'->Ph cv' ry rz->St G ry rz W'->cv'.length=ch.length->
   (∀(k c:Nat),ch[k]? =some c->((c=i\/dh.getD c false=true)↔∃v,cv'[k]? =some (some v)))->mL sp ch cv' i=v->(∀j∈done dh,mL sp ch cv' j=mL sp ch cv j)->I (dh.setIfInBounds i true) a' W':=by
   intro js v cv' ry rz a' W' kj k1 k2 k3 k4 k5 k6 k7 k8 k9;have hne:∀j d,n0<=j->j<nA->(l.toArray[j]?).bind (·.dst)=some d->j≠i->o.dst≠some d:=λj d e1 e2 e3 e4 e5=>e4 ((apart j d e1 e2 e3).2 i hi0 xw (by simp[ho,e5]));have CS:∀t u,o.dst≠some t->look (da l.toArray sp ch cv js++(E++da l.toArray sp ch cv (done dh))) t=some u->a'.eval (.tmp t)=u:=λt u e1 e2=>k3 t u (by
    unfold xJ;split
    ·rename_i d hd;simp only[look,UJ (show ¬d=t from λe=>e1 (e▸hd))];exact e2
    exact e2)
   refine⟨by simp[kQ],λk o' xI hk j hj=>?_,λj hj=>by rw[gs,I6 j hj];simp,λj hj=>by rw[gs,if_neg aa];exact Xx j hj,cv',ry,rz,k1,k2,λt u hu=>?_,k4,k5,k6,λk c hc=>?_,λj hj d hd=>?_⟩
   ·rw[gs]at hk ⊢;by_cases e:k=i
    ·subst e;rw[ho]at xI;cases xI;rw[hrd j hj];simp
    rw[if_neg e]at hk;rw[mA k o' xI hk j hj];simp
   ·refine CS t u (λe=>?_) ?_
    ·rw[(apart i t hi0 xw (by simp[ho,e])).1]at hu;cases hu
    rcases ngf (ops:=l.toArray) (sp:=sp) (ch:=ch) (cv:=cv) t js with h9|⟨q,hq,hqd,h9⟩
    ·rw[n6c,n6c,h9.1,hu];rfl
    rw[(apart q t (UW q (kj q hq)).1 (UW q (kj q hq)).2.1 hqd).1]at hu;cases hu
   ·rw[gs,<-k7 k c hc];split<;>simp[*]
   have yC:n0<=j/\j<nA/\(j=i\/dh.getD j false=true):=by
    simp only[done,uK,ux,gs,mO,Nat.ble_eq]at hj;exact⟨hj.2.1,hj.1,by have:=hj.2.2;split at this<;>simp[*]⟩
   by_cases e:j=i
   ·subst e;have hd:o.dst=some d:=by simpa[ho]using hd
    rw[k8];exact k3 d v (by simp[xJ,hd,look,NI])
   have hjd:j∈done dh:=uK.2 ⟨ux.2 yC.2.1,by rw[yC.2.2.resolve_left e,Nat.ble_eq_true_of_le yC.1];rfl⟩;rw[k9 j hjd];refine CS d _ (hne j d yC.1 yC.2.1 hd e) ?_;have at_:∀js,(∀j∈js,j∈done dh)->(look (da l.toArray sp ch cv js) d=none/\j∉js)\/look (da l.toArray sp ch cv js) d=some (mL sp ch cv j):=λjs kj=>by
    rcases ngf (ops:=l.toArray) (sp:=sp) (ch:=ch) (cv:=cv) d js with h9|⟨q,hq,hqd,h9⟩
    ·exact .inl ⟨h9.1,λh=>h9.2 j h hd⟩
    exact .inr (by rw[h9,(apart j d yC.1 yC.2.1 hd).2 q (UW q (kj q hq)).1 (UW q (kj q hq)).2.1 hqd])
   rw[n6c,n6c,(apart j d yC.1 yC.2.1 hd).1];rcases at_ js kj with h9|h9
   ·rw[h9.1,(at_ (done dh) λ_ h=>h).resolve_left λh=>h.2 hjd];rfl
   rw[h9];rfl
  obtain⟨u,hu⟩:∃u,sp[i]? =some u:=⟨sp[i]'aa,lj _⟩;have kL:=n8j ch sp 0 Dy i u hu;rw[mr]at kL;cases u with
  |some u=>
   have anQ:i∉ch:=λh=>by cases kL.1 h
   have hx:=nQn _ _ pure (i-n0) o u (by rw[RY,show n0+(i-n0)=i by omega];exact ho) (by rw[RY,show n0+(i-n0)=i by omega];exact hu) cv L' H' h6 (by
    simp only[MX,uF,Bool.or_eq_true,Bool.not_eq_true'];intro j hj;by_cases hc:j∈ch
    ·obtain⟨q,hq⟩:=jG.1 hc;obtain⟨v,hv⟩:=(h7 q j hq).1 (UW j (iP j hj)).2.2;rw[nQe ch q j hq hnd,hv];exact .inr rfl
    ·exact .inl (Bool.eq_false_iff.2 λh=>hc (by obtain⟨c,hc,e⟩:=List.any_eq_true.1 h;rw[Nat.beq_eq]at e;exact e▸hc))) h4 a W (λa' W'=>I (dh.setIfInBounds i true) a' W') Q h1 (UP bP h3) h5 trivial (by
    rintro v W' hb rfl;refine next [] v cv L' H' _ W' zJ (by cases hd:o.dst<;>simp[Act.put,hd,h1]) (by cases hd:o.dst<;>simp[Act.put,hd,h2]) ?_ h4 (h5.step hb) h6 (λk c hc=>by rw[<-h7 k c hc];exact⟨λh=>h.resolve_left λe=>anQ (e▸cA hc),.inr⟩) (by simp[mL,hu]) λ_ _=>rfl;unfold xJ;split
    ·rename_i d hd;rw[hd];exact(UP h3 hF).put v (by rw[h1];exact nJp hN o (cA ho) d hd)
    rename_i hd;rw[hd];exact(UP h3 hF:Fits (E++da l.toArray sp ch cv (done dh)) a))
   unfold wpOpIn;simp only[Es,ho];split
   ·rename_i hw;rw[if_pos hw]at hx;exact hx
   rename_i hw;rw[if_neg hw]at hx;exact⟨λ_ _=>trivial,hx⟩
  |none=>
   obtain⟨k,hk⟩:=jG.1 (kL.2 rfl);have sU:=(gW.1 hk).1;obtain⟨rq,WD⟩:∃rq,kS[k]? =some rq:=⟨kS[k]'aa,lj _⟩;have WJ:((cv[k]?).join).isNone=true:=by
    have:=h7 k i hk;rw[JO]at this;cases e:cv[k]? with
    |none=>rfl
    |some x=>cases x with
     |none=>rfl
     |some v=>exact absurd (this.2 ⟨v,e⟩) zJ
   have hr:H7 rq k cv=true:=by
    simp only[H7,WJ,Bool.true_and,uF];intro j hj;obtain⟨c',Az,anR⟩:=IL l ch kS 0 anN k i rq WD (by rw[mr];exact hk) j hj;obtain⟨v,hv⟩:=(h7 j c' Az).1 (mask c' anR);rw[hv];rfl
   have anS:∀j∈done dh,j∈ch->Ub ch j≠k:=λj hj hc e=>by
    obtain⟨q,hq⟩:=jG.1 hc;rw[nQe ch q j hq hnd]at e;subst e;rw[hk]at hq;cases hq;have:=(UW _ hj).2.2;rw[JO]at this;cases this
   refine IM ho (nqo ch 0 step k i rq o hk (by rw[mr];exact WD) ho cv L' H' h6 (by rw[mr];exact hr) h4 (da l.toArray sp ch cv (done dh)) _ (λv ry rz hP a' W' k1 k2 k3 k4=>?_) a W h1 h2 (UP bP (UP h3 hF)) h5);rw[mr]at hP;refine next (pe n0 o) v _ ry rz a' W' iP k1 k2 k3 hP k4 (by rw[List.length_set];exact h6) (λk' c hc=>?_) (by simp[mL,hu,nQe ch k i hk hnd,h6,sU]) λj hj=>?_
   ·by_cases e:k'=k
    ·subst e;rw[hk]at hc;cases hc;simp[h6,sU]
    rw[UK (λh=>e h.symm),<-h7 k' c hc];exact⟨λh=>h.resolve_left λe2=>e (by rw[<-nQe ch k' c hc hnd,<-nQe ch k i hk hnd,e2]),.inr⟩
   obtain⟨u',hu'⟩:∃u,sp[j]? =some u:=⟨sp[j]'(by have:=(UW j hj).2.1;omega),lj _⟩;have hm:=n8j ch sp 0 Dy j u' hu';rw[mr]at hm;unfold mL;rw[hu'];cases u' with
   |some u'=>rfl
   |none=>simp only;rw[UK (λh=>anS j hj (hm.2 rfl) h.symm)]
 intro a W h1 h2 h3 h4 dh kQ sO fuel hc;simp only[rh]at kQ sO hc;have gn:∀i,n0<=i->dh.getD i false=false:=λi hi=>Bool.eq_false_iff.2 λh=>by
  by_cases lM:i<l.length
  ·have:=(sO i lM).1 h;omega
  simp[Array.getElem?_eq_none (show dh.size<=i by omega)]at h
 refine nJl (I:=I) back (λ_ _ _ h=>h.1) ?_ eV fuel dh a W ⟨kQ,λk o ho hk j hj=>?_,λi hi=>(sO i aa).2 hi,λi hi=>gn i aa,_,L,H,h1,h2,h3,h0,h4,eO _,λk c hc=>?_,λj hj=>?_⟩ hc
 ·rintro dh a W ⟨kQ,mA,I6,Xx,cv,L',H',h1,h2,h3,h4,h5,h6,h7,h8⟩ cF fuel hc;refine fin cv L' H' h6 (uF.2 λx hx=>?_) h4 a W h1 h2 (UP (n7g _ λj hj=>h8 j ?_) h3) h5 dh (by simpa using kQ) (λi hi=>⟨λh=>?_,λh=>cF i h⟩) fuel (by simpa using hc)
  ·obtain⟨k,hk⟩:=jG.1 hx;have sU:k<ch.length:=by rw[<-h6];exact(gW.1 hk).1
   obtain⟨v,hv⟩:=(h7 k _ (lj sU)).1 (cF _ (sw _ (XP sU)).2);rw[hk]at hv;cases hv;rfl
  ·obtain⟨h9,h10⟩:=uK.1 hj;exact uK.2 ⟨h9,by rw[h10,cF j (ux.1 h9)];rfl⟩
  exact Nat.lt_of_not_le λhle=>by rw[Xx i hle]at h;cases h
 ·have h9:=back k o ho j hj;have sU:=(gW.1 ho).1;have:=(sO k sU).1 hk;exact(sO j aa).2 aa
 ·rw[gn c (sw c (cA hc)).1,mY,hc];simp
 simp only[done,uK,mO,Nat.ble_eq]at hj;rw[gn j hj.2.1]at hj;cases hj.2.2
theorem DJ.one{n:Nat}{o:Oper}(ho:l[n]? =some o)(hk:((List.range l.length).all λi=>match l[i]? with|none=>true|some o'=>((wI o').all λj=>Nat.blt j i)&&(Nat.ble i n||((NS l []).getD i 0).testBit n))=true)(h:OJ C l.toArray (Qn Q (NV C l.toArray Q (n+1))) [o] E D G L H):DJ C l.toArray Q n E D G L H:=by
 simp only[uF,ux]at hk;have at_:=λi (hi:i<l.length)=>by simpa[lj hi]using hk i hi
 exact λa W h1 h2 h3 h4=>nVk ho (λi o' xI j hj=>by obtain⟨hi,rfl⟩:=gW.1 xI;exact(at_ i hi).1 j hj) (λi h5 h6=>by simpa using(at_ i h6).2.resolve_left aa) (IM ho (h a W h1 h2 h3 h4))
theorem DJ.done{n:Nat}(k:PJ C Q .normal E D G L H)(hn:Nat.ble l.length n=true:=by kernel_rfl):DJ C l.toArray Q n E D G L H:=λa W h1 h2 h3 h4=>n2g (eh hn) (k a W h1 h2 h3 h4)
theorem PJ.dj{n:Nat}(k:DJ C l.toArray Q n E D G L H):PJ C (Qn Q (NV C l.toArray Q n)) .normal E D G L H:=k
variable {E':Env}
theorem DJ.less{n:Nat}(h:Sub E' E)(k:DJ C ops Q n E' D G L H):DJ C ops Q n E D G L H:=λa W h1 h2 h3 h4=>k a W h1 h2 (h.fits h3) h4
def AA (l:List Oper) (nA:Nat):Bool:=(List.range l.length).all λi=>Nat.blt i nA||(List.range i).all λj=>((NS l []).getD i 0).testBit j
theorem CJ.nt{id:Nat}(nA:Nat)(ch:List Nat)(sp:Sp)(kS:List (List Nat))(Ph:UU)(h0:Ph (ch.map λ_=>none) L H)(pure:uO C l.toArray G E 0 sp ch Ph l sp)(step:gR C l G E D 0 sp ch kS Ph 0 ch)(fin:∀cv L' H',cv.length=ch.length->cv.all (λx=>x.isSome)=true->Ph cv L' H'->OJ C l.toArray Q (l.drop nA) (da l.toArray sp ch cv (List.range nA)++E) D G L' H')(iR:(C.P.follows .mixedOrders&&(BF C.N l 0 nA ch sp kS E&&AA l nA))=true:=by kernel_rfl):CJ C (.region id l.toArray true) Q E D G L H:=by
 simp only[mO]at iR;refine CJ.dj iR.1 (DJ.net nA kS h0 pure step (λcv L' H' h1 h2 h3 a W k1 k2 k3 k4=>nSk ?_ l.length nA aa (λi h5 h6 j h7=>?_) a W (fin cv L' H' h1 h2 h3 a W k1 k2 ?_ k4)) iR.2.1)
 ·intro i o ho j hj;have:=iR.2.1;simp only[BF,mO,uF,ux]at this;have:=this.2.2.2.2.2.2.2.2.2.1 i (gW.1 ho).1;rw[ho]at this;simpa using uF.1 this j hj
 ·have:=uF.1 iR.2.2 i (ux.2 h6);simp only[Bool.or_eq_true,Nat.blt_eq,uF,ux]at this;exact this.resolve_left aa j h7
 rwa[List.filter_eq_self.2 (λ_ _=>Nat.ble_eq_true_of_le (cY _))]at k3
/-! #### a chain: the operations whose values are not known stand behind each other -/
def rq1:Nat->List Nat
 |0=>[]
 |n+1=>[n]
def AB:Nat->Nat->List (List Nat)
 |_,0=>[]
 |k,n+1=>rq1 k::AB (k+1) n
abbrev NW:=List Value->List World->ad->Prop
abbrev sm (vs:List Value):List (Option Value):=vs.map some
def BG (n:Nat) (Ph:NW):UU:=λcv L' H'=>∃vs:List Value,vs.length<=n/\cv=sm vs++List.replicate (n-vs.length) none/\Ph vs L' H'
theorem BH(vs:List Value)(n k:Nat):((sm vs++List.replicate n none)[k]?).join=((sm vs)[k]?).join:=by grind
theorem nNh(vs:List Value)(n:Nat):∀js,da ops sp ch (sm vs++List.replicate n none) js=da ops sp ch (sm vs) js
 | []=>rfl
 |j::js=>by unfold da;rw[nNh vs n js];simp only[mL,BH]
variable {Pc:NW} {k c:Nat} {o:Oper} {rest:List Nat} {kS:List (List Nat)} {tl:Sp} {u:Value}
theorem pc(h:∀cv L' H',MX ch (pe n0 o) (sm cv)=true->Pc cv L' H'->X C ops G L' H' (da ops sp ch (sm cv) (pe n0 o)++E) (λ_=>True) o (λv _=>v=u))(t:uO C ops G E n0 sp ch (BG ch.length Pc) l tl):uO C ops G E n0 sp ch (BG ch.length Pc) (o::l) (some u::tl):=
 ⟨by rintro _ L' H' _ hd ⟨vs,hle,rfl,hP⟩;simp only[MX,BH]at hd;rw[nNh];exact h vs L' H' hd hP,t⟩
theorem qc(h:∀cv L' H',cv.length=ch.length->MX ch (pe n0 o) cv=true->Ph cv L' H'->X C ops G L' H' (da ops sp ch cv (pe n0 o)++E) (λ_=>True) o (λv _=>v=u))(t:uO C ops G E n0 sp ch Ph l tl):uO C ops G E n0 sp ch Ph (o::l) (some u::tl):=⟨h,t⟩
theorem pk(t:uO C ops G E n0 sp ch Ph l tl):uO C ops G E n0 sp ch Ph (o::l) (none::tl):=t
theorem pn:uO C ops G E n0 sp ch Ph l []:=by cases l<;>trivial
theorem nc{rq:List Nat}(h0:kS[k]? =some rq)(h1:l[c]? =some o)(h:∀cv L' H',cv.length=ch.length->H7 rq k cv=true->Ph cv L' H'->CR C l G E D n0 sp ch cv o (λv=>Ph (cv.set k (some v))) L' H')(t:gR C l G E D n0 sp ch kS Ph (k+1) rest):gR C l G E D n0 sp ch kS Ph k (c::rest):=
 ⟨λrq' o' e0 e1=>by rw[h0]at e0;cases e0;rw[h1]at e1;cases e1;exact h,t⟩
theorem nn:gR C l G E D n0 sp ch kS Ph k []:=trivial
theorem ss(h1:l[c]? =some o)(h:∀cv L' H',cv.length=k->Pc cv L' H'->CR C l G E D n0 sp ch (sm cv) o (λv=>Pc (cv++[v])) L' H')(t:gR C l G E D n0 sp ch kS (BG ch.length Pc) (k+1) rest)(h0:kS[k]? =some (rq1 k):=by rfl)(h2:Nat.blt k ch.length=true:=by rfl):gR C l G E D n0 sp ch kS (BG ch.length Pc) k (c::rest):=by
 refine nc h0 h1 ?_ t;rintro _ L' H' _ hr ⟨vs,hle,rfl,hP⟩ F Q' hc;rw[Nat.blt_eq]at h2;simp only[H7,BH,mO,uF,Option.isNone_iff_eq_none]at hr;obtain rfl:vs.length=k:=by
  exact zRh
 rw[nNh]at hc ⊢;refine h vs L' H' rfl hP F Q' λv ry rz hP'=>hc v ry rz ⟨vs++[v],by simp;omega,?_,hP'⟩;exact zdh
variable {L':List World}
theorem nlo(h:cv.all (λx=>x.isSome)=true):BG ch.length Pc cv L' H'->∃vs:List Value,vs.length=ch.length/\cv=sm vs/\Pc vs L' H':=by
 rintro⟨vs,hle,rfl,hP⟩;have:ch.length-vs.length=0:=by
  simp only[List.all_append,List.all_replicate,mO]at h;have:=h.2;split at this<;>simp_all
 exact⟨vs,by omega,by rw[this];simp,hP⟩
theorem IN(h0:Pc [] L' H'):BG ch.length Pc (ch.map λ_=>none) L' H':=⟨[],cY _,by simp[List.map_const'],h0⟩
theorem CJ.chn{id:Nat}(nA:Nat)(ch:List Nat)(sp:Sp)(Ph:NW)(pure:uO C l.toArray G E 0 sp ch (BG ch.length Ph) l sp)(step:gR C l G E D 0 sp ch (AB 0 ch.length) (BG ch.length Ph) 0 ch)(fin:∀cv L' H',cv.length=ch.length->Ph cv L' H'->OJ C l.toArray Q (l.drop nA) (da l.toArray sp ch (sm cv) (List.range nA)++E) D G L' H')(h0:Ph [] L H:=by exact⟨rfl,rfl⟩)(iR:(C.P.follows .mixedOrders&&(BF C.N l 0 nA ch sp (AB 0 ch.length) E&&AA l nA))=true:=by kernel_rfl):CJ C (.region id l.toArray true) Q E D G L H:=
 CJ.nt nA ch sp (AB 0 ch.length) (BG ch.length Ph) (IN h0) pure step (λcv L' H' h1 h2 h3=>by obtain⟨vs,hl,rfl,hP⟩:=nlo h2 h3;exact fin vs L' H' hl hP) iR
theorem DJ.chn(n0 nA:Nat)(ch:List Nat)(sp:Sp)(Ph:NW)(pure:uO C l.toArray G E n0 sp ch (BG ch.length Ph) (l.drop n0) (sp.drop n0))(step:gR C l G E D n0 sp ch (AB 0 ch.length) (BG ch.length Ph) 0 ch)(fin:∀cv L' H',cv.length=ch.length->Ph cv L' H'->DJ C l.toArray Q nA (da l.toArray sp ch (sm cv) ((List.range nA).filter (Nat.ble n0))++E) D G L' H')(h0:Ph [] L H:=by exact⟨rfl,rfl⟩)(iR:BF C.N l n0 nA ch sp (AB 0 ch.length) E=true:=by kernel_rfl):DJ C l.toArray Q n0 E D G L H:=
 DJ.net nA (AB 0 ch.length) (IN h0) pure step (λcv L' H' h1 h2 h3=>by obtain⟨vs,hl,rfl,hP⟩:=nlo h2 h3;exact fin vs L' H' hl hP) iR
theorem xc{L0:List World}{H0:ad}(h:Nat->X C ops G L0 H0 (da ops sp [] [] (pe n0 o)++E) (λ_=>True) o (λv _=>v=u))(t:uO C ops G E n0 sp [] (λ_ L' H'=>L'=L0/\H'=H0) l tl):uO C ops G E n0 sp [] (λ_ L' H'=>L'=L0/\H'=H0) (o::l) (some u::tl):=
 ⟨by rintro cv _ _ hl _ ⟨rfl,rfl⟩;cases my hl;exact h 0,t⟩
theorem CJ.drwD{id:Nat}(nA:Nat)(sp:Sp)(exec:uO C l.toArray G E 0 sp [] (λ_ L' H'=>L'=L/\H'=H) l sp)(fin:Nat->OJ C l.toArray Q (l.drop nA) (da l.toArray sp [] [] (List.range nA)++E) D G L H)(iR:(C.P.follows .mixedOrders&&(BF C.N l 0 nA [] sp [] E&&AA l nA))=true:=by kernel_rfl):CJ C (.region id l.toArray true) Q E D G L H:=
 CJ.nt nA [] sp [] _ ⟨rfl,rfl⟩ exec trivial (by rintro cv _ _ hl _ ⟨rfl,rfl⟩;cases my hl;exact fin 0) iR
variable {nA:Nat}
/-- the pure operations, at a state; the number of the elements is said -/
def PB (nA:Nat) (C:Cx) (ops:Array Oper) (G:Gh) (E:Env) (n0:Nat) (sp:Sp) (ch:List Nat) (L:List World) (H:ad):List Oper->Sp->Prop
 |o::l,some u::ss=>X C ops G L H (da ops sp ch [] (pe n0 o)++E) (λ_=>True) o (λv _=>v=u)/\PB nA C ops G E n0 sp ch L H l ss
 |_::l,none::ss=>PB nA C ops G E n0 sp ch L H l ss
 |_,_=>True
theorem aJ(h:X C ops G L H (da ops sp ch [] (pe n0 o)++E) (λ_=>True) o (λv _=>v=u))(t:PB nA C ops G E n0 sp ch L H l tl):PB nA C ops G E n0 sp ch L H (o::l) (some u::tl):=⟨h,t⟩
theorem qbk(_hc:ch.any (Nat.beq (ops.size-(l.length+1)))=true)(t:PB nA C ops G E n0 sp ch L H l tl):PB nA C ops G E n0 sp ch L H (o::l) (none::tl):=t
theorem rf(_h:Nat.beq (ops.size-l.length) nA=true):PB nA C ops G E n0 sp ch L H l []:=by cases l<;>trivial
theorem PB.at:∀{l:List Oper} {ss:Sp},PB nA C ops G E n0 sp ch L H l ss->∀(i:Nat) (o:Oper) (u:Value),l[i]? =some o->ss[i]? =some (some u)->X C ops G L H (da ops sp ch [] (pe n0 o)++E) (λ_=>True) o (λv _=>v=u)
 | [],_,_,i,o,u,hl,_=>by simp at hl
 |_::_,[],_,i,o,u,_,hs=>by simp at hs
 |o'::l,u'::ss,h,i,o,u,hl,hs=>by
  cases i with
  |zero=>simp at hl hs;subst hs;subst hl;exact h.1
  |succ i=>exact PB.at (l:=l) (ss:=ss) (by cases u'<;>first|exact h.2|exact h) i o u K7 (by simpa using hs)
theorem nAi:∀(m:List Oper) (ss:Sp),(∀(i:Nat) (o:Oper) (u:Value),m[i]? =some o->ss[i]? =some (some u)->∀cv L' H',cv.length=ch.length->MX ch (pe n0 o) cv=true->Ph cv L' H'->X C ops G L' H' (da ops sp ch cv (pe n0 o)++E) (λ_=>True) o (λv _=>v=u))->uO C ops G E n0 sp ch Ph m ss
 | [],ss,_=>by cases ss<;>trivial
 |_::_,[],_=>trivial
 |o::m,none::ss,h=>nAi m ss λi o u h1 h2=>h (i+1) o u Dg K9
 |o::m,some u::ss,h=>⟨h 0 o u rfl rfl,nAi m ss λi o u h1 h2=>h (i+1) o u Dg K9⟩
/-- the values of these operations are known -/
def knB (sp:Sp) (js:List Nat):Bool:=js.all λj=>match sp[j]? with|some (some _)=>true|_=>false
theorem nao{cv cv':List (Option Value)}:∀{js:List Nat},knB sp js=true->da ops sp ch cv js=da ops sp ch cv' js
 | [],_=>rfl
 |j::js,h=>by
  simp only[knB,List.all_cons,mO]at h;unfold da;rw[nao (js:=js) h.2];have h1:=h.1;have:mL sp ch cv j=mL sp ch cv' j:=by unfold mL;split at h1<;>simp_all
  rw[this]
def xK (n0:Nat) (l:List Oper) (sp:Sp):Bool:=(List.range l.length).all λi=>Nat.blt i n0||match l[i]?,sp[i]? with|some o,some (some _)=>knB sp (pe n0 o)|_,_=>true
theorem X.mono{Pre:World->Prop}{Φ:Value->World->Prop}(hm:∀W,St G L' H' W->St G L H W)(h:X C ops G L H E Pre o Φ):X C ops G L' H' E Pre o Φ:=
 λa W K Q h1 h2 h3 h4 h5=>h a W K Q h1 h2 (hm W h3) h4 h5
/-- the operations of a chain, one behind the other -/
def PW (C:Cx) (l:List Oper) (G:Gh) (E:Env) (D:List Deferred) (n0:Nat) (sp:Sp) (ch:List Nat) (Fin:NW) (L0:List World) (H0:ad):List Nat->NW
 | [],vs,L',H'=>(∀W,St G L' H' W->St G L0 H0 W)/\Fin vs L' H'
 |c::rest,vs,L',H'=>(∀W,St G L' H' W->St G L0 H0 W)/\∀o,l[c]? =some o->CR C l G E D n0 sp ch (sm vs) o (λv=>PW C l G E D n0 sp ch Fin L0 H0 rest (vs++[v])) L' H'
variable {Fin:NW} {L0:List World} {H0:ad}
theorem PW.mono:∀{r:List Nat} {vs:List Value} {L':List World} {H':ad},PW C l G E D n0 sp ch Fin L0 H0 r vs L' H'->∀W,St G L' H' W->St G L0 H0 W
 | [],_,_,_,h=>h.1
 |_::_,_,_,_,h=>h.1
theorem nwo{k:Nat}(h:k<ch.length):ch.drop k=ch[k]::ch.drop (k+1):=aNq h
theorem gR.of(hP:∀vs L' H',Pc vs L' H'->vs.length<ch.length->∀c o,ch[vs.length]? =some c->l[c]? =some o->CR C l G E D n0 sp ch (sm vs) o (λv=>Pc (vs++[v])) L' H'):∀(m k:Nat),ch.length=k+m->gR C l G E D n0 sp ch (AB 0 ch.length) (BG ch.length Pc) k (ch.drop k)
 |0,k,h=>by rw[aCq.2 aa];exact nn
 |m+1,k,h=>by
  have hk:k<ch.length:=by omega
  rw[nwo hk];refine⟨λrq o h0 h1 cv L' H' hcv hr hp=>?_,gR.of hP m (k+1) aa⟩;have UX:∀(n j i:Nat),i<n->(AB j n)[i]? =some (rq1 (j+i)):=by
   intro n;induction n with
   |zero=>intro j i h;omega
   |succ n ih=>
    intro j i h;cases i with
    |zero=>rfl
    |succ i=>simp only[AB,Jd];rw[ih (j+1) i aa];congr 2;omega
  rw[UX _ 0 k hk,mr]at h0;cases h0
  obtain⟨vs,hle,rfl,hP'⟩:=hp;simp only[H7,BH,mO,uF,Option.isNone_iff_eq_none]at hr;obtain rfl:vs.length=k:=by
   exact zRh
  intro F Q' hc;rw[nNh]at hc ⊢;refine hP vs L' H' hP' hk _ o (lj hk) h1 F Q' λv ry rz anX=>hc v ry rz ⟨vs++[v],by simp;omega,?_,anX⟩;exact zdh
theorem nMn(hb:PB nA C l.toArray G E n0 sp ch L H (l.drop n0) (sp.drop n0))(hi:xK n0 l sp=true){Fin:NW}:uO C l.toArray G E n0 sp ch (BG ch.length λvs=>PW C l G E D n0 sp ch Fin L H (ch.drop vs.length) vs) (l.drop n0) (sp.drop n0):=by
 refine nAi _ _ λi o u h1 h2 cv L' H' hcv hd hP=>?_;obtain⟨vs,_,rfl,hP⟩:=hP;rw[nao (cv':=[])]
 ·exact(hb.at i o u h1 h2).mono hP.mono
 simp only[xK,uF,ux,Bool.or_eq_true]at hi;rw[RY]at h1 h2;have:=(hi (n0+i) (gW.1 h1).1).resolve_left zJ;rw[h1,h2]at this;exact this
theorem n4n{Fin:NW}:gR C l G E D n0 sp ch (AB 0 ch.length) (BG ch.length λvs=>PW C l G E D n0 sp ch Fin L H (ch.drop vs.length) vs) 0 ch:=by
 have:=gR.of (C:=C) (l:=l) (G:=G) (E:=E) (D:=D) (n0:=n0) (sp:=sp) (ch:=ch) (Pc:=λvs=>PW C l G E D n0 sp ch Fin L H (ch.drop vs.length) vs) (λvs L' H' hP hk c o hc ho=>by
  rw[nwo hk]at hP;obtain⟨NO,hc⟩:=gW.1 hc;rw[hc]at hP;have h2:=hP.2 o ho;intro F Q' h3;refine h2 F Q' λv ry rz h4=>h3 v ry rz ?_;simpa using h4) ch.length 0 aa
 simpa using this
abbrev ud (n0:Nat) (sp:Sp):Sp:=List.replicate n0 (some undef)++sp
theorem NY(n0:Nat)(sp:Sp):(ud n0 sp).drop n0=sp:=by simp[ud]
/-- a region that draws its order: a chain, and operations that do not ask for it -/
theorem eW{id:Nat}{sp:Sp}{ch:List Nat}{nA:Nat}(pb:PB nA C l.toArray G E 0 sp ch L H l sp)(k:PW C l G E D 0 sp ch (λvs L' H'=>OJ C l.toArray Q (l.drop nA) (da l.toArray sp ch (sm vs) (List.range nA)++E) D G L' H') L H ch [] L H)(hi:xK 0 l sp=true)(iR:(C.P.follows .mixedOrders&&(BF C.N l 0 nA ch sp (AB 0 ch.length) E&&AA l nA))=true):CJ C (.region id l.toArray true) Q E D G L H:=
 CJ.chn nA ch sp (λvs=>PW C l G E D 0 sp ch _ L H (ch.drop vs.length) vs) (nMn pb hi) n4n (λcv L' H' hl hP=>by rw[hl,List.drop_length]at hP;exact hP.2) k iR
theorem fW{sp:Sp}{ch:List Nat}{nA:Nat}(pb:PB nA C l.toArray G E n0 (ud n0 sp) ch L H (l.drop n0) sp)(k:PW C l G E D n0 (ud n0 sp) ch (λvs L' H'=>DJ C l.toArray Q nA (da l.toArray (ud n0 sp) ch (sm vs) ((List.range nA).filter (Nat.ble n0))++E) D G L' H') L H ch [] L H)(hi:xK n0 l (ud n0 sp)=true)(iR:BF C.N l n0 nA ch (ud n0 sp) (AB 0 ch.length) E=true):DJ C l.toArray Q n0 E D G L H:=
 DJ.chn n0 nA ch (ud n0 sp) (λvs=>PW C l G E D n0 (ud n0 sp) ch _ L H (ch.drop vs.length) vs) (nMn (nA:=nA) (by rw[NY];exact pb) hi) n4n (λcv L' H' hl hP=>by rw[hl,List.drop_length]at hP;exact hP.2) k iR
theorem wN(hm:∀W,St G L' H' W->St G L0 H0 W)(h:∀F Q',(∀v ry rz,PW C l G E D n0 sp ch Fin L0 H0 rest (vs++[v]) ry rz->PJ C Q' .normal (xJ o v (da l.toArray sp ch (sm vs) (pe n0 o)++(E++F))) D G ry rz)->OJ C l.toArray Q' [o] (da l.toArray sp ch (sm vs) (pe n0 o)++(E++F)) D G L' H')(ho:l[c]? =some o:=by exact rfl):PW C l G E D n0 sp ch Fin L0 H0 (c::rest) vs L' H':=⟨hm,λo' xI=>by rw[ho]at xI;cases xI;exact h⟩
theorem wE(hm:∀W,St G L' H' W->St G L0 H0 W)(h:Fin vs L' H'):PW C l G E D n0 sp ch Fin L0 H0 [] vs L' H':=⟨hm,h⟩
inductive Dr:Nat->List Oper->List Oper->Prop
 |z {l:List Oper}:Dr 0 l l
 |s {n:Nat} {x:Oper} {l l':List Oper}:Dr n l l'->Dr (n+1) (x::l) l'
theorem Dr.eq{n:Nat}{l l':List Oper}(h:Dr n l l'):l.drop n=l':=by
 induction h with
 |z=>rfl
 |s _ ih=>exact ih
/-- the slots that the operations write are struck -/
def wrs (l:List Oper) (t:Nat):Bool:=l.any λo=>match o.dst with|some d=>Nat.beq d t|none=>false
inductive Kn (l:List Oper):Env->Env->Prop
 |nil:Kn l [] []
 |keep {t:Nat} {v:Value} {E E':Env}:wrs l t=false->Kn l E E'->Kn l ((t,v)::E) ((t,v)::E')
 |skip {t:Nat} {v:Value} {E E':Env}:wrs l t=true->Kn l E E'->Kn l ((t,v)::E) E'
theorem Kn.look{l:List Oper}(h:Kn l E E'):∀{t v},Px.look E' t=some v->wrs l t=false/\Px.look E t=some v:=by
 induction h with
 |nil=>intro t v h;simp[Px.look]at h
 |keep h _ ih=>intro t v h2;simp only[Px.look]at h2 ⊢;split<;>simp_all
 |skip h _ ih=>intro t v h2;have h3:=ih h2;simp only[Px.look];split<;>simp_all
theorem Kn.fits{l:List Oper}(h:Kn l E E')(hF:Fits E a):Fits E' a:=λt v hv=>hF t v (h.look hv).2
variable {E':Env} {l':List Oper}
theorem eA{id:Nat}{sp:Sp}(nA:Nat)(hk:Kn (l.take nA) E E':=by exact zKn)(pb:PB nA C l.toArray G E' 0 sp [] L H l sp:=by exact zT)(hl:Dr nA l l':=by exact zDr)(k:OJ C l.toArray Q l' (da l.toArray sp [] [] (List.range nA)++E') D G L H)(hi:xK 0 l sp=true:=by kernel_rfl)(iR:(C.P.follows .mixedOrders&&(BF C.N l 0 nA [] sp [] E'&&AA l nA))=true:=by kernel_rfl):CJ C (.region id l.toArray true) Q E D G L H:=λa W hN hD hF hS=>eW pb (wE (λ_ h=>h) (by rw[hl.eq];exact k)) hi iR a W hN hD (hk.fits hF) hS
theorem fA{sp:Sp}(n0 nA:Nat)(hk:Kn ((l.take nA).drop n0) E E':=by exact zKn)(pb:PB nA C l.toArray G E' n0 (ud n0 sp) [] L H (l.drop n0) sp:=by exact zT)(k:DJ C l.toArray Q nA (da l.toArray (ud n0 sp) [] [] ((List.range nA).filter (Nat.ble n0))++E') D G L H)(hi:xK n0 l (ud n0 sp)=true:=by kernel_rfl)(iR:BF C.N l n0 nA [] (ud n0 sp) [] E'=true:=by kernel_rfl):DJ C l.toArray Q n0 E D G L H:=λa W h1 h2 h3 h4=>fW pb (wE (λ_ h=>h) k) hi iR a W h1 h2 (hk.fits h3) h4
theorem eS{id:Nat}{sp:Sp}(nA c:Nat)(rest:List Nat)(hk:Kn (l.take nA) E E':=by exact zKn)(pb:PB nA C l.toArray G E' 0 sp (c::rest) L H l sp:=by exact zT)(hl:Dr nA l l':=by exact zDr)(h:∀F Q',(∀v ry rz,PW C l G E' D 0 sp (c::rest) (λvs L' H'=>OJ C l.toArray Q l' (da l.toArray sp (c::rest) (sm vs) (List.range nA)++E') D G L' H') L H rest [v] ry rz->PJ C Q' .normal (xJ o v (da l.toArray sp (c::rest) [] (pe 0 o)++(E'++F))) D G ry rz)->OJ C l.toArray Q' [o] (da l.toArray sp (c::rest) [] (pe 0 o)++(E'++F)) D G L H)(ho:l[c]? =some o:=by exact rfl)(hi:xK 0 l sp=true:=by kernel_rfl)(iR:(C.P.follows .mixedOrders&&(BF C.N l 0 nA (c::rest) sp (AB 0 (rest.length+1)) E'&&AA l nA))=true:=by kernel_rfl):CJ C (.region id l.toArray true) Q E D G L H:=
 λa W hN hD hF hS=>eW pb (wN (vs:=[]) (λ_ h=>h) (by rw[hl.eq];exact h) ho) hi iR a W hN hD (hk.fits hF) hS
theorem fS{sp:Sp}(n0 nA c:Nat)(rest:List Nat)(hk:Kn ((l.take nA).drop n0) E E':=by exact zKn)(pb:PB nA C l.toArray G E' n0 (ud n0 sp) (c::rest) L H (l.drop n0) sp:=by exact zT)(h:∀F Q',(∀v ry rz,PW C l G E' D n0 (ud n0 sp) (c::rest) (λvs L' H'=>DJ C l.toArray Q nA (da l.toArray (ud n0 sp) (c::rest) (sm vs) ((List.range nA).filter (Nat.ble n0))++E') D G L' H') L H rest [v] ry rz->PJ C Q' .normal (xJ o v (da l.toArray (ud n0 sp) (c::rest) [] (pe n0 o)++(E'++F))) D G ry rz)->OJ C l.toArray Q' [o] (da l.toArray (ud n0 sp) (c::rest) [] (pe n0 o)++(E'++F)) D G L H)(ho:l[c]? =some o:=by exact rfl)(hi:xK n0 l (ud n0 sp)=true:=by kernel_rfl)(iR:BF C.N l n0 nA (c::rest) (ud n0 sp) (AB 0 (rest.length+1)) E'=true:=by kernel_rfl):DJ C l.toArray Q n0 E D G L H:=
 λa W h1 h2 h3 h4=>fW pb (wN (vs:=[]) (λ_ h=>h) h ho) hi iR a W h1 h2 (hk.fits h3) h4
theorem St.un{w:World}(h:St G (w::L) H W):St G L H W:=h.lessL λ_ hw=>.tail _ hw
/-- as_ nFb; the number of the elements is said -/
def Xo (_nA:Nat) (C:Cx) (ops:Array Oper) (G:Gh) (E:Env) (n0:Nat) (sp:Sp) (ch:List Nat) (Ph:UU) (l:List Oper) (ss:Sp):Prop:=uO C ops G E n0 sp ch Ph l ss
theorem lD(h:∀cv L' H',cv.length=ch.length->MX ch (pe n0 o) cv=true->Ph cv L' H'->X C ops G L' H' (da ops sp ch cv (pe n0 o)++E) (λ_=>True) o (λv _=>v=u))(t:Xo nA C ops G E n0 sp ch Ph l tl):Xo nA C ops G E n0 sp ch Ph (o::l) (some u::tl):=qc h t
theorem qtk(_hc:ch.any (Nat.beq (ops.size-(l.length+1)))=true)(t:Xo nA C ops G E n0 sp ch Ph l tl):Xo nA C ops G E n0 sp ch Ph (o::l) (none::tl):=t
theorem qtn(_h:Nat.beq (ops.size-l.length) nA=true):Xo nA C ops G E n0 sp ch Ph l []:=pn
theorem dN{id:Nat}{sp:Sp}(nA:Nat)(ch:List Nat)(kS:List (List Nat))(Ph:UU)(h0:Ph (ch.map λ_=>none) L H)(pure:Xo nA C l.toArray G E 0 sp ch Ph l sp)(step:gR C l G E D 0 sp ch kS Ph 0 ch)(fin:∀cv L' H',cv.length=ch.length->cv.all (λx=>x.isSome)=true->Ph cv L' H'->OJ C l.toArray Q (l.drop nA) (da l.toArray sp ch cv (List.range nA)++E) D G L' H')(iR:(C.P.follows .mixedOrders&&(BF C.N l 0 nA ch sp kS E&&AA l nA))=true:=by kernel_rfl):CJ C (.region id l.toArray true) Q E D G L H:=CJ.nt nA ch sp kS Ph h0 pure step fin iR
end
end Px
namespace Px
/-! plain arithmetic: products and quotients of 128 bits -/
theorem IP(x y:Nat)(hx:x<2^64)(hy:y<2^64):(x/2^32)*(y/2^32)+((x/2^32)*(y%2^32)+(x%2^32)*(y%2^32)/2^32)/2^32+(((x/2^32)*(y%2^32)+(x%2^32)*(y%2^32)/2^32)%2^32+(x%2^32)*(y/2^32))/2^32=x*y/2^64:=by
 have h1:=BN x (2^32);have h2:=BN y (2^32);generalize x/2^32=x1 at *;generalize x%2^32=x0 at *;generalize y/2^32=y1 at *;generalize y%2^32=y0 at *;have e:x*y=2^64*(x1*y1)+2^32*(x1*y0)+2^32*(x0*y1)+x0*y0:=by
  rw[<-h1,<-h2];have:(2^64:Nat)=2^32*2^32:=by decide
  rw[this];simp only[qh,Nat.mul_add];have a1:2^32*x1*(2^32*y1)=2^32*2^32*(x1*y1):=by
   rw[Nat.mul_mul_mul_comm]
  have a2:2^32*x1*y0=2^32*(x1*y0):=Nat.mul_assoc _ _ _;have a3:x0*(2^32*y1)=2^32*(x0*y1):=Nat.mul_left_comm _ _ _;omega
 all_goals grind
theorem nGp(u y1 y0 un q:Nat)(BJ:2^31<=y1)(I7:y0<2^32)(JO:un<2^32)(hq:q=u/y1):(u*2^32+un)/(y1*2^32+y0)<=q:=by
 subst hq;apply Nat.le_of_lt_succ;rw[Nat.div_lt_iff_lt_mul aa];have h:=Nat.lt_succ_self (u/y1);have h2:=BN u y1;have h3:=Nat.mod_lt u (show 0<y1 by omega);all_goals grind
theorem nvg(u y1 y0 un q r:Nat)(hr:u=q*y1+r):(r*2^32+un<q*y0)↔u*2^32+un<q*(y1*2^32+y0):=by grind
def dq (n:Nat):Nat:=if n=0 then 0 else Nat.log2 n+1
theorem nJo(n k:Nat)(h:2^k<=n):dq n=dq (n/2^k)+k:=by
 have hp:0<2^k:=Nat.two_pow_pos k;have hn:n≠0:=by omega
 have hq:n/2^k≠0:=by
  have:=Nat.div_pos h hp;omega
 unfold dq;rw[if_neg hn,if_neg hq];have:Nat.log2 n=Nat.log2 (n/2^k)+k:=by
  have h1:=Nat.log2_self_le hq;have h2:=Nat.lt_log2_self (n:=n/2^k);refine(Nat.log2_eq_iff hn).2 ⟨?_,?_⟩
  ·rw[Nat.pow_add];exact eE (w6 _ h1) (Nat.div_mul_le_self n (2^k))
  rw[show Nat.log2 (n/2^k)+k+1=(Nat.log2 (n/2^k)+1)+k by omega,Nat.pow_add];exact(Nat.div_lt_iff_lt_mul hp).1 h2
 omega
theorem nMh(n k:Nat)(h:n<2^k):dq n<=k:=by
 unfold dq;split
 ·omega
 rename_i hn;have:=(Nat.log2_lt hn).2 h;omega
theorem nwi(n:Nat)(h:n≠0):2^(dq n-1)<=n/\n<2^dq n/\1<=dq n:=by
 unfold dq;rw[if_neg h];exact⟨by simpa using Nat.log2_self_le h,Nat.lt_log2_self,by omega⟩
/-! the quotient of 128 bits by 64 -/
theorem nUo(y:Nat)(hy:0<y)(BJ:y<2^64):dq y<=64/\2^63<=y*2^(64-dq y)/\y*2^(64-dq y)<2^64:=by
 have hb:=nMh y 64 BJ;obtain⟨h1,h2,h3⟩:=nwi y aa;refine⟨hb,?_,?_⟩
 ·have:2^(dq y-1)*2^(64-dq y)<=y*2^(64-dq y):=w6 _ h1;rw[<-Nat.pow_add,show dq y-1+(64-dq y)=63 by omega]at this;exact this
 have:y*2^(64-dq y)<2^dq y*2^(64-dq y):=Nat.mul_lt_mul_of_pos_right h2 (Nat.two_pow_pos _);rw[<-Nat.pow_add,show dq y+(64-dq y)=64 by omega]at this;exact this
theorem nkn(lo s:Nat)(hs:s<=64):lo*2^s/2^64=lo/2^(64-s):=by
 have:(2:Nat)^64=2^(64-s)*2^s:=by
  have:=Nat.pow_add 2 (64-s) s;rwa[Nat.sub_add_cancel hs]at this
 rw[this,Nat.mul_div_mul_right _ _ (Nat.two_pow_pos s)]
theorem n7o(hi lo y s:Nat)(hs:s<=64)(h:hi<y)(I6:lo<2^64):(hi*2^s+lo/2^(64-s))*2^64+lo*2^s%2^64=(hi*2^64+lo)*2^s/\hi*2^s+lo/2^(64-s)<y*2^s:=by
 have h1:=BN (lo*2^s) (2^64);rw[nkn lo s hs]at h1;have e:(hi*2^s+lo/2^(64-s))*2^64+lo*2^s%2^64=(hi*2^64+lo)*2^s:=by
  have e1:(hi*2^64+lo)*2^s=hi*2^s*2^64+lo*2^s:=by
   rw[qh,Nat.mul_right_comm]
  rw[e1];generalize lo*2^s=z at *;generalize hi*2^s=z' at *;omega
 refine⟨e,?_⟩;have h2:(hi*2^64+lo)*2^s<(y*2^s)*2^64:=by
  have:hi*2^64+lo<y*2^64:=by
   have:(hi+1)*2^64<=y*2^64:=w6 _ h;rw[qh]at this;omega
  rw[Nat.mul_right_comm];exact Nat.mul_lt_mul_of_pos_right this (Nat.two_pow_pos s)
 all_goals grind
theorem NZ(u v Y r1 B:Nat)(hr:(u*B+v/B)%Y=r1):u*(B*B)+v=((u*B+v/B)/Y*B+(r1*B+v%B)/Y)*Y+(r1*B+v%B)%Y:=by
 have h1:=BN (u*B+v/B) Y;have h2:=BN (r1*B+v%B) Y;have h3:=BN v B;all_goals grind
theorem n5b(u v Y r1:Nat)(hr:(u*2^32+v/2^32)%Y=r1):u*2^64+v=((u*2^32+v/2^32)/Y*2^32+(r1*2^32+v%2^32)/Y)*Y+(r1*2^32+v%2^32)%Y:=by
 have:=NZ u v Y r1 (2^32) hr;rw[<-this]
theorem n4b(hi lo y s Qn R:Nat)(hR:R<y*2^s)(h:(hi*2^64+lo)*2^s=Qn*(y*2^s)+R):(hi*2^64+lo)/y=Qn/\(hi*2^64+lo)%y=R/2^s:=by
 have hp:0<2^s:=Nat.two_pow_pos s;generalize hi*2^64+lo=N at *;generalize 2^s=p at *;have hy:0<y:=by
  rcases Nat.eq_zero_or_pos y with rfl|h
  ·simp at hR
  exact h
 have e:R=(N-Qn*y)*p:=by
  rw[Nat.sub_mul,Nat.mul_assoc];omega
 have hle:Qn*y<=N:=by
  apply Nat.le_of_mul_le_mul_right (c:=p) _ hp;rw[Nat.mul_assoc];omega
 have hlt:N-Qn*y<y:=by
  rw[e]at hR;exact Nat.lt_of_mul_lt_mul_right hR
 have hd:R/p=N-Qn*y:=by rw[e,Nat.mul_div_cancel _ hp]
 have hN:N=y*Qn+(N-Qn*y):=by rw[I8 y Qn];omega
 rw[hd];constructor
 ·rw[hN,Nat.mul_add_div hy,Nat.div_eq_of_lt hlt];rfl
 have:(y*Qn+(N-Qn*y))%y=N-Qn*y:=by rw[Nat.mul_add_mod,Nat.mod_eq_of_lt hlt]
 rw[<-hN]at this;exact this
structure ug (u y1 y0 un q r:Nat):Prop where
 eq:q*y1+r=u
 lt:r<2^32
 ge:(u*2^32+un)/(y1*2^32+y0)<=q
 le:q<=2^32+1
section
variable {u y1 y0 un q r:Nat}
theorem ug.start(BJ:2^31<=y1)(aqD:y1<2^32)(I7:y0<2^32)(JO:un<2^32)(hu:u<y1*2^32+y0):ug u y1 y0 un (u/y1) (u%y1):=by
 have h1:=Nat.mod_lt u (show 0<y1 by omega);refine⟨?_,by omega,nGp u y1 y0 un _ BJ I7 JO rfl,?_⟩
 ·rw[I8];exact BN u y1
 apply Nat.le_of_lt_succ;rw[Nat.div_lt_iff_lt_mul aa];rw[Nat.succ_eq_add_one];omega
theorem ug.small(BJ:2^31<=y1)(hu:u<y1*2^32+y0)(JO:un<2^32):(u*2^32+un)/(y1*2^32+y0)<2^32:=by
 rw[Nat.div_lt_iff_lt_mul aa];omega
theorem ug.stop(h:ug u y1 y0 un q r)(BJ:2^31<=y1)(ht:q*y0<=r*2^32+un):(u*2^32+un)/(y1*2^32+y0)=q:=by
 have h1:=nvg u y1 y0 un q r h.eq.symm;have h2:q*(y1*2^32+y0)<=u*2^32+un:=Nat.le_of_not_lt λhl=>by have:=h1.2 hl;omega
 have h3:=(Nat.le_div_iff_mul_le (show 0<y1*2^32+y0 by omega)).2 h2;have:=h.ge;omega
theorem ug.more(h:ug u y1 y0 un q r)(BJ:2^31<=y1)(hu:u<y1*2^32+y0)(JO:un<2^32)(ht:2^32<=q\/r*2^32+un<q*y0):1<=q/\(q-1)*y1+(r+y1)=u/\(u*2^32+un)/(y1*2^32+y0)<=q-1:=by
 have hlt:(u*2^32+un)/(y1*2^32+y0)<q:=by
  rcases ht with ht|ht
  ·exact qH (ug.small BJ hu JO) ht
  have:=(nvg u y1 y0 un q r h.eq.symm).1 ht;rw[Nat.div_lt_iff_lt_mul aa];exact this
 have hq:1<=q:=Nat.succ_le_of_lt (Nat.lt_of_le_of_lt (cY _) hlt);refine⟨hq,?_,Nat.le_sub_one_of_lt hlt⟩;have:=h.eq;rw[Nat.sub_mul,Nat.one_mul];have:y1<=q*y1:=Nat.le_mul_of_pos_left _ hq;omega
theorem nwb(hq:q<=2^32)(hr:2^32<=r)(he:q*y1+r=u)(jI:(u*2^32+un)/(y1*2^32+y0)<=q)(BJ:2^31<=y1)(I7:y0<2^32):(u*2^32+un)/(y1*2^32+y0)=q:=by
 have h1:=nvg u y1 y0 un q r he.symm;have hb:q*y0<=2^32*(2^32-1):=Nat.mul_le_mul hq aa;have h2:q*(y1*2^32+y0)<=u*2^32+un:=Nat.le_of_not_lt λhl=>by have:=h1.2 hl;omega
 have h3:=(Nat.le_div_iff_mul_le (show 0<y1*2^32+y0 by omega)).2 h2;omega
end
theorem N0(a b i:Nat)(hb:b<2^i):a*2^i|||b=a*2^i+b:=by
 rw[I8];exact(Nat.two_pow_add_eq_or_of_lt hb a).symm
end Px
namespace Px
open Go
theorem Ob{a b A B:Int}(ha:0<=a)(fX:a<=A)(hb:0<=b)(hb1:b<=B):0<=a*b/\a*b<=A*B:=
 ⟨Int.mul_nonneg ha hb,Int.mul_le_mul fX hb1 hb (Int.le_trans ha fX)⟩
theorem nCp(x y:Int)(hx:0<=x)(hy:0<=y)(Qd:x<18446744073709551616)(BJ:y<18446744073709551616):(x/4294967296)*(y/4294967296)+((x/4294967296)*(y%4294967296)+(x%4294967296)*(y%4294967296)/4294967296)/4294967296+(((x/4294967296)*(y%4294967296)+(x%4294967296)*(y%4294967296)/4294967296)%4294967296+(x%4294967296)*(y/4294967296))/4294967296=x*y/18446744073709551616:=by
 obtain⟨a,rfl⟩:=Og hx;obtain⟨b,rfl⟩:=Og hy;have:=IP a b aa aa;all_goals grind
def rB (x:Int):Int:=dq x.toNat
theorem nAe(n k:Nat):((n:Int)/2^k)=((n/2^k:Nat):Int):=by
 rw[Int.natCast_ediv];simp
theorem nAn{x:Int}(k:Nat)(h:2^k<=x):rB x=rB (x/2^k)+k:=by
 have h0:0<=x:=Int.le_trans (Int.le_of_lt (Int.pow_pos zA)) h;obtain⟨n,rfl⟩:=Og h0;unfold rB;have h':2^k<=n:=by
  have:((2^k:Nat):Int)<=n:=by simpa using h
  exact Int.ofNat_le.1 this
 rw[nAe,xU,xU,nJo n k h'];simp
theorem nEm{x:Int}(k:Nat)(h0:0<=x)(h:x<2^k):0<=rB x/\rB x<=k:=by simp_all[nMh,rB]
theorem DM(m s:Nat)(hs:s<=64)(h:m*2^s<18446744073709551616):IntKind.u64.wrap ((m:Int)*2^(min (Int.toNat (s:Int)) IntKind.u64.bits))=((m*2^s:Nat):Int):=by
 rw[show min (Int.toNat (s:Int)) IntKind.u64.bits=s by simp[IntKind.bits]<;>omega];all_goals grind [P1]
theorem JR(m s:Nat)(hs:s<=64):IntKind.u64.wrap ((m:Int)*2^(min (Int.toNat (s:Int)) IntKind.u64.bits))=((m*2^s%2^64:Nat):Int):=by
 rw[show min (Int.toNat (s:Int)) IntKind.u64.bits=s by simp[IntKind.bits]<;>omega];all_goals grind [nD]
theorem Qi(m s:Nat)(k:Int)(hk:k=((64-s:Nat):Int)):(m:Int).fdiv (2^(min (Int.toNat k) IntKind.u64.bits))=((m/2^(64-s):Nat):Int):=by
 subst hk;rw[show min (Int.toNat ((64-s:Nat):Int)) IntKind.u64.bits=64-s by simp[IntKind.bits]<;>omega,Yd,nAe]
theorem nwc(m s:Nat)(hs:s<=64):(m:Int).fdiv (2^(min (Int.toNat (s:Int)) IntKind.u64.bits))=((m/2^s:Nat):Int):=by
 rw[show min (Int.toNat (s:Int)) IntKind.u64.bits=s by simp[IntKind.bits]<;>omega,Yd,nAe]
theorem acZ(k:Nat)(hk:k<18446744073709551616):(BitVec.ofInt IntKind.u64.bits (k:Int)).toNat=k:=by
 rw[BitVec.ofInt_natCast,BitVec.toNat_ofNat];exact Nat.mod_eq_of_lt hk
theorem Od(a b i:Nat)(hb:b<2^i)(h:a*2^i+b<18446744073709551616):IntKind.u64.wrap ((BitVec.ofInt IntKind.u64.bits ((a*2^i:Nat):Int)|||BitVec.ofInt IntKind.u64.bits (b:Int)).toNat:Int)=((a*2^i+b:Nat):Int):=by
 rw[BitVec.toNat_or,acZ _ aa,acZ _ aa,N0 a b i hb];exact P1 aa aa
theorem DN(lo s:Nat)(hs:s<=64)(h:lo<18446744073709551616):lo/2^(64-s)<2^s:=by
 rw[Nat.div_lt_iff_lt_mul (Nat.two_pow_pos _),<-Nat.pow_add,Nat.add_sub_cancel' hs];exact h
theorem nEe(a b:Nat):((a:Int)/(b:Int))=((a/b:Nat):Int):=(Int.natCast_ediv a b).symm
theorem Oj(m i:Nat)(k:Int)(hk:k=(i:Int))(hi:i<=64):(m:Int).fdiv (2^(min (Int.toNat k) IntKind.u64.bits))=((m/2^i:Nat):Int):=by
 subst hk;exact nwc m i hi
end Px
namespace Px
open Go Go.RowKit
/-! #### own blocks that are forgotten -/
def Over (n:Nat):ad->Prop
 | []=>True
 |p::H=>n<=p.1/\Over n H
variable {H:ad}
theorem Over.mem{n:Nat}(h:Over n H):∀p∈H,n<=p.1:=by
 exact zwh
section
variable {G:Gh} {L:List World} {H:ad} {W:World}
theorem St.base(h:St Gh.no L H W){w:World}(hw:w∈L)(ho:Over w.heap.size H):Below w.heap.size w W:=
 (h.links w hw).below λk hk hx=>by
  rcases hx with hx|hx
  ·exact hx
  obtain⟨p,hp,rfl⟩:=bT.1 hx;have:=ho.mem p hp;omega
def Fr (G:Gh) (L:List World) (b:Nat):Prop:=G.X b\/ah L b
variable {b:Nat} {o:Obj}
theorem St.dropF(h:St G L ((b,o)::H) W)(ha:Fr G L b):St G L H W where
 ghost:=h.ghost
 vlt:=h.vlt
 xlt:=h.xlt
 links:=λw hw=>(h.links w hw).mono λk hk hx=>by
  rcases hx with hx|hx
  ·exact .inl hx
  simp only[dL,cd]at hx;rcases hx with rfl|hx
  ·rcases ha with ha|ha
   ·exact .inl ha
   have:=ha.mem w hw;omega
  exact .inr hx
 own:=λp hp=>h.own p (List.mem_cons_of_mem _ hp)
 nodup:=λi j p q hi hj e=>by
  have:=h.nodup (i+1) (j+1) p q (by simpa using hi) (by simpa using hj) e;omega
 apart:=λp hp=>h.apart p (List.mem_cons_of_mem _ hp)
theorem St.drop(h:St G L ((b,o)::H) W)(ha:ah L b):St G L H W:=h.dropF (.inr ha)
theorem St.adopt(h:St G L H W)(hb:W.heap[b]? =some o)(ha:bM H b)(hV:¬G.V b):St G L ((b,o)::H) W where
 ghost:=h.ghost
 vlt:=h.vlt
 xlt:=h.xlt
 links:=λw hw=>(h.links w hw).mono λk _ hx=>hx.imp id λhx=>by simp[hx]
 own:=λp hp=>by
  simp only[cd]at hp;rcases hp with rfl|hp
  ·exact hb
  exact h.own p hp
 nodup:=λi j p q hi hj e=>by
  cases i with
  |zero=>
   cases j with
   |zero=>rfl
   |succ j=>
    simp only[J8,wK,Jd]at hi hj;subst hi;exact absurd (bT.2 ⟨q,cA hj,e.symm⟩) ha.mem
  |succ i=>
   cases j with
   |zero=>
    simp only[J8,wK,Jd]at hi hj;subst hj;exact absurd (bT.2 ⟨p,cA hi,e⟩) ha.mem
   |succ j=>
    simp only[Jd]at hi hj;rw[h.nodup i j p q hi hj e]
 apart:=λp hp=>by
  simp only[cd]at hp;rcases hp with rfl|hp
  ·exact hV
  exact h.apart p hp
end
/-! #### results -/
section
variable {C:Cx} {fn:Func} {R:Ending->World->Prop} {E:Env} {G:Gh} {L:List World} {H:ad}
def RS (C:Cx) (G:Gh) (L:List World) (H:ad) (E:Env):List ResultVar->List Value->Prop
 | [],vs=>vs=[]
 |r::rs,vs=>∃v us,vs=v::us/\(match r with
  | .tmp t=>look E t=some v
  | .cell t T=>∀a W,Fits E a->St G L H W->(do loadVar T (<-asAddr (a.tmps.getD t undef)):Sem Value).run C.P W= .ok v W)/\RS C G L H E rs us
theorem RS.run:∀{rs:List ResultVar} {vs:List Value},RS C G L H E rs vs->∀(a:Act) (W:World),Fits E a->St G L H W->(rs.mapM λr=>(match r with| .tmp t=>pure (a.tmps.getD t undef)| .cell b t=>do loadVar t (<-asAddr (a.tmps.getD b undef)):Sem Value)).run C.P W= .ok vs W
 | [],vs,h,a,W,_,_=>by cases h;simp
 |r::rs,vs,h,a,W,hF,hS=>by
  obtain⟨v,us,rfl,hr,h⟩:=h;have ih:=RS.run h a W hF hS;cases r with
  |tmp t=>
   have:=hF t v hr;simp only[Act.eval]at this;simp[-Array.getD_eq_getD_getElem?,List.mapM_cons,ih,this]
  |cell b T=>
   have:=hr a W hF hS;rw[List.mapM_cons,Sem.run_bind];simp only[this];simp[-Array.getD_eq_getD_getElem?,ih]
variable {rs:List ResultVar} {vs:List Value}
theorem RS.t{t:Nat}{v:Value}(h:look E t=some v)(k:RS C G L H E rs vs):RS C G L H E (.tmp t::rs) (v::vs):=⟨v,vs,rfl,h,k⟩
variable {cs:Array Value} {b i:Nat} {fr:Nat×Nat}
theorem RS.w{t T off ct:Nat}{v:Value}(hi:H[i]? =some (b,.cells cs ct fr))(hA:fe C.P T false)(hx:look E t=some (ptr b off))(hv:cs[off]? =some v)(k:RS C G L H E rs vs):RS C G L H E (.cell t T::rs) (v::vs):=
 ⟨v,vs,rfl,λa W hF hS=>by
  have:=hF t _ hx;simp only[Act.eval]at this;simp[-Array.getD_eq_getD_getElem?,this,asAddr,nWe hA (hS.own _ (cA hi)) hv],k⟩
theorem RS.wA{t T off ct n:Nat}(hi:H[i]? =some (b,.cells cs ct fr))(hA:fe C.P T true)(hZ:nL C.P T n)(hx:look E t=some (ptr b off))(hv:off+n<=cs.size)(k:RS C G L H E rs vs):RS C G L H E (.cell t T::rs) (.agg (cut cs off n)::vs):=
 ⟨_,vs,rfl,λa W hF hS=>by
  have:=hF t _ hx;simp only[Act.eval]at this;simp[-Array.getD_eq_getD_getElem?,this,asAddr,n8g hA hZ (hS.own _ (cA hi)) hv],k⟩
variable {w1:World}
theorem RS.r{t T off ct:Nat}{v:Value}(hA:fe C.P T false)(hx:look E t=some (ptr b off))(hm:w1∈L)(hb:w1.heap[b]? =some (.cells cs ct fr))(hG:¬G.X b)(hO:bM H b)(hv:cs[off]? =some v)(k:RS C G L H E rs vs):RS C G L H E (.cell t T::rs) (v::vs):=
 ⟨_,vs,rfl,λa W hF hS=>by
  have:=hF t _ hx;simp only[Act.eval]at this;simp[-Array.getD_eq_getD_getElem?,this,asAddr,nWe hA (hS.old hm hb hG hO) hv],k⟩
theorem RS.n:RS C G L H E [] []:=rfl
def MW:List Value->Value
 | [v]=>v
 |vs=>.tuple vs.toArray
variable {a:Act} {W:World}
theorem RS.res(h:RS C G L H E rs vs)(hr:fn.results=rs.toArray)(hF:Fits E a)(hS:St G L H W):(results fn a.tmps).run C.P W= .ok (MW vs) W:=by
 have:=h.run a W hF hS;unfold results;rw[hr,Sem.run_bind,List.mapM_toArray];simp only[Sem.run_map];refine(congrArg (λr=>Result.andThen (Result.andThen r _) _) this).trans ?_
 match vs with
 | []=>rfl
 | [v]=>rfl
 |v::u::vs=>simp[MW]
theorem bQ{e:Exit}(he:e= .ret\/e= .normal)(hr:fn.results=rs.toArray)(h:RS C G L H E rs vs)(hR:∀W,St G L H W->R (.returned (MW vs)) W):PJ C (bodyPost C.P fn R) e E [] G L H:=λa W _ hD hF hS=>by
 have:bodyPost C.P fn R .ret a W:=⟨hD,_,h.res hr hF hS,hR W hS⟩;rcases he with rfl|rfl<;>exact this
theorem cu{v:Value}{w:World}{e:Exit}(he:e= .ret\/e= .normal)(hr:fn.results=rs.toArray)(h:RS C Gh.no L H E rs vs)(hw:w∈L)(ho:Over w.heap.size H)(hv:MW vs=v):PJ C (bodyPost C.P fn (aP w v)) e E [] Gh.no L H:=bQ he hr h λ_ hS=>⟨by rw[hv],hS.base hw ho⟩
/-! #### a callee that writes a block -/
def J0 (w:World) (v:Value) (b:Nat) (o:Obj):Ending->World->Prop:=λe w'=>e= .returned v/\aQ (· =b) w w'/\w'.heap[b]? =some o
variable {o:Obj}
theorem nom{w:World}(h:w.heap[b]? =some o):St Gh.no [w] [(b,o)] w where
 ghost:=trivial
 vlt:=λ_ h=>h.elim
 xlt:=λ_ h=>h.elim
 links:=λw' hw=>by simp at hw;subst hw;exact aQ.refl _ _
 own:=λp hp=>by simp at hp;subst hp;exact h
 nodup:=λi j p q hi hj _=>by
  have h1:=(gW.1 hi).1;have h2:=(gW.1 hj).1;simp at h1 h2;omega
 apart:=λ_ _ h=>h.elim
end
section
variable {C:Cx} {Q:bC} {E:Env} {D:List Deferred} {G:Gh} {L:List World} {H:ad} {ops:Array Oper} {l:List Oper}
variable {d T ty f:Nat} {pos:String} {aC:Array Edge} {g:Option (Nat×Bool)} {x y:Operand} {xs:List Operand} {vs:List Value} {eJ:Array Nat}
theorem CY{v:Value}{cap:List Value}(hx:ev E x=some (.func (.func f) #[] cap.toArray))(aA:eU C.P f)(hw:nr ops E g=some true)(hN:Nat.blt d C.N=true)(ha:jy E xs=some vs)(hc:∀W,St G L H W->Calls C.P f (vs++cap).toArray W (aP W v))(k:OJ C ops Q l ((d,v)::E) D G L H):OJ C ops Q (⟨some d,.call ⟨.value x,xs.toArray,eJ⟩,ty,pos,aC,g⟩::l) E D G L H:=
 nK rfl hw hx ha zJ aA λa W jz hD hF hS=>(hc W hS).mono (by
  rintro e W' ⟨rfl,hb⟩;exact k (a.put (some d) v) W' z8 z6 (hF.put _ z7) (hS.step hb))
variable {b i:Nat} {o:Obj}
theorem XC{v:Value}{first cap:List Value}{o':Obj}(hi:H[i]? =some (b,o))(hx:ev E x=some (.func (.func f) first.toArray cap.toArray))(aA:eU C.P f)(hw:nr ops E g=some true)(hN:Nat.blt d C.N=true)(ha:jy E xs=some vs)(hc:∀W,St G L H W->W.heap[b]? =some o->Calls C.P f (first++vs++cap).toArray W (J0 W v b o'))(k:OJ C ops Q l ((d,v)::E) D G L (H.set i (b,o'))):OJ C ops Q (⟨some d,.call ⟨.value x,xs.toArray,eJ⟩,ty,pos,aC,g⟩::l) E D G L H:=
 nK rfl hw hx ha zJ aA λa W jz hD hF hS=>(hc W hS (hS.own _ (cA hi))).mono (by
  rintro e W' ⟨rfl,hk,hb⟩;exact k (a.put (some d) v) W' z8 z6 (hF.put _ z7) (hS.put hi hk hb))
variable {H':ad}
theorem OJ.reH(e:H=H')(k:OJ C ops Q l E D G L H'):OJ C ops Q l E D G L H:=by rw[e];exact k
theorem CJ.reH{c:Code}(e:H=H')(k:CJ C c Q E D G L H'):CJ C c Q E D G L H:=by rw[e];exact k
theorem PJ.reH{e':Exit}(e:H=H')(k:PJ C Q e' E D G L H'):PJ C Q e' E D G L H:=by rw[e];exact k
variable {e:Nat}
/-! #### values -/
theorem mE{base:Option Addr}{n c:Nat}{t:Nat}(hU:C.P.underlying t=some (.slice e))(hx:ev E x=some (.slice base n c)):RV C G L H E (.call ⟨.builtin .len,#[x],#[t]⟩) (.int .i64 (n:Int)):=λd ty pos aC g a W hF _=>by
 simp[execOp,hF.ev hx,resolve,invoke,Deferred.ofValue,builtin,Builtin.len_,run_underlying hU,goInt]
end
section
variable {C:Cx} {Q:bC} {E:Env} {D:List Deferred} {G:Gh} {L:List World} {H:ad} {ops:Array Oper} {l:List Oper}
variable {d T ty f:Nat} {pos:String} {aC:Array Edge} {g:Option (Nat×Bool)} {x y:Operand} {xs:List Operand} {vs:List Value} {eJ:Array Nat}
def N1 (E:Env):List (Nat×Operand)->Option (List (Nat×Value))
 | []=>some []
 |(i,x)::ps=>match ev E x,N1 E ps with
  |some v,some vs=>some ((i,v)::vs)
  |_,_=>none
theorem UY{a:Act}(h:Fits E a):∀(ps:List (Nat×Operand)) (vs:List (Nat×Value)),N1 E ps=some vs->ps.map (λ(i,x)=>(i,a.eval x))=vs
 | [],vs,e=>by cases e;rfl
 |(i,x)::ps,vs,e=>by
  simp only[N1]at e;split at e
  ·rename_i v us hv hus;cases e
   simp[h.ev hv,UY h ps us hus]
  cases e
theorem IQ(xs:List Value):∀(cs:Array Value) (off k:Nat),(xs.zipIdx k).foldl (λcs (c,j)=>cs.setIfInBounds (off+j) c) cs=setCells cs (off+k) xs:=by
 induction xs with
 |nil=>intro cs off k;rfl
 |cons x xs ih=>intro cs off k;simp only[List.zipIdx_cons,List.foldl_cons,setCells];exact ih _ off (k+1)
theorem n1p(xs cs:Array Value)(off:Nat):xs.zipIdx.foldl (λcs (c,j)=>cs.setIfInBounds (off+j) c) cs=setCells cs off xs.toList:=by
 rw[<-Array.foldl_toList,Array.toList_zipIdx];exact IQ xs.toList cs off 0
def jV:List Value->Nat->List Value->List Value
 | [],_,_=>[]
 |c::cs,0,[]=>c::cs
 |_::cs,0,x::xs=>x::jV cs 0 xs
 |c::cs,n+1,xs=>c::jV cs n xs
theorem nqi(cs:List Value)(n:Nat):jV cs n []=cs:=by
 induction cs generalizing n with
 |nil=>cases n<;>rfl
 |cons c cs ih=>cases n with
  |zero=>rfl
  |succ n=>simp[jV,ih]
theorem IS(cs:List Value)(x:Value)(xs:List Value):∀n,jV (cs.set n x) (n+1) xs=jV cs n (x::xs):=by
 induction cs with
 |nil=>intro n;cases n<;>rfl
 |cons c cs ih=>intro n;cases n with
  |zero=>rfl
  |succ n=>simp only[ec,jV];rw[ih]
theorem nZ(xs:List Value):∀(cs:Array Value) (off:Nat),(setCells cs off xs).toList=jV cs.toList off xs:=by induction xs<;>grind [nqi,setCells,IS]
theorem IT(cs xs:Array Value)(h:cs.size=xs.size):setCells cs 0 xs.toList=xs:=by
 apply Array.ext';rw[nZ];have key:∀(l r:List Value),l.length=r.length->jV l 0 r=r:=by
  intro l;induction l with
  |nil=>intro r h;simp at h;have:=my h.symm;subst this;rfl
  |cons c l ih=>intro r h;cases r with
   |nil=>simp at h
   |cons x r=>simp only[jV];rw[ih r BK]
 exact key _ _ BK
variable {cs:Array Value} {b i:Nat}
theorem jO{t n:Nat}{v:Value}(hi:H[i]? =some (b,.cells cs t (0,0)))(hZ:nL C.P T n)(hw:nr ops E g=some true)(hx:ev E x=some (ptr b 0))(hy:ev E y=some v)(hv:v.cells.size=n)(hn:cs.size=n)(h1:bD v.cells.toList=true)(k:OJ C ops Q l E D G L (H.set i (b,.cells v.cells t (0,0)))):OJ C ops Q (⟨none,.store T x y,ty,pos,aC,g⟩::l) E D G L H:=
 kT hi hZ hw hx hy hv aa h1 (by rw[IT cs v.cells aa];exact k)
def P4 (pl:Nat->Option (Nat×Nat)):List Value->List (Nat×Value)->Option (List Value)
 |cs,[]=>some cs
 |cs,(i,v)::ps=>match pl i with
  |none=>none
  |some (off,n)=>match Nat.beq v.cells.size n&&Nat.ble (off+n) cs.length with
   |true=>P4 pl (jV cs off v.cells.toList) ps
   |false=>none
theorem UZ{pl:Nat->Option (Nat×Nat)}:∀{ps:List (Nat×Value)} {cs:Array Value} {ds:List Value},P4 pl cs.toList ps=some ds->Instr.fill pl cs ps=some ds.toArray
 | [],cs,ds,h=>by simp only[P4,wK]at h;subst h;rfl
 |(i,v)::ps,cs,ds,h=>by
  simp only[P4]at h;unfold Instr.fill;cases hp:pl i with
  |none=>rw[hp]at h;simp at h
  |some q=>
   obtain⟨off,n⟩:=q;rw[hp]at h;simp only at h ⊢;split at h
   ·rename_i hb;simp only[mO,Nat.beq_eq,Nat.ble_eq]at hb;have h1:v.cells.size=n:=hb.1;have h2:off+n<=cs.size:=by simpa using hb.2
    rw[if_neg mV,n1p];exact UZ (by rw[nZ];exact h)
   simp at h
def AD:Nat->List Value->List (Nat×Value)
 |_,[]=>[]
 |k,v::vs=>(k,v)::AD (k+1) vs
def nY:List Value->List Value
 | []=>[]
 |v::vs=>v.cells.toList++nY vs
def U0 (m:Nat):List Value->Bool
 | []=>true
 |v::vs=>Nat.beq v.cells.size m&&U0 m vs
theorem nFd(a b c xs:List Value)(h:xs.length=b.length):jV (a++(b++c)) a.length xs=a++(xs++c):=by
 induction a with
 |nil=>
  simp only[eX,fO];induction b generalizing xs with
  |nil=>simp at h;subst h;simp[nqi]
  |cons y b ih=>
   cases xs with
   |nil=>simp at h
   |cons x xs=>simp only[im,jV];rw[ih xs BK]
 |cons y a ih=>simp only[im,dO,jV];rw[ih]
theorem n1e(m:Nat):∀(vs:List Value) (k:Nat) (a c:List Value),U0 m vs=true->a.length=k*m->c.length=vs.length*m->P4 (λi=>some (i*m,m)) (a++c) (AD k vs)=some (a++nY vs)
 | [],k,a,c,_,_,hc=>by
  have:c=[]:=my (by simpa using hc);subst this;rfl
 |v::vs,k,a,c,hs,ha,hc=>by
  simp only[U0,mO,Nat.beq_eq]at hs;simp only[dO,qh,Nat.one_mul]at hc;simp only[AD,P4];have hv:v.cells.toList.length=m:=by simpa using hs.1
  obtain⟨b,c',rfl,hb⟩:∃b c',c=b++c'/\b.length=m:=⟨c.take m,c.drop m,(AV m c).symm,by simp;omega⟩;have ht:(Nat.beq v.cells.size m&&Nat.ble (k*m+m) (a++(b++c')).length)=true:=by
   simp only[mO,Nat.beq_eq,Nat.ble_eq,cO]at *;omega
  rw[ht];simp only;rw[<-ha,nFd a b c' _ aa];simp only[cO]at hc;have:=n1e m vs (k+1) (a++v.cells.toList) c' hs.2 (by rw[cO,qh];omega) aa;rw[jh]at this;rw[this,nY,jh]
def qp (P:Program):List Field->List (Nat×Nat)->Prop
 | [],ps=>ps=[]
 |f::fs,ps=>∃n qs,ps=(f.offset,n)::qs/\nL P f.type n/\qp P fs qs
theorem qp.n{P:Program}:qp P [] []:=rfl
theorem qp.c{P:Program}{fi:Field}{fs:List Field}{n:Nat}{qs:List (Nat×Nat)}(h:nL P fi.type n)(k:qp P fs qs):qp P (fi::fs) ((fi.offset,n)::qs):=⟨n,qs,rfl,h,k⟩
theorem qp.run{P:Program}(W:World):∀{fs:List Field} {ps:List (Nat×Nat)},qp P fs ps->(fs.mapM λf=>Functor.map (Prod.mk f.offset) (sizeOf f.type):Sem _).run P W= .ok ps W
 | [],ps,h=>by cases h;simp
 |f::fs,ps,h=>by
  obtain⟨n,qs,rfl,hn,h⟩:=h;simp[List.mapM_cons,hn W,qp.run W h]
variable {ps:List (Nat×Operand)} {z:Value}
theorem vF{fs:List Field}{vs:List (Nat×Value)}{pl:List (Nat×Nat)}{cs:List Value}(hU:C.P.underlying T=some (.struct fs.toArray))(hz:Ay C.P T z)(hp:qp C.P fs pl)(ha:N1 E ps=some vs)(hf':P4 (pl[·]?) z.cells.toList vs=some cs):RV C G L H E (.build T ps.toArray) (.agg cs.toArray):=λd ty pos aC g a W hF _=>by
 have hf:=UZ hf';have h2:(ps.toArray).map (λ(i,x)=>(i,a.eval x))=vs.toArray:=by rw[DH,UY hF ps vs ha]
 have h3:=hp.run W;simp[execOp,h2,Instr.build,hz W,run_underlying hU,List.mapM_toArray,h3,hf]
variable {e m:Nat}
theorem U1{n:Nat}{vs:List (Nat×Value)}{cs:List Value}(hU:C.P.underlying T=some (.array n e))(hz:Ay C.P T z)(hp:nL C.P e m)(ha:N1 E ps=some vs)(hf':P4 (λi=>some (i*m,m)) z.cells.toList vs=some cs):RV C G L H E (.build T ps.toArray) (.agg cs.toArray):=λd ty pos aC g a W hF _=>by
 have hf:=UZ hf';have h2:(ps.toArray).map (λ(i,x)=>(i,a.eval x))=vs.toArray:=by rw[DH,UY hF ps vs ha]
 simp[execOp,h2,Instr.build,hz W,run_underlying hU,hp W,hf]
variable {a:Act} {W:World}
theorem nHd{P:Program}{n:Nat}{vs:List (Nat×Value)}(hU:P.underlying T=some (.slice e))(hp:nL P e m)(hz:Ay P e z)(ha:ps.map (λ(i,x)=>(i,a.eval x))=vs)(U2:Nat.ble (n*m) 16777216=true)(hf:Instr.fill (λi=>some (i*m,m)) ((Array.range (n*m)).map (λj=>((if n*m=0 then #[]else z.cells)[j%(if n*m=0 then #[]else z.cells).size]!))) vs=some cs):(execOp a.eval ⟨some d,.buildSlice T n ps.toArray,ty,pos,aC,g⟩).run P W= .ok (.value (.slice (some ⟨W.heap.size,0,none⟩) n n)) (W.alloc (.cells cs e (0,0))):=by
 have h2:(ps.toArray).map (λ(i,x)=>(i,a.eval x))=vs.toArray:=by rw[DH,ha]
 have ac1:¬(n*m>2^24):=by have:=eh U2;omega
 by_cases h0:n*m=0
 ·rw[if_pos h0]at hf;simp[execOp,h2,Instr.buildSlice,run_underlying hU,hp W,newRow,newObj];rw[if_neg (by simpa using ac1)];simp[h0]at hf ⊢;simp[hf,Sem.run]
 rw[if_neg h0]at hf;simp only[execOp,h2,Instr.buildSlice,Sem.run_bind,run_underlying hU,hp W,Result.andThen,if_neg ac1,if_neg h0,hz W,Sem.run_pure,hf,newRow,newObj];simp[Sem.run]
theorem nfh{α:Type}(n:Nat)(f:Nat->α):((Array.range n).map f).toList.length=n:=by simp
theorem rM{n:Nat}{vs:List (Nat×Value)}(hU:C.P.underlying T=some (.slice e))(hp:nL C.P e m)(hz:Ay C.P e z)(hw:nr ops E g=some true)(hN:Nat.blt d C.N=true)(ha:N1 E ps=some vs)(U2:Nat.ble (n*m) 16777216=true)(hs:vs=AD 0 (vs.map (·.2)))(hl:vs.length=n)(hm:U0 m (vs.map (·.2))=true)(k:∀(b:Nat) (w1:World),w1.heap[b]? =some (.cells (nY (vs.map (·.2))).toArray e (0,0))->ah L b->bM H b->¬G.X b->w1.heap.size=b+1->OJ C ops Q l ((d,.slice (some ⟨b,0,none⟩) n n)::E) D G (w1::L) H):OJ C ops Q (⟨some d,.buildSlice T n ps.toArray,ty,pos,aC,g⟩::l) E D G L H:=
 ru zJ hw hN λa W hF hS=>⟨_,_,_,_,nHd hU hp hz (UY hF ps vs ha) U2 (UZ (by
  have:=n1e m (vs.map (·.2)) 0 [] ((Array.range (n*m)).map (λj=>((if n*m=0 then #[]else z.cells)[j%(if n*m=0 then #[]else z.cells).size]!))).toList hm zJ (by rw[nfh,eO,hl]);rw[<-hs,eX,eX]at this;exact this)),(hS.step (n4c W _)).snap,
  k W.heap.size _ (heap_alloc_new W _) hS.sizes hS.offNew hS.mNew zJ⟩
variable {K:IntKind}
theorem uW{n:Nat}{i:Int}{v:Value}(hU:C.P.underlying T=some (.array n e))(hA:fe C.P e false)(hZ:nL C.P e m)(hx:ev E x=some (.agg cs))(hy:ev E y=some (.int K i))(h0:0<=i)(h1:i<n)(hv:cs[i.toNat*m]? =some v):RV C G L H E (.index T x y) v:=λd ty pos aC g a W hF _=>by
 simp[execOp,hF.ev hx,hF.ev hy,Instr.index,asIntOf,run_underlying hU,h0,h1,hZ W,part,hA W,hv]
end
/-! #### numbers of 32 bits -/
abbrev u32 (x:BitVec 32):Value:=.int .u32 (x.toNat:Int)
theorem Ng(x:BitVec 32):IntKind.u32.wrap (x.toNat:Int)=(x.toNat:Int):=by
 rw[nlf];have:=x.isLt;omega
theorem CT(x:BitVec 32):BitVec.ofInt IntKind.u32.bits (x.toNat:Int)=x:=by
 show BitVec.ofInt 32 (x.toNat:Int)=x;all_goals grind
section
variable {C:Cx} {E:Env} {G:Gh} {L:List World} {H:ad} {T U:Nat} {x y:Operand} {a b:BitVec 32}
section
variable (hx:ev E x=some (u32 a))(hy:ev E y=some (u32 b))
include hx hy
theorem jt:RV C G L H E (.binOp .add T x y U) (u32 (a+b)):=
 RV.re (pX hx hy) (congrArg (Value.int .u32) (by rw[nlf,BitVec.toNat_add];omega))
theorem lg:RV C G L H E (.binOp .xor T x y U) (u32 (a^^^b)):=
 RV.re (yR hx hy) (congrArg (Value.int .u32) (by rw[CT,CT];exact Ng (a^^^b)))
theorem yM:RV C G L H E (.binOp .and T x y U) (u32 (a&&&b)):=
 RV.re (IF hx hy) (congrArg (Value.int .u32) (by rw[CT,CT];exact Ng (a&&&b)))
theorem AI:RV C G L H E (.binOp .or T x y U) (u32 (a|||b)):=
 RV.re (AG hx hy) (congrArg (Value.int .u32) (by rw[CT,CT];exact Ng (a|||b)))
end
variable {K':IntKind}
section
variable (j:Nat)(hj:j<=32){n:Int}(hn:n=(j:Int))(hx:ev E x=some (u32 a))(hy:ev E y=some (.int K' n))
include hj hn hx hy
theorem D2:RV C G L H E (.binOp .shl T x y U) (u32 (a<<<j)):=by
 subst hn;refine RV.re (rC hx hy (Int.natCast_nonneg _)) (congrArg (Value.int .u32) ?_);have e:min (Int.toNat (j:Int)) IntKind.u32.bits=j:=by simp[IntKind.bits];omega
 rw[e,nlf,BitVec.toNat_shiftLeft,Nat.shiftLeft_eq];simp
theorem yK:RV C G L H E (.binOp .shr T x y U) (u32 (a>>>j)):=by
 subst hn;refine RV.re (mB hx hy (Int.natCast_nonneg _)) (congrArg (Value.int .u32) ?_);have e:min (Int.toNat (j:Int)) IntKind.u32.bits=j:=by simp[IntKind.bits];omega
 rw[e,Yd,BitVec.toNat_ushiftRight,Nat.shiftRight_eq_div_pow];simp
end
variable {K:IntKind}
theorem Qq{S T':Nat}{ds:TypeDesc}{m:Int}(II:C.P.underlying S=some ds)(hT:C.P.underlying T'=some (.int .u32))(hx:ev E x=some (.int K m)):RV C G L H E (.convert S T' x) (u32 (BitVec.ofInt 32 m)):=
 RV.re (kZ II hT hx) (congrArg (Value.int .u32) (by rw[nlf,BitVec.toNat_ofInt];omega))
end
def AH (v:BitVec 32) (n:Nat):BitVec 32:=v>>>n|||v<<<(32-n)
/-! #### cells by a function -/
def cf (n:Nat) (f:Nat->Value):Array Value:=((List.range n).map f).toArray
theorem Ot(n:Nat)(f:Nat->Value)(i:Nat)(h:i<n):(cf n f)[i]? =some (f i):=by simp[cf,h]
theorem D5(n:Nat)(f:Nat->Value):(cf n f).size=n:=by simp[cf]
def J4 {α:Type} (f:Nat->α) (i:Nat) (v:α):Nat->α:=λj=>if j=i then v else f j
theorem XH(n:Nat)(f:Nat->Value)(i:Nat)(v:Value):setCells (cf n f) i [v]=cf n (J4 f i v):=by
 apply Array.ext';rw[nZ];simp only[cf];apply C3;intro j;have key:∀(l:List Value) (k:Nat),jV l k [v]=l.set k v:=by
  intro l;induction l with
  |nil=>intro k;cases k<;>rfl
  |cons c l ih=>intro k;cases k with
   |zero=>simp[jV,nqi]
   |succ k=>simp[jV,ih]
 all_goals grind [J4]
theorem Vl{n:Nat}{f g:Nat->Value}(h:∀i,i<n->f i=g i):cf n f=cf n g:=by grind [cf]
/-! #### SHA-256, as_ numbers -/
def an4:List (BitVec 32):=[1116352408,1899447441,3049323471,3921009573,961987163,1508970993,2453635748,2870763221,3624381080,310598401,607225278,1426881987,1925078388,2162078206,2614888103,3248222580,3835390401,4022224774,264347078,604807628,770255983,1249150122,1555081692,1996064986,2554220882,2821834349,2952996808,3210313671,3336571891,3584528711,113926993,338241895,666307205,773529912,1294757372,1396182291,1695183700,1986661051,2177026350,2456956037,2730485921,2820302411,3259730800,3345764771,3516065817,3600352804,4094571909,275423344,430227734,506948616,659060556,883997877,958139571,1322822218,1537002063,1747873779,1955562222,2024104815,2227730452,2361852424,2428436474,2756734187,3204031479,3329325298]
def kk (i:Nat):BitVec 32:=an4.getD i 0
def an5:List (BitVec 32):=[1779033703,3144134277,1013904242,2773480762,1359893119,2600822924,528734635,1541459225]
def hh (i:Nat):BitVec 32:=an5.getD i 0
def Vh (m:Nat->Int) (o:Nat):BitVec 32:=BitVec.ofInt 32 (m o)<<<24|||BitVec.ofInt 32 (m (o+1))<<<16|||BitVec.ofInt 32 (m (o+2))<<<8|||BitVec.ofInt 32 (m (o+3))
def s0 (x:BitVec 32):BitVec 32:=AH x 7^^^AH x 18^^^x>>>3
def s1 (x:BitVec 32):BitVec 32:=AH x 17^^^AH x 19^^^x>>>10
def gA (m:Nat->Int):Nat->Nat->BitVec 32
 |0=>λ_=>0
 |n+1=>J4 (gA m n) n (if n<16 then Vh m (4*n)else gA m n (n-16)+s0 (gA m n (n-15))+gA m n (n-7)+s1 (gA m n (n-2)))
structure S8 where
 a:BitVec 32
 b:BitVec 32
 c:BitVec 32
 d:BitVec 32
 e:BitVec 32
 f:BitVec 32
 g:BitVec 32
 h:BitVec 32
def chf (e f g:BitVec 32):BitVec 32:=(e&&&f)^^^((~~~ e)&&&g)
def maj (a b c:BitVec 32):BitVec 32:=(a&&&b)^^^(a&&&c)^^^(b&&&c)
theorem J6(e f g:BitVec 32):g^^^(e&&&(f^^^g))=chf e f g:=by grind [chf]
theorem J7(a b c:BitVec 32):(a&&&b)|||(c&&&(a|||b))=maj a b c:=by grind [maj]
def S8.P (s:S8) (k w:BitVec 32):BitVec 32:=s.h+(AH s.e 6^^^AH s.e 11^^^AH s.e 25)+chf s.e s.f s.g+k+w
def S8.Q (s:S8):BitVec 32:=(AH s.a 2^^^AH s.a 13^^^AH s.a 22)+maj s.a s.b s.c
def S8.step (s:S8) (k w:BitVec 32):S8:=⟨s.P k w+s.Q,s.a,s.b,s.c,s.d+s.P k w,s.e,s.f,s.g⟩
def S8.run (w:Nat->BitVec 32) (s:S8):Nat->S8
 |0=>s
 |n+1=>(S8.run w s n).step (kk n) (w n)
def S8.add (s t:S8):S8:=⟨s.a+t.a,s.b+t.b,s.c+t.c,s.d+t.d,s.e+t.e,s.f+t.f,s.g+t.g,s.h+t.h⟩
def S8.comp (s:S8) (m:Nat->Int):S8:=s.add (s.run (gA m 64) 64)
def S8.at (s:S8):Nat->BitVec 32
 |0=>s.a|1=>s.b|2=>s.c|3=>s.d|4=>s.e|5=>s.f|6=>s.g|_=>s.h
def S8.cells (s:S8):Array Value:=#[u32 s.a,u32 s.b,u32 s.c,u32 s.d,u32 s.e,u32 s.f,u32 s.g,u32 s.h]
def S8.init:S8:=⟨1779033703,3144134277,1013904242,2773480762,1359893119,2600822924,528734635,1541459225⟩
def ij (n:Nat):Nat:=(n+72)/64
def yO (n:Nat) (m:Nat->Int) (i:Nat):Int:=
 if i<n then m i else if i=n then 128 else if i<64*ij n-8 then 0 else((8*n/2^(8*(64*ij n-1-i)):Nat):Int)%256
def tz (n:Nat) (m:Nat->Int):Nat->S8
 |0=>S8.init
 |j+1=>(tz n m j).comp (λi=>yO n m (64*j+i))
def D7 (s:S8) (i:Nat):Int:=((s.at (i/4)).toNat/2^(24-8*(i%4))%256:Nat)
def vZ (n:Nat) (m:Nat->Int):Nat->Int:=D7 (tz n m (ij n))
theorem nGn(n:Nat)(m:Nat->Int):∀i,0<=vZ n m i/\vZ n m i<256:=λi=>by unfold vZ D7;omega
theorem S8.cells_cf(s:S8):s.cells=cf 8 (λi=>u32 (s.at i)):=rfl
theorem S8.cells_at(s:S8)(i:Nat)(h:i<8):s.cells[i]? =some (u32 (s.at i)):=by rw[S8.cells_cf];exact Ot 8 _ i h
theorem PI{α:Type}:∀(H:List α) (i:Nat) (p:α),H[i]? =some p->H.Perm (p::H.eraseIdx i)
 | [],i,p,h=>by simp at h
 |q::H,0,p,h=>by simp at h;subst h;simp
 |q::H,i+1,p,h=>by
  simp only[Jd]at h;simp only[wL];exact((PI H i p h).cons q).trans (List.Perm.swap _ _ _)
theorem nng{α:Type}:∀(H:List α) (i:Nat) (q:α),i<H.length->(H.set i q).Perm (q::H.eraseIdx i)
 | [],i,q,h=>by simp at h
 |r::H,0,q,_=>by simp
 |r::H,i+1,q,h=>by
  simp only[ec,wL];exact((nng H i q BK).cons r).trans (List.Perm.swap _ _ _)
section
variable {G:Gh} {L:List World} {H:ad} {W:World}
variable {b i:Nat} {o:Obj}
theorem St.renew(h:St G L H W)(o':Obj)(hi:H[i]? =some (b,o))(ha:ah L b):St G L (H.set i (W.heap.size,o')) (W.alloc o'):=by
 have lM:=(gW.1 hi).1;have hp:H.Perm ((b,o)::H.eraseIdx i):=PI H i _ hi;have h1:=(h.perm hp).drop ha;exact(h1.alloc o').perm (nng H i _ lM).symm
theorem St.dropAt(h:St G L H W)(hi:H[i]? =some (b,o))(ha:ah L b):St G L (H.eraseIdx i) W:=by
 have lM:=(gW.1 hi).1;have hp:H.Perm ((b,o)::H.eraseIdx i):=PI H i _ hi;exact(h.perm hp).drop ha
end
def Rd (C:Cx) (G:Gh) (L:List World) (H:ad) (size n:Nat) (v:Value) (news:List Value):Prop:=
 ∀W,St G L H W->(Builtin.firstCells size n v).run C.P W= .ok news.toArray W
section
variable {C:Cx} {Q:bC} {E:Env} {D:List Deferred} {G:Gh} {L:List World} {H:ad} {ops:Array Oper} {l:List Oper}
variable {d T ty f:Nat} {pos:String} {aC:Array Edge} {g:Option (Nat×Bool)} {x y:Operand} {xs:List Operand} {vs:List Value} {eJ:Array Nat}
variable {cs:Array Value} {b:Nat} {fr:Nat×Nat} {W:World}
theorem nKh{P:Program}{off size n k c t:Nat}(h:W.heap[b]? =some (.cells cs t fr))(hn:off+n*size<=cs.size):(Builtin.firstCells size n (.slice (some ⟨b,off,none⟩) k c)).run P W= .ok (cut cs off (n*size)) W:=by
 simp only[Builtin.firstCells];rw[nCg h hn,nyf]
variable {news:List Value} {i:Nat}
theorem Rd.own{size n off k c t:Nat}(hi:H[i]? =some (b,.cells cs t fr))(hn:off+n*size<=cs.size)(he:(cs.toList.drop off).take (n*size)=news):Rd C G L H size n (.slice (some ⟨b,off,none⟩) k c) news:=λW hS=>by rw[nKh (hS.own _ (cA hi)) hn];unfold cut;rw[he]
variable {w1:World}
theorem Rd.old{size n off k c t:Nat}(hm:w1∈L)(hb:w1.heap[b]? =some (.cells cs t fr))(hG:¬G.X b)(hO:bM H b)(hn:off+n*size<=cs.size)(he:(cs.toList.drop off).take (n*size)=news):Rd C G L H size n (.slice (some ⟨b,off,none⟩) k c) news:=λW hS=>by rw[nKh (hS.old hm hb hG hO) hn];unfold cut;rw[he]
variable {s:ByteArray}
theorem Rd.str:Rd C G L H 1 s.size (.string s) (byteCells s):=λW _=>firstCells_string s W
structure px (C:Cx) (G:Gh) (L:List World) (H:ad) (size tx:Nat) (x:Value) (n:Nat) (news:List Value):Prop where
 kind:(∃e',C.P.underlying tx=some (.slice e'))\/C.P.underlying tx=some .string
 len:∀w':World,(Builtin.lenOf x).run C.P w'= .ok n w'
 rd:Rd C G L H size n x news
 newsLen:news.length=n*size
 one:∀u∈news,u.oneCell'=true
variable {tx:Nat}
theorem px.src{size:Nat}{v:Value}{n:Nat}(h:px C G L H size tx v n news)(hS:St G L H W):Src C.P size tx v n news W:=
 ⟨h.kind,h.len,h.rd W hS,h.rd W.drew (hS.step (EJ W _)),h.newsLen,h.one⟩
theorem px.sl{size e' n c:Nat}{a:Option Addr}(hU:C.P.underlying tx=some (.slice e'))(hr:Rd C G L H size n (.slice a n c) news)(hl:news.length=n*size)(h1:∀u∈news,u.oneCell'=true):px C G L H size tx (.slice a n c) n news:=⟨.inl ⟨e',hU⟩,λ_=>rfl,hr,hl,h1⟩
theorem n7c(b:Nat):∀(news:List Value) (o:Nat) (W:World) (cs:Array Value) (t:Nat),W.heap[b]? =some (.cells cs t (0,0))->aQ (· =b) W (W.setCells b o news)/\(W.setCells b o news).heap[b]? =some (.cells (setCells cs o news) t (0,0))
 | [],o,W,cs,t,h=>⟨aQ.refl _ _,h⟩
 |v::vs,o,W,cs,t,h=>by
  obtain⟨h1,h2⟩:=n7c b vs (o+1) (W.setCell ⟨b,o,none⟩ v) _ t (ngh v h);exact⟨(neh W b o v).trans h1,h2⟩
variable {sp:List Value} {e m:Nat} {sv z:Value}
theorem agS{n len cap t:Nat}{ti:TypeInfo}{ys:List Value}(hi:H[i]? =some (b,.cells (ys++sp).toArray e (0,0)))(hU:C.P.underlying t=some (.slice e))(qY:C.P.info? e=some ti)(hz:ti.zero=some z)(hm:ti.size=m)(uy:z.cells.size=m)(hw:nr ops E g=some true)(hN:Nat.blt d C.N=true)(hx:ev E x=some (.slice (some ⟨b,0,none⟩) len cap))(hy:ev E y=some sv)(hs:px C G L H m tx sv n news)(hlen:ys.length=len*m)(wG:sp.length=(cap-len)*m)(Jf:len<=cap)(ha:ah L b)(h63:len+n<=9223372036854775807)(mM:(len+n)*ti.bytes<=140737488355328)(k:∀(b' aZ:Nat) (bY:List Value),ah L b'->len+n<=aZ->bY.length=(aZ-(len+n))*m->OJ C ops Q l ((d,.slice (some ⟨b',0,none⟩) (len+n) aZ)::E) D G L (H.set i (b',.cells (ys++news++bY).toArray e (0,0)))):OJ C ops Q (⟨some d,.call ⟨.builtin .append,#[x,y],#[t,tx]⟩,ty,pos,aC,g⟩::l) E D G L H:=
 ru zJ hw hN λa W hF hS=>by
  subst hm;have qZ:=hs.src hS;have hb:=hS.own _ (cA hi);have hex:∀{v W'},(Builtin.append_ #[t,tx] ty #[.slice (some ⟨b,0,none⟩) len cap,sv]).run C.P W= .ok v W'->(execOp a.eval ⟨some d,.call ⟨.builtin .append,#[x,y],#[t,tx]⟩,ty,pos,aC,g⟩).run C.P W= .ok (.value v) W':=by
   intro v W' hr;simp[execOp,hF.ev hx,hF.ev hy,resolve,invoke,Deferred.ofValue,builtin,hr]
  have wZ:=hs.newsLen;by_cases iO:len+n<=cap
  ·have hle:(len+n)*ti.size<=cap*ti.size:=w6 _ iO;have mq:(ys++sp).toArray.size=cap*ti.size:=by
    simp only[rh,cO,hlen,wG];rw[<-qh];congr 1;omega
   rw[qh]at hle;have hr:=run_append_room_src (P:=C.P) W t tx ty e ti hU qY b 0 len cap sv n news qZ iO
    (λj hj=>by rw[Lj hb];simp only[mr];rw[a8q aa];rfl)
    (λj hj=>by simp[World.frozen?,hb])
   obtain⟨h1,h2⟩:=n7c b news (0+len*ti.size) W _ _ hb;have kJ:(sp.drop (n*ti.size)).length=(cap-(len+n))*ti.size:=by
    rw[B8,wG,<-Nat.sub_mul];congr 1;omega
   have hc:setCells (ys++sp).toArray (0+len*ti.size) news=(ys++news++sp.drop (n*ti.size)).toArray:=by
    exact zPg
   rw[hc]at h2;exact⟨_,_,_,_,hex hr,hS.put hi h1 h2,k b cap _ ha iO kJ⟩
  have hold:(Builtin.firstCells ti.size len (.slice (some ⟨b,0,none⟩) len cap)).run C.P W.drew= .ok ys.toArray W.drew:=by
   exact zgh
  have hr:=run_append_grow_src (P:=C.P) W t tx ty e ti z hU qY hz (some ⟨b,0,none⟩) len cap ys hold sv n news qZ aa aa (growslice_fits aa mM);have hg:=grownCap_ge W (len+n) cap e;have hQ:=(hS.step (EJ W (W.drawn+1))).renew (.cells ((ys++news).toArray++Builtin.zeroCells z.cells (grownCap W (len+n) cap e-(len+n))) e (0,0)) hi ha;have B7:(Builtin.zeroCells z.cells (grownCap W (len+n) cap e-(len+n))).toList.length=(grownCap W (len+n) cap e-(len+n))*ti.size:=by
   simp[Builtin.zeroCells,uy]
  have hc:(ys++news).toArray++Builtin.zeroCells z.cells (grownCap W (len+n) cap e-(len+n))=(ys++news++(Builtin.zeroCells z.cells (grownCap W (len+n) cap e-(len+n))).toList).toArray:=by
   apply Array.ext';simp
  rw[hc]at hQ hr;exact⟨_,_,_,_,hex hr,hQ,k W.heap.size _ _ hS.sizes hg B7⟩
def BE (E:Env):Option Operand->Nat->Nat->Prop
 |none,d,l=>l=d
 |some o,_,l=>∃K i,ev E o=some (.int K i)/\i=(l:Int)
variable {a:Act}
theorem BE.val(hF:Fits E a):∀{lo:Option Operand} {d' l:Nat},BE E lo d' l->(lo.map a.eval=none/\l=d')\/∃K,lo.map a.eval=some (.int K (l:Int))
 |none,_,_,h=>.inl ⟨rfl,h⟩
 |some o,_,_,h=>by obtain⟨K,i,h,rfl⟩:=h;exact .inr ⟨K,by simp[hF.ev h]⟩
variable {hi:Option Operand}
theorem nMm{P:Program}(hF:Fits E a)(s:Bool){n c l h:Nat}{lo:Option Operand}(hl:BE E lo 0 l)(hh:BE E hi n h)(h1:l<=h)(h2:h<=c):(Instr.sliceBounds s n c (lo.map a.eval) (hi.map a.eval) none).run P W= .ok (l,h,c) W:=by
 rcases hl.val hF with⟨e1,e2⟩|⟨K,e1⟩<;>rcases hh.val hF with⟨f1,f2⟩|⟨K',f1⟩<;>rw[e1,f1]
 ·subst e2;subst f2;simp[Instr.sliceBounds]
 ·subst e2;simp[Instr.sliceBounds,Instr.sliceBound,asIntOf,h2]
 ·subst f2;simp[Instr.sliceBounds,Instr.sliceBound,asIntOf,h1]
 simp[Instr.sliceBounds,Instr.sliceBound,asIntOf,h1,h2]
theorem gu{off n c l h off':Nat}{lo:Option Operand}(hU:C.P.underlying T=some (.slice e))(hZ:nL C.P e m)(hx:ev E x=some (.slice (some ⟨b,off,none⟩) n c))(hl:BE E lo 0 l)(hh:BE E hi n h)(h1:l<=h)(h2:h<=c)(ho:off'=if c=l then off else off+l*m):RV C G L H E (.slice T x lo hi none) (.slice (some ⟨b,off',none⟩) (h-l) (c-l)):=λd ty pos aC g a W hF _=>by
 subst ho;have:=nMm (P:=C.P) (W:=W) hF true hl hh h1 h2;simp[execOp,hF.ev hx,Instr.sliceAt,Instr.slice,run_underlying hU,this,hZ W,UQ];split<;>rfl
theorem D4{off n l h off':Nat}{lo:Option Operand}(hU:C.P.underlying T=some (.array n e))(hZ:nL C.P e m)(hx:ev E x=some (ptr b off))(hl:BE E lo 0 l)(hh:BE E hi n h)(h1:l<=h)(h2:h<=n)(ho:off'=if n=l then off else off+l*m):RV C G L H E (.slice T x lo hi none) (.slice (some ⟨b,off',none⟩) (h-l) (n-l)):=λd ty pos aC g a W hF _=>by
 subst ho;have:=nMm (P:=C.P) (W:=W) hF false hl hh h1 h2;simp[execOp,hF.ev hx,Instr.sliceAt,run_underlying hU,Instr.sureAddr,this,hZ W,UQ];split<;>rfl
theorem eL{off n c h:Nat}(hU:C.P.underlying T=some (.slice e))(hZ:nL C.P e m)(hx:ev E x=some (.slice (some ⟨b,off,none⟩) n c))(hh:BE E hi n h)(h2:h<=c):RV C G L H E (.slice T x none hi none) (.slice (some ⟨b,off,none⟩) h c):=gu (l:=0) hU hZ hx rfl hh (cY _) h2 (by split<;>omega)
theorem fY{off n h:Nat}(hU:C.P.underlying T=some (.array n e))(hZ:nL C.P e m)(hx:ev E x=some (ptr b off))(hh:BE E hi n h)(h2:h<=n):RV C G L H E (.slice T x none hi none) (.slice (some ⟨b,off,none⟩) h n):=D4 (l:=0) hU hZ hx rfl hh (cY _) h2 (by split<;>omega)
theorem U3{fn:Fn}{fs:List Operand}{us:List Value}(hf:jy E fs=some us)(ha:jy E xs=some vs):RV C G L H E (.makeFunc fn fs.toArray xs.toArray) (.func fn us.toArray vs.toArray):=λd ty pos aC g a W hF _=>by
 have h1:(fs.toArray).map a.eval=us.toArray:=by rw[DH,NL hF fs us hf]
 have h2:(xs.toArray).map a.eval=vs.toArray:=by rw[DH,NL hF xs vs ha]
 simp[execOp,Instr.makeFunc,h1,h2]
theorem IU{a:Addr}(hx:ev E x=some (.pointer (some a))):RV C G L H E (.nilCheck x) (.pointer (some a)):=λd ty pos aC g a' W hF _=>by
 simp[execOp,hF.ev hx]
theorem yL{m:Int}(hx:ev E x=some (.int .i64 m))(h0: -9223372036854775807<=m)(h1:m<=9223372036854775807):RV C G L H E (.unOp .neg T x) (.int .i64 (-m)):=λd ty pos aC g a W hF _=>by
 simp[execOp,hF.ev hx,Op.unary,Op.intArith,UM (n:= -m) aa aa]
theorem U4{base:Option Addr}{n c t:Nat}(hU:C.P.underlying t=some (.slice e))(hx:ev E x=some (.slice base n c)):RV C G L H E (.call ⟨.builtin .cap,#[x],#[t]⟩) (.int .i64 (c:Int)):=λd ty pos aC g a W hF _=>by
 simp[execOp,hF.ev hx,resolve,invoke,Deferred.ofValue,builtin,Builtin.cap_,run_underlying hU,goInt]
theorem Vj{t off n k len cap t':Nat}(hi:H[i]? =some (b,.cells cs t' (0,0)))(hU:C.P.underlying t=some (.slice e))(hZ:nL C.P e m)(hw:nr ops E g=some true)(hN:Nat.blt d C.N=true)(hx:ev E x=some (.slice (some ⟨b,off,none⟩) len cap))(hy:ev E y=some sv)(hlen:∀w':World,(Builtin.lenOf sv).run C.P w'= .ok k w')(hn:n=min k len)(hs:Rd C G L H m n sv news)(hl:off+news.length<=cs.size)(h1:bD news=true)(kk:OJ C ops Q l ((d,.int .i64 (n:Int))::E) D G L (H.set i (b,.cells (setCells cs off news) t' (0,0)))):OJ C ops Q (⟨some d,.call ⟨.builtin .copy,#[x,y],#[t,tx]⟩,ty,pos,aC,g⟩::l) E D G L H:=
 ru zJ hw hN λa W hF hS=>by
  have hb:=hS.own _ (cA hi);obtain⟨W',hr,hk,eP⟩:=nRc (P:=C.P) (off:=off) news 0 cs W hb aa h1;refine⟨_,W',_,_,?_,hS.put hi hk eP,kk⟩;have hrd:=hs W hS;subst hn;simp[execOp,hF.ev hx,hF.ev hy,resolve,invoke,Deferred.ofValue,builtin,Builtin.copy_,run_underlying hU,hlen W,hZ W,Nat.min_def]at hrd ⊢;split<;>simp_all[goInt]
theorem XM{t ln cp:Nat}{kl kc:IntKind}{ti:TypeInfo}(hU:C.P.underlying t=some (.slice e))(qY:C.P.info? e=some ti)(hz:ti.zero=some z)(h1:z.cells=#[z])(hm:ti.size=1)(hw:nr ops E g=some true)(hN:Nat.blt d C.N=true)(hx:ev E x=some (.int kl (ln:Int)))(hy:ev E y=some (.int kc (cp:Int)))(Jf:ln<=cp)(hb:ti.bytes*cp<=281474976710656)(h63:cp<=9223372036854775807)(k:∀(b:Nat),ah L b->bM H b->OJ C ops Q l ((d,.slice (some ⟨b,0,none⟩) ln cp)::E) D G L ((b,.cells (cf cp (λ_=>z)) e (0,0))::H)):OJ C ops Q (⟨some d,.makeSlice t x y,ty,pos,aC,g⟩::l) E D G L H:=
 ru zJ hw hN λa W hF hS=>by
  have hr:=run_make (P:=C.P) W t e ti z hU qY hz kl kc ln cp (Int.natCast_nonneg _) aa (by
   have:((ti.bytes*cp:Nat):Int)<=281474976710656:=by omega
   rwa[Int.natCast_mul]at this) aa
  simp only[xU,hm,xR]at hr;have hc:madeCells z.cells cp=cf cp (λ_=>z):=by
   apply Array.ext';rw[h1];simp[madeCells,cf,Nat.mod_one]
  rw[hc]at hr;exact⟨_,_,_,_,by simp[execOp,hF.ev hx,hF.ev hy,hr],hS.alloc _,k W.heap.size hS.sizes hS.offNew⟩
variable {ps:List (Nat×Operand)}
theorem kp{n:Nat}{vs:List (Nat×Value)}(hU:C.P.underlying T=some (.slice e))(hp:nL C.P e m)(hz:Ay C.P e z)(hw:nr ops E g=some true)(hN:Nat.blt d C.N=true)(ha:N1 E ps=some vs)(U2:Nat.ble (n*m) 16777216=true)(hs:vs=AD 0 (vs.map (·.2)))(hl:vs.length=n)(hm:U0 m (vs.map (·.2))=true)(k:∀(b:Nat),ah L b->bM H b->OJ C ops Q l ((d,.slice (some ⟨b,0,none⟩) n n)::E) D G L ((b,.cells (nY (vs.map λp:Nat×Value=>p.2)++[]).toArray e (0,0))::H)):OJ C ops Q (⟨some d,.buildSlice T n ps.toArray,ty,pos,aC,g⟩::l) E D G L H:=
 ru zJ hw hN λa W hF hS=>⟨_,_,_,_,nHd hU hp hz (UY hF ps vs ha) U2 (UZ (by
  have:=n1e m (vs.map (·.2)) 0 [] ((Array.range (n*m)).map (λj=>((if n*m=0 then #[]else z.cells)[j%(if n*m=0 then #[]else z.cells).size]!))).toList hm zJ (by rw[nfh,eO,hl]);rw[<-hs,eX,eX]at this;exact this)),hS.alloc _,by have:=k W.heap.size hS.sizes hS.offNew;rw[ee]at this;exact this⟩
variable {o:Obj}
theorem OJ.dropAt(hi:H[i]? =some (b,o))(ha:ah L b)(k:OJ C ops Q l E D G L (H.eraseIdx i)):OJ C ops Q l E D G L H:=λa W hN hD hF hS=>k a W hN hD hF (hS.dropAt hi ha)
theorem CJ.dropAt{c:Code}(hi:H[i]? =some (b,o))(ha:ah L b)(k:CJ C c Q E D G L (H.eraseIdx i)):CJ C c Q E D G L H:=λa W hN hD hF hS=>k a W hN hD hF (hS.dropAt hi ha)
theorem PJ.dropAt{e':Exit}(hi:H[i]? =some (b,o))(ha:ah L b)(k:PJ C Q e' E D G L (H.eraseIdx i)):PJ C Q e' E D G L H:=λa W hN hD hF hS=>k a W hN hD hF (hS.dropAt hi ha)
end
theorem nri{P:Program}(W:World)(t tx ty e:TypeId)(i:TypeInfo)(z:Value)(ht:P.underlying t=some (.slice e))(htx:P.underlying tx=some (.int .i64))(hi:P.info? e=some i)(hz:i.zero=some z)(AQ:z.cells=#[z])(hs:i.size=1)(hb:i.bytes=1)(n:Nat)(h0:0<n)(h1:n<=1099511627776):(Builtin.append_ #[t,tx] ty #[.slice none 0 0,.int .i64 (n:Int)]).run P W= .ok (.slice (some ⟨W.heap.size,0,none⟩) n (grownCap W n 0 e)) (W.drew.alloc (.cells (cf (grownCap W n 0 e) (λ_=>z)) e (0,0))):=by
 have hw:IntKind.i64.wrap (n:Int)=(n:Int):=UM aa aa;have h48:¬(281474976710656<Builtin.nextslicecap n 0*i.bytes):=by
  have:=growslice_fits (need:=n) (old:=0) (bytes:=i.bytes) aa (by rw[hb];omega);omega
 have jI:=grownCap_ge W n 0 e;have an9:∀k,Builtin.zeroCells z.cells k=cf k (λ_=>z):=by
  intro k;apply Array.ext';rw[AQ];simp[Builtin.zeroCells,cf,Nat.mod_one]
 have aoa:cf n (λ_=>z)++cf (grownCap W n 0 e-n) (λ_=>z)=cf (grownCap W n 0 e) (λ_=>z):=by
  apply Array.ext';simp only[cf,Array.toList_append];rw[List.map_const',List.map_const',List.map_const'];simp only[List.length_range];rw[List.replicate_append_replicate];congr 1;omega
 rw[<-aoa];simp[Builtin.append_,run_underlying ht,run_underlying htx,Go.sizeOf,typeInfo,zeroValue,hi,hz,asInt,asIntOf,hw,hs,hb,show ¬((n:Int)<0) by omega,show ¬(281474976710656<(n:Int)) by omega,Nat.not_le.2 h0,
  show ¬(9223372036854775807<(n:Int)) by omega,Question.forced,Builtin.firstCells,newRow,grownCap,an9,show n≠0 by omega]at h48 ⊢
 intro h;omega
structure uo where
 b:Nat
 off:Nat
 n:Nat
 c:Nat
 m:Nat->Int
def uo.val (s:uo):Value:=.slice (some ⟨s.b,s.off,none⟩) s.n s.c
def lP (n:Nat) (m:Nat->Int):List Value:=(List.range n).map λi=>.int .u8 (m i)
def uo.l (s:uo):List Value:=lP s.n s.m
def uo.At (s:uo) (w:World):Prop:=∃cs t fr,w.heap[s.b]? =some (.cells cs t fr)/\s.off+s.n<=cs.size/\∀i,i<s.n->cs[s.off+i]? =some (.int .u8 (s.m i))
theorem Ea(n:Nat)(m:Nat->Int):(lP n m).length=n:=by simp[lP]
theorem Eb(n:Nat)(m:Nat->Int):∀u∈lP n m,u.oneCell'=true:=by
 intro u hu;obtain⟨i,_,rfl⟩:=bT.1 hu;rfl
variable {cs:Array Value}
theorem npk{off n:Nat}{m:Nat->Int}(h:off+n<=cs.size)(hm:∀i,i<n->cs[off+i]? =some (.int .u8 (m i))):(cs.toList.drop off).take (n*1)=lP n m:=by
 apply C3;all_goals grind [lP,Ea]
def nG:List uo->List Value
 | []=>[]
 |s::ss=>s.l++nG ss
theorem nmp(ss:List uo)(s:uo):nG (ss++[s])=nG ss++s.l:=by
 induction ss with
 |nil=>simp[nG]
 |cons x ss ih=>simp[nG,ih]
theorem ncg(ss:List uo)(j:Nat)(h:j<ss.length):nG (ss.take (j+1))=nG (ss.take j)++ss[j].l:=by
 rw[Oh h,nmp]
theorem nDg(ss:List uo):∀j,(nG (ss.take j)).length<=(nG ss).length:=by
 induction ss with
 |nil=>intro j;simp[nG]
 |cons x ss ih=>intro j;cases j with
  |zero=>simp[nG]
  |succ j=>simp only[Zx,nG,cO];have:=ih j;omega
section
variable {C:Cx} {Q:bC} {E:Env} {D:List Deferred} {G:Gh} {L:List World} {H:ad} {ops:Array Oper} {l:List Oper}
variable {d T ty f:Nat} {pos:String} {aC:Array Edge} {g:Option (Nat×Bool)} {x y:Operand}
variable {e tx:Nat} {z:Value}
theorem XO{n t:Nat}{ti:TypeInfo}(hU:C.P.underlying t=some (.slice e))(hUx:C.P.underlying tx=some (.int .i64))(qY:C.P.info? e=some ti)(hz:ti.zero=some z)(AQ:z.cells=#[z])(hs:ti.size=1)(hb:ti.bytes=1)(hw:nr ops E g=some true)(hN:Nat.blt d C.N=true)(hx:ev E x=some (.slice none 0 0))(hy:ev E y=some (.int .i64 (n:Int)))(h0:0<n)(h1:n<=1099511627776)(k:∀(b cap:Nat),ah L b->bM H b->n<=cap->OJ C ops Q l ((d,.slice (some ⟨b,0,none⟩) n cap)::E) D G L ((b,.cells (cf cap (λ_=>z)) e (0,0))::H)):OJ C ops Q (⟨some d,.call ⟨.builtin .append,#[x,y],#[t,tx]⟩,ty,pos,aC,g⟩::l) E D G L H:=
 ru zJ hw hN λa W hF hS=>by
  have hr:=nri (P:=C.P) W t tx ty e ti z hU hUx qY hz AQ hs hb n h0 h1;have hQ:=(hS.step (EJ W (W.drawn+1))).alloc (.cells (cf (grownCap W n 0 e) (λ_=>z)) e (0,0));refine⟨_,_,_,_,?_,hQ,k W.heap.size _ hS.sizes hS.offNew (grownCap_ge W n 0 e)⟩;simp[execOp,hF.ev hx,hF.ev hy,resolve,invoke,Deferred.ofValue,builtin,hr]
variable {xs:List Operand} {vs:List Value}
theorem Qx{eJ:Array Nat}{α:Type}{v:α->Value}{bo:α->Nat×Obj}{Φ:α->Prop}(aA:eU C.P f)(hw:nr ops E g=some true)(hN:Nat.blt d C.N=true)(ha:jy E xs=some vs)(hc:∀W,St G L H W->Calls C.P f vs.toArray W (cZ W v (λx w1=>W.heap.size<=(bo x).1/\Φ x/\w1.heap[(bo x).1]? =some (bo x).2)))(k:∀x,ah L (bo x).1->bM H (bo x).1->Φ x->OJ C ops Q l ((d,v x)::E) D G L (bo x::H)):OJ C ops Q (⟨some d,.call ⟨.value (.func f),xs.toArray,eJ⟩,ty,pos,aC,g⟩::l) E D G L H:=
 nK rfl hw rfl ha zJ aA λa W jz hD hF hS=>(hc W hS).mono (by
  rintro e W' ⟨x,rfl,hb,h1,h2,h3⟩;have mW:bM H (bo x).1:=bM.of_mem λhm=>by
   obtain⟨p,hp,e⟩:=bT.1 hm;have:=hS.lt p hp;omega
  have qQ:ah L (bo x).1:=ah.of_mem λw hw=>eE (hS.links w hw).size h1;exact k x qQ mW h2 (a.put (some d) (v x)) W' z8 z6 (hF.put _ z7)
   ((hS.step hb).adopt h3 mW (λhv=>by have:=hS.vlt _ hv;omega)))
def sB (s:ByteArray) (i:Nat):Int:=((s.data[i]?.getD 0).toNat:Int)
theorem nqn(s:ByteArray)(c i:Nat)(h:i<s.size):(bytesRow s c)[0+i]? =some (.int .u8 (sB s i)):=by
 have h':i<s.data.size:=h;rw[mr];unfold bytesRow sB;all_goals grind
theorem nol(s:ByteArray)(c:Nat):s.size<=(bytesRow s c).size:=by
 unfold bytesRow;simp only[Array.size_append,Array.size_map];exact Nat.le_add_right _ _
variable {s:ByteArray}
theorem Ou{src dst:Nat}(hs:C.P.underlying src=some .string)(hd:C.P.underlying dst=some (.slice e))(he:C.P.underlying e=some (.int .u8))(hw:nr ops E g=some true)(hN:Nat.blt d C.N=true)(hx:ev E x=some (.string s))(k:∀(b cap:Nat) (w1:World) (cs:Array Value) (fr:Nat×Nat),w1.heap[b]? =some (.cells cs e fr)->ah L b->bM H b->¬G.X b->w1.heap.size=b+1->s.size<=cap->0+s.size<=cs.size->(∀i,i<s.size->cs[0+i]? =some (.int .u8 (sB s i)))->OJ C ops Q l ((d,.slice (some ⟨b,0,none⟩) s.size cap)::E) D G (w1::L) H):OJ C ops Q (⟨some d,.convert src dst x,ty,pos,aC,g⟩::l) E D G L H:=
 ru zJ hw hN λa W hF hS=>by
  have hr:=run_bytes_of_string (P:=C.P) W src dst e s hs hd he;have hQ:=((hS.step (EJ W (W.drawn+1))).step (n4c _ (.cells (bytesRow s (grownCap W s.size 0 e)) e ((bytesRow s (grownCap W s.size 0 e)).size,(bytesRow s (grownCap W s.size 0 e)).size+1)))).snap;refine⟨_,_,_,_,?_,hQ,k W.heap.size _ _ _ _ (heap_alloc_new W.drew _) hS.sizes hS.offNew hS.mNew zJ (grownCap_ge W s.size 0 e) (by rw[mr];exact nol s _) (λi hi=>nqn s _ i hi)⟩;simp[execOp,hF.ev hx,hr]
variable {ps:List (Nat×Operand)} {m:Nat}
theorem y6{n:Nat}{vs:List (Nat×Value)}(hU:C.P.underlying T=some (.array n e))(hz:Ay C.P T z)(hp:nL C.P e m)(ha:N1 E ps=some vs)(hs:vs=AD 0 (vs.map (·.2)))(hl:z.cells.size=vs.length*m)(hm:U0 m (vs.map (·.2))=true):RV C G L H E (.build T ps.toArray) (.agg (nY (vs.map (·.2))).toArray):=λd ty pos aC g a W hF _=>by
 have hf:=UZ (pl:=λi=>some (i*m,m)) (ps:=vs) (cs:=z.cells) (ds:=nY (vs.map (·.2))) (by
  have:=n1e m (vs.map (·.2)) 0 [] z.cells.toList hm zJ K7;rw[<-hs,eX,eX]at this;exact this)
 have h2:(ps.toArray).map (λ(i,x)=>(i,a.eval x))=vs.toArray:=by rw[DH,UY hF ps vs ha]
 simp[execOp,h2,Instr.build,hz W,run_underlying hU,hp W,hf]
variable {hi:Option Operand}
theorem XN(hU:C.P.underlying T=some (.slice e))(hZ:nL C.P e m)(hx:ev E x=some (.slice none 0 0))(hh:BE E hi 0 0):RV C G L H E (.slice T x none hi none) (.slice none 0 0):=λd ty pos aC g a W hF _=>by
 have:=nMm (P:=C.P) (W:=W) hF true (lo:=none) (hi:=hi) (n:=0) (c:=0) (l:=0) (h:=0) rfl hh (aj _) (aj _);simp only[Option.map_none]at this;simp[execOp,hF.ev hx,Instr.sliceAt,Instr.slice,run_underlying hU,this,hZ W]
end
end Px
namespace Px

end Px
namespace Px
open Go Go.RowKit
/-! ### rows of bytes -/
def ub (l:List UInt8):List Value:=l.map λb=>Value.int .u8 b.toNat
theorem wP(l:List UInt8):(ub l).length=l.length:=by simp[ub]
theorem HI(a b:List UInt8):ub (a++b)=ub a++ub b:=by simp[ub]
theorem nLi(l:List UInt8):∀u∈ub l,u.oneCell'=true:=by
 intro u hu;obtain⟨i,_,rfl⟩:=bT.1 hu;rfl
def fU (l:List UInt8) (i:Nat):Int:=((l[i]?.getD 0).toNat:Int)
theorem n8n(l:List UInt8):ub l=lP l.length (fU l):=by
 apply C3;all_goals grind [ub,lP,fU,wP,Ea]
theorem Yb(l:List UInt8)(sp:List Value)(i:Nat)(h:i<l.length):((ub l++sp).toArray)[0+i]? =some (.int .u8 (fU l i)):=by grind [wP,ub,fU]
abbrev bV (b n cap:Nat):Value:=.slice (some ⟨b,0,none⟩) n cap
abbrev aU (e:Nat) (xs:List UInt8) (sp:List Value):Obj:=.cells (ub xs++sp).toArray e (0,0)
structure dR (xs:List UInt8) (cap:Nat) (sp:List Value):Prop where
 le:xs.length<=cap
 sp:sp.length=cap-xs.length
structure AL (P:Program) (t e:Nat):Prop where
 und:P.underlying t=some (.slice e)
 el:P.underlying e=some (.int .u8)
 info:∃ti,P.info? e=some ti/\ti.zero=some (.int .u8 0)/\ti.size=1/\ti.bytes=1
 sz:nL P e 1
section
variable {G:Gh} {L:List World} {H:ad} {W:World}
variable {b i:Nat} {o:Obj}
theorem St.renewF(h:St G L H W)(o':Obj)(hi:H[i]? =some (b,o))(ha:Fr G L b):St G L (H.set i (W.heap.size,o')) (W.alloc o'):=by
 have lM:=(gW.1 hi).1;have hp:H.Perm ((b,o)::H.eraseIdx i):=PI H i _ hi;exact(((h.perm hp).dropF ha).alloc o').perm (nng H i _ lM).symm
theorem St.dropAtF(h:St G L H W)(hi:H[i]? =some (b,o))(ha:Fr G L b):St G L (H.eraseIdx i) W:=
 (h.perm (PI H i _ hi)).dropF ha
section
variable (h:St G L H W)(hb:W.heap.size<=b)
include h hb
theorem Fr.up:Fr G L b:=.inr (ah.of_mem λw hw=>eE (h.links w hw).size hb)
theorem CD:ah L b:=ah.of_mem λw hw=>eE (h.links w hw).size hb
theorem DF:bM H b:=bM.of_mem λhm=>by
 obtain⟨p,hp,e⟩:=bT.1 hm;have:=h.lt p hp;omega
end
variable {news sp:List Value} {e m tx ty:Nat} {sv z:Value}
theorem St.app{P:Program}{n len cap t:Nat}{ti:TypeInfo}{ys:List Value}(hS:St G L H W)(hi:H[i]? =some (b,.cells (ys++sp).toArray e (0,0)))(hU:P.underlying t=some (.slice e))(qY:P.info? e=some ti)(hz:ti.zero=some z)(hm:ti.size=m)(uy:z.cells.size=m)(qZ:Src P m tx sv n news W)(hlen:ys.length=len*m)(wG:sp.length=(cap-len)*m)(Jf:len<=cap)(ha:Fr G L b)(h63:len+n<=9223372036854775807)(mM:(len+n)*ti.bytes<=140737488355328):∃b' aZ bY W',(Builtin.append_ #[t,tx] ty #[.slice (some ⟨b,0,none⟩) len cap,sv]).run P W= .ok (.slice (some ⟨b',0,none⟩) (len+n) aZ) W'/\St G L (H.set i (b',.cells (ys++news++bY).toArray e (0,0))) W'/\(b'=b\/W.heap.size<=b')/\len+n<=aZ/\bY.length=(aZ-(len+n))*m:=by
 subst hm;have hb:=hS.own _ (cA hi);have wZ:=qZ.newsLen;by_cases iO:len+n<=cap
 ·have hle:(len+n)*ti.size<=cap*ti.size:=w6 _ iO;have mq:(ys++sp).toArray.size=cap*ti.size:=by
   simp only[rh,cO,hlen,wG];rw[<-qh];congr 1;omega
  rw[qh]at hle;have hr:=run_append_room_src (P:=P) W t tx ty e ti hU qY b 0 len cap sv n news qZ iO
   (λj hj=>by rw[Lj hb];simp only[mr];rw[a8q aa];rfl)
   (λj hj=>by simp[World.frozen?,hb])
  obtain⟨h1,h2⟩:=n7c b news (0+len*ti.size) W _ _ hb;have kJ:(sp.drop (n*ti.size)).length=(cap-(len+n))*ti.size:=by
   rw[B8,wG,<-Nat.sub_mul];congr 1;omega
  have hc:setCells (ys++sp).toArray (0+len*ti.size) news=(ys++news++sp.drop (n*ti.size)).toArray:=by
   exact zPg
  rw[hc]at h2;exact⟨_,_,_,_,hr,hS.put hi h1 h2,.inl rfl,iO,kJ⟩
 have hold:(Builtin.firstCells ti.size len (.slice (some ⟨b,0,none⟩) len cap)).run P W.drew= .ok ys.toArray W.drew:=by
  exact zgh
 have hr:=run_append_grow_src (P:=P) W t tx ty e ti z hU qY hz (some ⟨b,0,none⟩) len cap ys hold sv n news qZ aa aa (growslice_fits aa mM);have hg:=grownCap_ge W (len+n) cap e;have hQ:=(hS.step (EJ W (W.drawn+1))).renewF (.cells ((ys++news).toArray++Builtin.zeroCells z.cells (grownCap W (len+n) cap e-(len+n))) e (0,0)) hi ha;have B7:(Builtin.zeroCells z.cells (grownCap W (len+n) cap e-(len+n))).toList.length=(grownCap W (len+n) cap e-(len+n))*ti.size:=by
  simp[Builtin.zeroCells,uy]
 have hc:(ys++news).toArray++Builtin.zeroCells z.cells (grownCap W (len+n) cap e-(len+n))=(ys++news++(Builtin.zeroCells z.cells (grownCap W (len+n) cap e-(len+n))).toList).toArray:=by
  apply Array.ext';simp
 rw[hc]at hQ hr;exact⟨_,_,_,_,hr,hQ,.inr (aj _),hg,B7⟩
theorem St.appN{P:Program}{n t:Nat}{ti:TypeInfo}(hS:St G L H W)(hU:P.underlying t=some (.slice e))(qY:P.info? e=some ti)(hz:ti.zero=some z)(hm:ti.size=m)(uy:z.cells.size=m)(qZ:Src P m tx sv n news W)(h0:0<n)(h63:n<=9223372036854775807)(mM:n*ti.bytes<=140737488355328):∃aZ bY W',(Builtin.append_ #[t,tx] ty #[.slice none 0 0,sv]).run P W= .ok (.slice (some ⟨W.heap.size,0,none⟩) n aZ) W'/\St G L ((W.heap.size,.cells (news++bY).toArray e (0,0))::H) W'/\n<=aZ/\bY.length=(aZ-n)*m:=by
 subst hm;have hold:(Builtin.firstCells ti.size 0 (.slice none 0 0)).run P W.drew= .ok ([]:List Value).toArray W.drew:=by simp[Builtin.firstCells]
 have hr:=run_append_grow_src (P:=P) W t tx ty e ti z hU qY hz none 0 0 [] hold sv n news qZ aa aa (growslice_fits aa (by rw[mr];exact mM));rw[mr]at hr;have hg:=grownCap_ge W n 0 e;have hQ:=(hS.step (EJ W (W.drawn+1))).alloc (.cells (([]++news:List Value).toArray++Builtin.zeroCells z.cells (grownCap W n 0 e-n)) e (0,0));have hc:([]++news:List Value).toArray++Builtin.zeroCells z.cells (grownCap W n 0 e-n)=(news++(Builtin.zeroCells z.cells (grownCap W n 0 e-n)).toList).toArray:=by
  apply Array.ext';simp
 rw[hc]at hQ hr;exact⟨_,_,_,hr,hQ,hg,by simp[Builtin.zeroCells,uy]⟩
end
section
variable {C:Cx} {Q:bC} {E:Env} {D:List Deferred} {G:Gh} {L:List World} {H:ad} {ops:Array Oper} {l:List Oper}
variable {d T ty f:Nat} {pos:String} {aC:Array Edge} {g:Option (Nat×Bool)} {x y:Operand} {xs:List Operand} {vs:List Value} {eJ:Array Nat}
def iE (C:Cx) (G:Gh) (L:List World) (H:ad) (tx:Nat) (sv:Value) (zs:List UInt8):Prop:=px C G L H 1 tx sv zs.length (ub zs)
variable {zs:List UInt8} {sp:List Value} {b i tx:Nat} {fr:Nat×Nat}
theorem iE.own{e' c t:Nat}(hU:C.P.underlying tx=some (.slice e'))(hi:H[i]? =some (b,.cells (ub zs++sp).toArray t fr)):iE C G L H tx (bV b zs.length c) zs:=
 px.sl hU (Rd.own hi (by simp only[rh,cO,wP];omega) (by simp only[Pu,xR];rw[<-wP zs,QT rfl])) (by rw[wP,xR]) (nLi _)
variable {w1:World}
theorem iE.old{e' c t:Nat}(hU:C.P.underlying tx=some (.slice e'))(hm:w1∈L)(hb:w1.heap[b]? =some (.cells (ub zs++sp).toArray t fr))(hG:¬G.X b)(hO:bM H b):iE C G L H tx (bV b zs.length c) zs:=
 px.sl hU (Rd.old hm hb hG hO (by simp only[rh,cO,wP];omega) (by simp only[Pu,xR];rw[<-wP zs,QT rfl])) (by rw[wP,xR]) (nLi _)
variable {s:ByteArray}
theorem iE.str(hU:C.P.underlying tx=some .string):iE C G L H tx (.string s) s.data.toList:=
 ⟨.inr hU,λ_=>rfl,Rd.str,by rw[wP,xR],nLi _⟩
variable {e:Nat} {sv:Value}
theorem Ov{cap t:Nat}{xs:List UInt8}(hi:H[i]? =some (b,aU e xs sp))(hB:AL C.P t e)(hw:nr ops E g=some true)(hN:Nat.blt d C.N=true)(hx:ev E x=some (bV b xs.length cap))(hy:ev E y=some sv)(hs:iE C G L H tx sv zs)(hr:dR xs cap sp)(ha:Fr G L b)(ju:xs.length+zs.length<=1000000000000)(k:∀(b' aZ:Nat) (bY:List Value),Fr G L b'->dR (xs++zs) aZ bY->OJ C ops Q l ((d,bV b' (xs++zs).length aZ)::E) D G L (H.set i (b',aU e (xs++zs) bY))):OJ C ops Q (⟨some d,.call ⟨.builtin .append,#[x,y],#[t,tx]⟩,ty,pos,aC,g⟩::l) E D G L H:=
 ru zJ hw hN λa W hF hS=>by
  obtain⟨ti,qY,hz,mq,rk⟩:=hB.info;obtain⟨b',aZ,bY,W',gq,hQ,eP,Az,kJ⟩:=hS.app (P:=C.P) (ty:=ty) hi hB.und qY hz mq rfl (hs.src hS) (by rw[wP,xR]) (by rw[hr.sp,xR]) hr.le ha aa (by rw[rk];omega);have hFr:Fr G L b':=by
   rcases eP with rfl|eP
   ·exact ha
   exact Fr.up hS eP
  have hl:(xs++zs).length=xs.length+zs.length:=cO;refine⟨.slice (some ⟨b',0,none⟩) (xs.length+zs.length) aZ,W',L,_,?_,hQ,?_⟩
  ·simp[execOp,hF.ev hx,hF.ev hy,resolve,invoke,Deferred.ofValue,builtin,gq]
  have:=k b' aZ bY hFr ⟨by rw[hl];exact Az,by rw[hl,kJ,xR]⟩;rw[hl]at this;simpa only[aU,HI]using this
theorem apN{t:Nat}(hB:AL C.P t e)(hw:nr ops E g=some true)(hN:Nat.blt d C.N=true)(hx:ev E x=some (.slice none 0 0))(hy:ev E y=some sv)(hs:iE C G L H tx sv zs)(h0:0<zs.length)(ju:zs.length<=1000000000000)(k:∀(b' aZ:Nat) (bY:List Value),ah L b'->bM H b'->¬G.X b'->dR zs aZ bY->OJ C ops Q l ((d,bV b' zs.length aZ)::E) D G L ((b',aU e zs bY)::H)):OJ C ops Q (⟨some d,.call ⟨.builtin .append,#[x,y],#[t,tx]⟩,ty,pos,aC,g⟩::l) E D G L H:=
 ru zJ hw hN λa W hF hS=>by
  obtain⟨ti,qY,hz,mq,rk⟩:=hB.info;obtain⟨aZ,bY,W',gq,hQ,Az,kJ⟩:=hS.appN (P:=C.P) (ty:=ty) hB.und qY hz mq rfl (hs.src hS) h0 aa (by rw[rk];omega);refine⟨.slice (some ⟨W.heap.size,0,none⟩) zs.length aZ,W',L,_,?_,hQ,k W.heap.size aZ bY hS.sizes hS.offNew hS.mNew ⟨Az,by rw[kJ,xR]⟩⟩;simp[execOp,hF.ev hx,hF.ev hy,resolve,invoke,Deferred.ofValue,builtin,gq]
/-! #### functions that are lent a row and give one back -/
def QA (w:World) (b e:Nat) (ys:List UInt8):Ending->World->Prop:=λed w'=>
 ∃b' aZ bY,ed= .returned (bV b' ys.length aZ)/\aQ (· =b) w w'/\(b'=b\/w.heap.size<=b')/\dR ys aZ bY/\w'.heap[b']? =some (aU e ys bY)
def nXm (w:World) (e:Nat) (ys:List UInt8):Ending->World->Prop:=λed w'=>
 ∃b' aZ bY,ed= .returned (bV b' ys.length aZ)/\Below w.heap.size w w'/\w.heap.size<=b'/\dR ys aZ bY/\w'.heap[b']? =some (aU e ys bY)
variable {o:Obj}
theorem Ef{w:World}(h:w.heap[b]? =some o):St (Gh.lent (· =b)) [w] [(b,o)] w where
 ghost:=trivial
 vlt:=λ_ h=>h.elim
 xlt:=λk hk=>by
  have:k=b:=hk;subst this;exact(bA.1 h).1
 links:=λw' hw=>by simp at hw;subst hw;exact aQ.refl _ _
 own:=λp hp=>by simp at hp;subst hp;exact h
 nodup:=λi j p q hi hj _=>by
  have h1:=(gW.1 hi).1;have h2:=(gW.1 hj).1;simp at h1 h2;omega
 apart:=λ_ _ h=>h.elim
def mx (Z:Nat->Prop) (n:Nat):ad->Prop
 | []=>True
 |p::H=>(Z p.1\/n<=p.1)/\mx Z n H
theorem mx.mem{Z:Nat->Prop}{n:Nat}(h:mx Z n H):∀p∈H,Z p.1\/n<=p.1:=by
 exact zwh
variable {W:World}
theorem St.baseX{Z:Nat->Prop}{w:World}(h:St (Gh.lent Z) L H W)(hw:w∈L)(ho:mx Z w.heap.size H):aQ Z w W:=
 (h.links w hw).mono λk hk hx=>by
  rcases hx with hx|hx
  ·exact hx
  obtain⟨p,hp,rfl⟩:=bT.1 hx;rcases ho.mem p hp with h|h
  ·exact h
  omega
section
variable {fn:Func}
variable {ys:List UInt8}
section
variable {t b' aZ:Nat}{bY:List Value}{w:World}{ex:Exit}(he:ex= .ret\/ex= .normal)(hr:fn.results=#[.tmp t])(hv:look E t=some (bV b' ys.length aZ))
include t b' aZ bY w ex he hr hv
theorem n5i(hi:H[i]? =some (b',aU e ys bY))(hw:w∈L)(ho:mx (· =b) w.heap.size H)(hk:dR ys aZ bY):PJ C (bodyPost C.P fn (QA w b e ys)) ex E [] (Gh.lent (· =b)) L H:=
 bQ he (rs:=[.tmp t]) hr (RS.t hv RS.n) λW hS=>⟨b',aZ,bY,rfl,hS.baseX hw ho,ho.mem _ (cA hi),hk,hS.own _ (cA hi)⟩
theorem QL(hi:H[i]? =some (b',aU e ys bY))(hw:w∈L)(ho:Over w.heap.size H)(hk:dR ys aZ bY):PJ C (bodyPost C.P fn (nXm w e ys)) ex E [] Gh.no L H:=
 bQ he (rs:=[.tmp t]) hr (RS.t hv RS.n) λW hS=>⟨b',aZ,bY,rfl,hS.base hw ho,ho.mem _ (cA hi),hk,hS.own _ (cA hi)⟩
end
end
variable {ys:List UInt8}
theorem Vs{first cap:List Value}(hi:H[i]? =some (b,o))(hx:ev E x=some (.func (.func f) first.toArray cap.toArray))(aA:eU C.P f)(hw:nr ops E g=some true)(hN:Nat.blt d C.N=true)(ha:jy E xs=some vs)(hF:Fr G L b)(hc:∀W,St G L H W->W.heap[b]? =some o->Calls C.P f (first++vs++cap).toArray W (QA W b e ys))(k:∀b' aZ bY,Fr G L b'->dR ys aZ bY->OJ C ops Q l ((d,bV b' ys.length aZ)::E) D G L (H.set i (b',aU e ys bY))):OJ C ops Q (⟨some d,.call ⟨.value x,xs.toArray,eJ⟩,ty,pos,aC,g⟩::l) E D G L H:=
 nK rfl hw hx ha zJ aA λa W jz hD wD hS=>(hc W hS (hS.own _ (cA hi))).mono (by
  rintro ed W' ⟨b',aZ,bY,rfl,hk,eP,hr,fJ⟩;have Pq:=λhFr hQ=>k b' aZ bY hFr hr (a.put (some d) (bV b' ys.length aZ)) W' z8 z6 (wD.put _ z7) hQ;rcases eP with rfl|eP
  ·exact Pq hF (hS.put hi hk fJ)
  refine Pq (Fr.up hS eP) ?_;have jr:=(bA.1 (hS.own _ (cA hi))).1;obtain⟨ob,zw⟩:∃ob,W'.heap[b]? =some ob:=⟨W'.heap[b]'(qH jr hk.size),a8q _⟩;have h1:=hS.put hi hk zw;have lM:=(gW.1 hi).1;have h2:(H.set i (b,ob))[i]? =some (b,ob):=by rw[amq lM]
  have h3:=(h1.perm (PI _ _ _ h2)).dropF hF;have hse:(H.set i (b,ob)).eraseIdx i=H.eraseIdx i:=by rw[List.eraseIdx_set_eq]
  rw[hse]at h3;have mW:bM (H.eraseIdx i) b':=bM.of_mem λhm=>by
   obtain⟨p,hp,e⟩:=bT.1 hm;have:=hS.lt p (List.mem_of_mem_eraseIdx hp);omega
  have h4:=h3.adopt fJ mW (λhv=>by have:=hS.vlt _ hv;omega);exact h4.perm (nng H i _ lM).symm)
theorem OJ.dropF(hi:H[i]? =some (b,o))(ha:Fr G L b)(k:OJ C ops Q l E D G L (H.eraseIdx i)):OJ C ops Q l E D G L H:=λa W hN hD hF hS=>k a W hN hD hF (hS.dropAtF hi ha)
variable {ps:List (Nat×Operand)} {z:Value}
theorem QB{n:Nat}{vs:List (Nat×Value)}(zs:List UInt8)(hB:AL C.P T e)(hz:Ay C.P e z)(hw:nr ops E g=some true)(hN:Nat.blt d C.N=true)(ha:N1 E ps=some vs)(U2:Nat.ble (n*1) 16777216=true)(hs:vs=AD 0 (vs.map (·.2)))(hl:vs.length=n)(hm:U0 1 (vs.map (·.2))=true)(uy:nY (vs.map (·.2))=ub zs)(hn:n=zs.length)(k:∀(b:Nat),ah L b->bM H b->¬G.X b->dR zs n []->OJ C ops Q l ((d,bV b zs.length n)::E) D G L ((b,aU e zs [])::H)):OJ C ops Q (⟨some d,.buildSlice T n ps.toArray,ty,pos,aC,g⟩::l) E D G L H:=
 ru zJ hw hN λa W hF hS=>⟨_,_,_,_,nHd hB.und hB.sz hz (UY hF ps vs ha) U2 (UZ (by
  have:=n1e 1 (vs.map (·.2)) 0 [] ((Array.range (n*1)).map (λj=>((if n*1=0 then #[]else z.cells)[j%(if n*1=0 then #[]else z.cells).size]!))).toList hm zJ (by rw[nfh,eO,hl]);rw[<-hs,eX,eX]at this;exact this)),hS.alloc _,by
   have:=k W.heap.size hS.sizes hS.offNew hS.mNew ⟨by omega,by simp;omega⟩;rw[uy];simp only[aU,ee]at this;rw[<-hn]at this;exact this⟩
end
end Px
