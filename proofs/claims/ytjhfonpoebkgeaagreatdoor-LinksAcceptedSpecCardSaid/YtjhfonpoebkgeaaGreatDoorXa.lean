/- Memory, operations, iterators, slices, maps. No conditions. -/
import Derived.Test.YtjhfonpoebkgeaaGreatDoorZa
import Derived.TacticsIn
import Derived.DefersIn
import Derived.RangeFuncIn
import Derived.Below
import Derived.WalkKit
import Derived.RangeFuncRecord
import Derived.OrdersIn
import Derived.Deep.AppendSrc
import Derived.Laws.MakeOwn
import Derived.Laws.IdiomStrings
set_option linter.unusedSimpArgs false
set_option linter.unusedVariables false
set_option linter.unusedSectionVars false
set_option maxRecDepth 20000
set_option maxHeartbeats 8000000
namespace Px
open Go Go.RowKit
/-! ### short forms of common terms -/
abbrev ab (n:Int):Value:=.int .i64 n
abbrev aK:Value:=.bool true
abbrev aO:Value:=.bool false
abbrev Cg:Value:=.int .u8 0
abbrev bS:Value:=.slice none 0 0
abbrev JG:Value:=.string ⟨#[]⟩
abbrev aH (b:Nat):Option Addr:=some ⟨b,0,none⟩
abbrev dn (v:Value):Array Value:=#[.int .i64 3,.int .i64 0,.string ⟨#[]⟩,v]
abbrev oC (cs:Array Value) (t:Nat):Obj:=.cells cs t (0,0)
abbrev th (f:Nat->Int) (l:List Value):List Value:=.int .u8 (f 0):: .int .u8 (f 1):: .int .u8 (f 2):: .int .u8 (f 3):: .int .u8 (f 4):: .int .u8 (f 5):: .int .u8 (f 6):: .int .u8 (f 7):: .int .u8 (f 8):: .int .u8 (f 9):: .int .u8 (f 10):: .int .u8 (f 11):: .int .u8 (f 12):: .int .u8 (f 13):: .int .u8 (f 14):: .int .u8 (f 15):: .int .u8 (f 16):: .int .u8 (f 17):: .int .u8 (f 18):: .int .u8 (f 19):: .int .u8 (f 20):: .int .u8 (f 21):: .int .u8 (f 22):: .int .u8 (f 23):: .int .u8 (f 24):: .int .u8 (f 25):: .int .u8 (f 26):: .int .u8 (f 27):: .int .u8 (f 28):: .int .u8 (f 29):: .int .u8 (f 30):: .int .u8 (f 31)::l
abbrev r6 (l:List Value):List Value:=.int .u8 0:: .int .u8 0:: .int .u8 0:: .int .u8 0:: .int .u8 0:: .int .u8 0:: .int .u8 0:: .int .u8 0:: .int .u8 0:: .int .u8 0:: .int .u8 0:: .int .u8 0:: .int .u8 0:: .int .u8 0:: .int .u8 0:: .int .u8 0:: .int .u8 0:: .int .u8 0:: .int .u8 0:: .int .u8 0:: .int .u8 0:: .int .u8 0:: .int .u8 0:: .int .u8 0:: .int .u8 0:: .int .u8 0:: .int .u8 0:: .int .u8 0:: .int .u8 0:: .int .u8 0:: .int .u8 0:: .int .u8 0::l
/-! ### the environment: what is known of the temporaries -/
abbrev Env:=List (Nat×Value)
def look:Env->Nat->Option Value
 | [],_=>none
 |(k,v)::E,t=>match Nat.beq k t with|true=>some v|false=>look E t
variable {a:Act} {I:Array Bool->Act->World->Prop} {aD:Array Edge} {ops:Array Oper} {cs:Array Value} {s:ByteArray} {assign body:Code} {R:Ending->World->Prop} {fn:Func} {K K':IntKind} {ps:List (Nat×Operand)} {D:List Deferred} {ks:List Nat} {xs:List Operand} {rs:List ResultVar} {cap news vs:List Value} {L L':List World} {N b d e f i k m:Nat} {fr:Nat×Nat} {MI RO:Nat->Prop} {o:Obj} {op:Op} {g:Option (Nat×Bool)} {hi:Option Operand} {pos:String} {z:Value} {W w1:World}
theorem TS{a:Nat}(e:¬a=b):Nat.beq a b=false:=by
 grind [Nat.eq_of_beq_eq_true]
theorem n7i(a:Nat):Nat.beq a a=true:=by simp
def Fits (E:Env) (a:Act):Prop:=∀t v,look E t=some v->a.eval (.tmp t)=v
def ev (E:Env):Operand->Option Value
 | .tmp t=>look E t
 | .const v=>some v
 | .global g=>some ((⟨#[],[]⟩:Act).eval (.global g))
 | .func f=>some ((⟨#[],[]⟩:Act).eval (.func f))
variable {E:Env}
theorem Fits.ev(h:Fits E a){x:Operand}{v:Value}(hx:ev E x=some v):a.eval x=v:=by
 cases x with
 |tmp t=>exact h t v hx
 |const u=>simp[Px.ev]at hx;subst hx;rfl
 |global g=>simp[Px.ev]at hx;rw[<-hx];rfl
 |func f=>simp[Px.ev]at hx;rw[<-hx];rfl
theorem Fits.put(h:Fits E a)(v:Value)(hd:d<a.tmps.size):Fits ((d,v)::E) (a.put (some d) v):=by
 intro t u J;simp[look]at J;by_cases e:d=t
 ·simp_all[Act.eval,Act.put]
 have:Nat.beq d t=false:=TS e;simp[this]at J;have:=h t u J;simp_all[Act.eval,Act.put]
def Sub:Env->Env->Prop
 | [],_=>True
 |(t,v)::E',E=>look E t=some v/\Sub E' E
variable {E':Env}
theorem Sub.fits(hs:Sub E' E)(h:Fits E a):Fits E' a:=by
 (induction E'<;>grind [look,TS,Fits,Sub])
def nr (ops:Array Oper) (E:Env) (g:Option (Nat×Bool)):Option Bool:=
 match g with
 |none=>some true
 |some (j,b)=>
  match(ops[j]?).bind (·.dst)with
  |none=>some false
  |some d=>
   match look E d with
   |some (.bool true)=>some b
   |some (.bool false)=>some (!b)
   |some (.tuple _)=>some false
   |_=>none
theorem zb{o:Oper}{c:Bool}(h:Fits E a)(hw:nr ops E o.guard=some c):Region.wanted o (yielded ops a.tmps)=c:=by
 unfold nr at hw;unfold Region.wanted;cases hg:o.guard with
 |none=>grind
 |some p=>
  obtain⟨j,b⟩:=p;simp[hg]at hw ⊢;cases hd:(ops[j]?).bind (·.dst)with
  |none=>grind [yielded]
  |some d=>
   simp[hd]at hw;cases hl:look E d with
   |none=>grind
   |some v=>
    have hv:=h d v hl;simp[hl]at hw;have key:∀u,v=u->yielded ops a.tmps j=(match u with| .bool b=>some b|_=>none):=by
     intro u hu;simp only[yielded,hd,Option.bind_some];simp only[Act.eval]at hv;cases J:a.tmps[d]? with
     |none=>
      grind [undef]
     |some u'=>
      have:v=u':=by rw[<-hv,Array.getD_eq_getD_getElem?,J];rfl
      grind
    split at hw;all_goals simp_all
/-! ### the memory: ghost (another party's blocks), snapshots, own blocks -/
structure Gh where
 M:Nat->Prop
 V:Nat->Prop
 R:World->Prop
 X:Nat->Prop
 sub:∀k,M k->V k
 subX:∀k,M k->X k
 stab:∀W W':World,R W->W'.os=W.os->W'.tape=W.tape->W'.output=W.output->W.drawn<=W'.drawn->W.heap.size<=W'.heap.size->(∀k,V k->W'.heap[k]? =W.heap[k]?)->R W'
def Gh.no:Gh:=⟨λ_=>False,λ_=>False,λ_=>True,λ_=>False,λ_ h=>h,λ_ h=>h,λ_ _ _ _ _ _ _ _ _=>trivial⟩
def Gh.lent (Z:Nat->Prop):Gh:=⟨λ_=>False,λ_=>False,λ_=>True,Z,λ_ h=>h,λ_ h=>h.elim,λ_ _ _ _ _ _ _ _ _=>trivial⟩
abbrev ae:=List (Nat×Obj)
structure Below (B:Nat) (w w':World):Prop where
 os:w'.os=w.os
 tape:w'.tape=w.tape
 output:w'.output=w.output
 drawn:w.drawn<=w'.drawn
 size:w.heap.size<=w'.heap.size
 block:∀k,k<B->w'.heap[k]? =w.heap[k]?
theorem Below.refl(B:Nat)(w:World):Below B w w:=⟨rfl,rfl,rfl,aC _,aC _,λ_ _=>rfl⟩
theorem Below.trans{B:Nat}{a b c:World}(h:Below B a b)(k:Below B b c):Below B a c:=
 ⟨k.os.trans h.os,k.tape.trans h.tape,k.output.trans h.output,dS h.drawn k.drawn,dS h.size k.size,λi hi=>(k.block i hi).trans (h.block i hi)⟩
theorem Below.mono{B J:Nat}{w w':World}(h:Below B w w')(hB:J<=B):Below J w w':=⟨h.os,h.tape,h.output,h.drawn,h.size,λk hk=>h.block k (oh hk hB)⟩
theorem Below.alloc{B:Nat}{a w:World}(h:Below B a w)(hB:B<=w.heap.size)(o:Obj):Below B a (w.alloc o):=by
 refine⟨h.os,h.tape,h.output,h.drawn,dS h.size zP,λk hk=>?_⟩;rw[<-h.block k hk];show(w.heap.push o)[k]? =w.heap[k]?
 grind
structure aQ (X:Nat->Prop) (w W:World):Prop where
 os:W.os=w.os
 tape:W.tape=w.tape
 output:W.output=w.output
 drawn:w.drawn<=W.drawn
 size:w.heap.size<=W.heap.size
 block:∀k,k<w.heap.size->¬X k->W.heap[k]? =w.heap[k]?
theorem aQ.refl(X:Nat->Prop)(w:World):aQ X w w:=⟨rfl,rfl,rfl,aC _,aC _,λ_ _ _=>rfl⟩
theorem aQ.trans{X:Nat->Prop}{a b c:World}(h:aQ X a b)(k:aQ X b c):aQ X a c:=
 ⟨k.os.trans h.os,k.tape.trans h.tape,k.output.trans h.output,dS h.drawn k.drawn,dS h.size k.size,
  λi hi hx=>(k.block i (oh hi h.size) hx).trans (h.block i hi hx)⟩
theorem aQ.mono{X Y:Nat->Prop}{a b:World}(h:aQ X a b)(J:∀k,k<a.heap.size->X k->Y k):aQ Y a b:=
 ⟨h.os,h.tape,h.output,h.drawn,h.size,λi hi hy=>h.block i hi (λhx=>hy (J i hi hx))⟩
theorem aQ.of_below{X:Nat->Prop}{a b:World}(h:Below a.heap.size a b):aQ X a b:=
 ⟨h.os,h.tape,h.output,h.drawn,h.size,λi hi _=>h.block i hi⟩
theorem aQ.below{X:Nat->Prop}{a b:World}(h:aQ X a b)(hx:∀k,k<a.heap.size->¬X k):Below a.heap.size a b:=
 ⟨h.os,h.tape,h.output,h.drawn,h.size,λi hi=>h.block i hi (hx i hi)⟩
def ky (H:ae):Prop:=∀(i j:Nat) (p q:Nat×Obj),H[i]? =some p->H[j]? =some q->p.1=q.1->i=j
structure St (G:Gh) (L:List World) (H:ae) (W:World):Prop where
 ghost:G.R W
 vlt:∀k,G.V k->k<W.heap.size
 xlt:∀k,G.X k->k<W.heap.size
 links:∀w∈L,aQ (λk=>G.X k\/k∈H.map (·.1)) w W
 own:∀p∈H,W.heap[p.1]? =some p.2
 nodup:ky H
 apart:∀p∈H,¬G.V p.1
def ah:List World->Nat->Prop
 | [],_=>True
 |w::L,b=>w.heap.size<=b/\ah L b
theorem ah.of_mem(h:∀w∈L,w.heap.size<=b):ah L b:=by
 (induction L<;>grind [ah])
theorem ah.mem(h:ah L b):∀w∈L,w.heap.size<=b:=by
 (induction L<;>grind [ah])
def cu:ae->Nat->Prop
 | [],_=>True
 |p::H,b=>p.1≠b/\cu H b
variable {H:ae}
theorem cu.mem(h:cu H b):b∉H.map (·.1):=by
 (induction H<;>grind [cu])
theorem cu.of_mem(h:b∉H.map (·.1)):cu H b:=by
 (induction H<;>grind [cu])
def nD:ae->Nat->Prop
 | [],_=>True
 |p::H,b=>p.1<b/\nD H b
section
variable {G:Gh} {L:List World} {H:ae} {W W':World}
theorem St.lt(h:St G L H W):∀p∈H,p.1<W.heap.size:=λp hp=>(bO.1 (h.own p hp)).1
theorem St.under(h:St G L H W):nD H W.heap.size:=by
 have:=h.lt;clear h;induction H with
 |nil=>trivial
 |cons p H ih=>simp_all[nD,ae]
theorem St.sizes(h:St G L H W):ah L W.heap.size:=ah.of_mem λw hw=>(h.links w hw).size
theorem St.step(h:St G L H W)(hb:Below W.heap.size W W'):St G L H W' where
 ghost:=G.stab W W' h.ghost hb.os hb.tape hb.output hb.drawn hb.size (λk hk=>hb.block k (h.vlt k hk))
 vlt:=λk hk=>oh (h.vlt k hk) hb.size
 xlt:=λk hk=>oh (h.xlt k hk) hb.size
 links:=λw hw=>(h.links w hw).trans (aQ.of_below hb)
 own:=λp hp=>(hb.block p.1 (h.lt p hp)).trans (h.own p hp)
 nodup:=h.nodup
 apart:=h.apart
theorem St.snap(h:St G L H W):St G (W::L) H W:=by
 refine{h with links:=λw hw=>?_};simp at hw;rcases hw with rfl|hw
 ·exact aQ.refl _ _
 exact h.links w hw
theorem nrd(W:World)(o:Obj):Below W.heap.size W (W.alloc o):=(Below.refl _ _).alloc (aC _) o
theorem IC(W:World)(n:Nat)(h:W.drawn<=n:=by simp):Below W.heap.size W {W with drawn:=n}:=⟨rfl,rfl,rfl,h,aC _,λ_ _=>rfl⟩
theorem St.alloc(h:St G L H W)(o:Obj):St G L ((W.heap.size,o)::H) (W.alloc o):=by
 have h1:=h.step (nrd W o);refine{h1 with links:=λw hw=>?_,own:=λp hp=>?_,nodup:=?_,apart:=λp hp=>?_}
 ·exact(h1.links w hw).mono λk _ hk=>hk.imp id (λhk=>by simp[hk])
 ·simp at hp;rcases hp with rfl|hp
  ·exact heap_alloc_new W o
  exact h1.own p hp
 ·intro i j p q hi hj e;cases i with
  |zero=>
   cases j with
   |zero=>rfl
   |succ j=>
    have:=h.lt q (cF hj)
    grind
  |succ i=>
   cases j with
   |zero=>
    have:=h.lt p (cF hi)
    grind
   |succ j=>
    rw[h.nodup i j p q hi hj e]
 simp at hp;rcases hp with rfl|hp
 ·intro hm;have:=h.vlt _ hm;omega
 exact h.apart p hp
theorem St.old(h:St G L H W){w:World}(hw:w∈L)(hb:w.heap[b]? =some o)(hm:¬G.X b)(ho:cu H b):W.heap[b]? =some o:=by
 have hlt:=(bO.1 hb).1;rw[(h.links w hw).block b hlt (λhx=>hx.elim hm ho.mem)];exact hb
theorem St.put(h:St G L H W){J:Obj}(hi:H[i]? =some (b,o))(hW:aQ (· =b) W W')(hb:W'.heap[b]? =some J):St G L (H.set i (b,J)) W':=by
 have mG:(b,o)∈H:=cF hi;have gi:∀(j:Nat) (p:Nat×Obj),(H.set i (b,J))[j]? =some p->(j=i/\p=(b,J))\/(j≠i/\H[j]? =some p):=by
  intro j p hp;by_cases e:j=i
  ·grind
  grind
 have TT:∀(j:Nat) (p:Nat×Obj),(H.set i (b,J))[j]? =some p->∃q,H[j]? =some q/\q.1=p.1:=by
  intro j p hp;rcases gi j p hp with⟨rfl,rfl⟩|⟨_,hp⟩
  ·grind
  grind
 have di:∀k,k∈(H.set i (b,J)).map (·.1)↔k∈H.map (·.1):=by
  intro k;rw[List.map_set];constructor
  ·grind
  intro hk;obtain⟨j,hj⟩:=iB.1 hk;by_cases e:i=j
  ·grind [List.getElem?_set_self]
  exact iB.2 ⟨j,by grind⟩
 have hM:=h.apart _ mG;refine⟨G.stab W W' h.ghost hW.os hW.tape hW.output hW.drawn hW.size (λk hk=>hW.block k (h.vlt k hk) (λe=>hM (e▸hk))),λk hk=>oh (h.vlt k hk) hW.size,λk hk=>oh (h.xlt k hk) hW.size,λw hw=>?_,λp hp=>?_,λj j' p q hj xu e=>?_,λp hp=>?_⟩
 ·have h1:=(h.links w hw).trans (hW.mono (Y:=λk=>G.X k\/k∈H.map (·.1)) λk _ hk=>by grind)
  grind
 ·obtain⟨j,hj⟩:=iB.1 hp;rcases gi j p hj with⟨rfl,rfl⟩|⟨kq,hj⟩
  ·exact hb
  have hm:=cF hj;rw[hW.block p.1 (h.lt p hm) (λe=>kq (h.nodup j i p (b,o) hj hi e))];exact h.own p hm
 ·obtain⟨p',aq,e1⟩:=TT j p hj;obtain⟨q',a6,e2⟩:=TT j' q xu;exact h.nodup j j' p' q' aq a6 aa
 obtain⟨j,hj⟩:=iB.1 hp;obtain⟨q,hq,e⟩:=TT j p hj;rw[<-e];exact h.apart q (cF hq)
end
/-! ### the judgements -/
abbrev FW (r:Option Nat):Fence:={fn:=λ_=>True,depth:=none,alive:=false,round:=r}
theorem MN(r:Option Nat)(n:Nat):(FW r).room n:=λ_ h=>by simp at h
theorem nXr(P:Program)(r:Option Nat):Machine.fenced P (FW r)=Machine.fenced P Fence.wide:=rfl
theorem I6{r:Option Nat}{n:Nat}{P:Program}{f:FuncId}{args:Array Value}{w:World}:CallsIn (FW r) n P f args w R↔Calls P f args w R:=by
 rw[<-callsIn_wide (n:=n)];rfl
abbrev bA:=Exit->Act->World->Prop
structure Cx where
 P:Program
 r:Option Nat
 N:Nat
variable (C:Cx)
def PJ (Q:bA) (e:Exit) (E:Env) (D:List Deferred) (G:Gh) (L:List World) (H:ae):Prop:=
 ∀a W,a.tmps.size=C.N->a.defers=D->Fits E a->St G L H W->Q e a W
def CJ (c:Code) (Q:bA) (E:Env) (D:List Deferred) (G:Gh) (L:List World) (H:ae):Prop:=
 ∀a W,a.tmps.size=C.N->a.defers=D->Fits E a->St G L H W->c.wpIn (FW C.r) 0 C.P Q a W
def OJ (ops:Array Oper) (Q:bA) (l:List Oper) (E:Env) (D:List Deferred) (G:Gh) (L:List World) (H:ae):Prop:=
 ∀a W,a.tmps.size=C.N->a.defers=D->Fits E a->St G L H W->wpListIn (FW C.r) 0 C.P ops Q l a W
section
variable {C:Cx} {Q:bA} {E E':Env} {D:List Deferred} {G:Gh} {L L':List World} {H:ae} {ops:Array Oper} {l:List Oper}
theorem CJ.region{id:Nat}(h:OJ C l.toArray Q l E D G L H):CJ C (.region id l.toArray false) Q E D G L H:=
 λa W hN hD hF hS=>wpIn_region_lit (h a W hN hD hF hS)
theorem CJ.seq{x y:Code}(h:CJ C x (Exit.then (y.wpIn (FW C.r) 0 C.P Q) Q) E D G L H):CJ C (.seq x y) Q E D G L H:=
 λa W hN hD hF hS=>wpIn_seq (h a W hN hD hF hS)
theorem CJ.block{id:Nat}{c:Code}(h:CJ C c (Exit.inBlock id Q) E D G L H):CJ C (.block id c) Q E D G L H:=
 λa W hN hD hF hS=>wpIn_block (h a W hN hD hF hS)
theorem CJ.skip(h:PJ C Q .normal E D G L H):CJ C .skip Q E D G L H:=λa W hN hD hF hS=>wpIn_skip (h a W hN hD hF hS)
theorem CJ.ret(h:PJ C Q .ret E D G L H):CJ C .ret Q E D G L H:=λa W hN hD hF hS=>wpIn_ret (h a W hN hD hF hS)
theorem CJ.exit{id:Nat}(h:PJ C Q (.exit id) E D G L H):CJ C (.exit id) Q E D G L H:=λa W hN hD hF hS=>wpIn_exit (h a W hN hD hF hS)
theorem PJ.next{y:Code}(h:CJ C y Q E D G L H):PJ C (Exit.then (y.wpIn (FW C.r) 0 C.P Q) Q) .normal E D G L H:=h
theorem OJ.done(h:PJ C Q .normal E D G L H):OJ C ops Q [] E D G L H:=h
theorem CJ.condT{c:Operand}{x y:Code}(hc:ev E c=some (.bool true))(h:CJ C x Q E D G L H):CJ C (.cond c x y) Q E D G L H:=
 λa W hN hD hF hS=>wpIn_cond_true (hF.ev hc) (h a W hN hD hF hS)
theorem CJ.condF{c:Operand}{x y:Code}(hc:ev E c=some (.bool false))(h:CJ C y Q E D G L H):CJ C (.cond c x y) Q E D G L H:=
 λa W hN hD hF hS=>wpIn_cond_false (hF.ev hc) (h a W hN hD hF hS)
theorem CJ.cond{c:Operand}{x y:Code}{t:Bool}(hc:ev E c=some (.bool t))(h1:t=true->CJ C x Q E D G L H)(h2:t=false->CJ C y Q E D G L H):CJ C (.cond c x y) Q E D G L H:=
 λa W hN hD hF hS=>wpIn_cond_split (hF.ev hc) (λJ=>h1 J a W hN hD hF hS) (λJ=>h2 J a W hN hD hF hS)
theorem nE{c:Code}(hs:Sub E' E)(h:CJ C c Q E' D G L H):CJ C c Q E D G L H:=
 λa W hN hD hF hS=>h a W hN hD (hs.fits hF) hS
theorem St.lessL(h:St G L H W)(hs:∀w∈L',w∈L):St G L' H W:=
 {h with links:=λw hw=>h.links w (hs w hw)}
theorem nf{t:Nat}{c:Bool}(hc:look E t=some (.bool c))(h1:c=true->OJ C ops Q l ((t,.bool true)::E) D G L H)(h2:c=false->OJ C ops Q l ((t,.bool false)::E) D G L H):OJ C ops Q l E D G L H:=by
 intro a W hN hD hF hS;have J:∀b,c=b->Fits ((t,.bool b)::E) a:=by
  rintro b rfl u v hv;simp only[look]at hv;by_cases e:t=u
  ·subst e;simp at hv;subst hv;exact hF _ _ hc
  simp[TS e]at hv;exact hF _ _ hv
 cases c with
 |true=>exact h1 rfl a W hN hD (J _ rfl) hS
 |false=>exact h2 rfl a W hN hD (J _ rfl) hS
theorem OJ.off{o:Oper}(hd:o.dst=some d)(jY:d<C.N)(hw:nr ops E o.guard=some false)(h:OJ C ops Q l ((d,undef)::E) D G L H):OJ C ops Q (o::l) E D G L H:=by
 intro a W hN hD hF hS;unfold wpListIn;rw[if_neg (by grind [zb])];refine⟨λ_ _=>trivial,?_⟩;rw[hd];exact h (a.put (some d) undef) W (by simp[Act.put,hN]) lz (hF.put _ aa) hS
variable {H':ae}
section
variable {o:Oper}{v:Value}(hd:o.dst=some d)(hnd:∀c,o.op≠ .defer c)(jY:d<C.N)(hw:nr ops E o.guard=some true)
include v hd hnd jY hw
theorem OJ.run(h:∀a W,Fits E a->St G L H W->∃W',(execOp a.eval o).run C.P W= .ok (.value v) W'/\St G L' H' W')(k:OJ C ops Q l ((d,v)::E) D G L' H'):OJ C ops Q (o::l) E D G L H:=by
 intro a W hN hD hF hS;obtain⟨W',hr,J⟩:=h a W hF hS;unfold wpListIn;rw[if_pos (zb hF hw)];refine⟨λ_ _=>trivial,?_⟩;rw[Oper.semAt_eq _ _ _ hnd,hr,Oper.uponIn_value,hd];exact k (a.put (some d) v) W' (by simp[Act.put,hN]) lz (hF.put _ aa) J
theorem OJ.val(h:∀a W,Fits E a->St G L H W->(execOp a.eval o).run C.P W= .ok (.value v) W)(k:OJ C ops Q l ((d,v)::E) D G L H):OJ C ops Q (o::l) E D G L H:=
 OJ.run hd hnd jY hw (λa W hF hS=>⟨W,h a W hF hS,hS⟩) k
end
theorem MO{o:Oper}(hd:o.dst=none)(hnd:∀c,o.op≠ .defer c)(hw:nr ops E o.guard=some true)(h:∀a W,Fits E a->St G L H W->∃n W',(n= .skip\/∃v,n= .value v)/\(execOp a.eval o).run C.P W= .ok n W'/\St G L' H' W')(k:OJ C ops Q l E D G L' H'):OJ C ops Q (o::l) E D G L H:=by
 intro a W hN hD hF hS;obtain⟨n,W',hn,hr,J⟩:=h a W hF hS;unfold wpListIn;rw[if_pos (zb hF hw)];refine⟨λ_ _=>trivial,?_⟩;rw[Oper.semAt_eq _ _ _ hnd,hr];rcases hn with rfl|⟨v,rfl⟩
 ·rw[Oper.uponIn_skip,hd];exact k a W' hN hD hF J
 rw[Oper.uponIn_value,hd];exact k a W' hN hD hF J
end
end Px
namespace Px
open Go Go.RowKit
section
variable {C:Cx} {Q:bA} {E:Env} {D:List Deferred} {G:Gh} {L:List World} {H:ae} {ops:Array Oper} {l:List Oper}
variable {d T U ty:Nat} {pos:String} {aD:Array Edge} {g:Option (Nat×Bool)} {x y z:Operand}
theorem nF{p:Prop}[Decidable p](h:(!decide p)=false):p:=by simpa using h
variable {b:Nat}
theorem AM{a:Nat}(h:Nat.blt a b=true):a<b:=fy h
def RV (C:Cx) (G:Gh) (L:List World) (H:ae) (E:Env) (op:Op) (v:Value):Prop:=
 ∀(d ty:Nat) (pos:String) (aD:Array Edge) (g:Option (Nat×Bool)) (a:Act) (W:World),Fits E a->St G L H W->(execOp a.eval ⟨some d,op,ty,pos,aD,g⟩).run C.P W= .ok (.value v) W
variable {op:Op}
theorem TU{v:Value}(hnd:∀c,op≠ .defer c)(hw:nr ops E g=some true)(hN:Nat.blt d C.N=true)(h:∀a W,Fits E a->St G L H W->(execOp a.eval ⟨some d,op,ty,pos,aD,g⟩).run C.P W= .ok (.value v) W)(k:OJ C ops Q l ((d,v)::E) D G L H):OJ C ops Q (⟨some d,op,ty,pos,aD,g⟩::l) E D G L H:=
 OJ.val rfl hnd (AM hN) hw h k
theorem dp{v:Value}(hx:ev E x=some v):RV C G L H E (.move x) (v):=λd ty pos aD g a W hF hS=>by
 exact(λa W hF _=>by simp[execOp,hF.ev hx]:∀(a:Act) (W:World),Fits E a->St G L H W->(execOp a.eval ⟨some d,.move x,ty,pos,aD,g⟩).run C.P W= .ok (.value (v)) W) a W hF hS
theorem po{v:Value}(hx:ev E x=some v):RV C G L H E (.assign x) (v):=λd ty pos aD g a W hF hS=>by
 exact(λa W hF _=>by simp[execOp,hF.ev hx]:∀(a:Act) (W:World),Fits E a->St G L H W->(execOp a.eval ⟨some d,.assign x,ty,pos,aD,g⟩).run C.P W= .ok (.value (v)) W) a W hF hS
theorem Ae{v:Value}(hc:ev E x=some (.bool true))(hx:ev E y=some v):RV C G L H E (.pick x y z) (v):=λd ty pos aD g a W hF hS=>by
 exact(λa W hF _=>by simp[execOp,asBool,hF.ev hx,hF.ev hc]:∀(a:Act) (W:World),Fits E a->St G L H W->(execOp a.eval ⟨some d,.pick x y z,ty,pos,aD,g⟩).run C.P W= .ok (.value (v)) W) a W hF hS
theorem Pm{v:Value}(hc:ev E x=some (.bool false))(hx:ev E z=some v):RV C G L H E (.pick x y z) (v):=λd ty pos aD g a W hF hS=>by
 exact(λa W hF _=>by simp[execOp,asBool,hF.ev hx,hF.ev hc]:∀(a:Act) (W:World),Fits E a->St G L H W->(execOp a.eval ⟨some d,.pick x y z,ty,pos,aD,g⟩).run C.P W= .ok (.value (v)) W) a W hF hS
/-! #### integers -/
section ints
variable {K:IntKind} {m n:Int}
section
variable (hx:ev E x=some (.int K m))(hy:ev E y=some (.int K n))
include hx hy
theorem FD:RV C G L H E (.binOp .lss T x y U) (.bool (decide (m<n))):=λd ty pos aD g a W hF hS=>by
 exact(λa W hF _=>by simp[execOp,eqGuard,binOp,Op.intCmp,hF.ev hx,hF.ev hy]:∀(a:Act) (W:World),Fits E a->St G L H W->(execOp a.eval ⟨some d,.binOp .lss T x y U,ty,pos,aD,g⟩).run C.P W= .ok (.value (.bool (decide (m<n)))) W) a W hF hS
theorem acv:RV C G L H E (.binOp .leq T x y U) (.bool (decide (m<=n))):=λd ty pos aD g a W hF hS=>by
 exact(λa W hF _=>by simp[execOp,eqGuard,binOp,Op.intCmp,hF.ev hx,hF.ev hy]:∀(a:Act) (W:World),Fits E a->St G L H W->(execOp a.eval ⟨some d,.binOp .leq T x y U,ty,pos,aD,g⟩).run C.P W= .ok (.value (.bool (decide (m<=n)))) W) a W hF hS
theorem C6:RV C G L H E (.binOp .gtr T x y U) (.bool (decide (n<m))):=λd ty pos aD g a W hF hS=>by
 exact(λa W hF _=>by simp[execOp,eqGuard,binOp,Op.intCmp,hF.ev hx,hF.ev hy]:∀(a:Act) (W:World),Fits E a->St G L H W->(execOp a.eval ⟨some d,.binOp .gtr T x y U,ty,pos,aD,g⟩).run C.P W= .ok (.value (.bool (decide (n<m)))) W) a W hF hS
theorem pC:RV C G L H E (.binOp .geq T x y U) (.bool (decide (n<=m))):=λd ty pos aD g a W hF hS=>by
 exact(λa W hF _=>by simp[execOp,eqGuard,binOp,Op.intCmp,hF.ev hx,hF.ev hy]:∀(a:Act) (W:World),Fits E a->St G L H W->(execOp a.eval ⟨some d,.binOp .geq T x y U,ty,pos,aD,g⟩).run C.P W= .ok (.value (.bool (decide (n<=m)))) W) a W hF hS
theorem iU:RV C G L H E (.binOp .eql T x y U) (.bool (decide (m=n))):=λd ty pos aD g a W hF hS=>by
 exact(λa W hF _=>by
  simp only[execOp,binOp,hF.ev hx,hF.ev hy];simp;rfl:∀(a:Act) (W:World),Fits E a->St G L H W->(execOp a.eval ⟨some d,.binOp .eql T x y U,ty,pos,aD,g⟩).run C.P W= .ok (.value (.bool (decide (m=n)))) W) a W hF hS
theorem aN:RV C G L H E (.binOp .neq T x y U) (.bool (!decide (m=n))):=λd ty pos aD g a W hF hS=>by
 exact(λa W hF _=>by
  simp only[execOp,binOp,hF.ev hx,hF.ev hy];simp;rfl:∀(a:Act) (W:World),Fits E a->St G L H W->(execOp a.eval ⟨some d,.binOp .neq T x y U,ty,pos,aD,g⟩).run C.P W= .ok (.value (.bool (!decide (m=n)))) W) a W hF hS
theorem o4:RV C G L H E (.binOp .add T x y U) (.int K (K.wrap (m+n))):=λd ty pos aD g a W hF hS=>by
 exact(λa W hF _=>by simp[execOp,eqGuard,binOp,Op.intArith,hF.ev hx,hF.ev hy]:∀(a:Act) (W:World),Fits E a->St G L H W->(execOp a.eval ⟨some d,.binOp .add T x y U,ty,pos,aD,g⟩).run C.P W= .ok (.value (.int K (K.wrap (m+n)))) W) a W hF hS
theorem u9:RV C G L H E (.binOp .sub T x y U) (.int K (K.wrap (m-n))):=λd ty pos aD g a W hF hS=>by
 exact(λa W hF _=>by simp[execOp,eqGuard,binOp,Op.intArith,hF.ev hx,hF.ev hy]:∀(a:Act) (W:World),Fits E a->St G L H W->(execOp a.eval ⟨some d,.binOp .sub T x y U,ty,pos,aD,g⟩).run C.P W= .ok (.value (.int K (K.wrap (m-n)))) W) a W hF hS
theorem ku:RV C G L H E (.binOp .mul T x y U) (.int K (K.wrap (m*n))):=λd ty pos aD g a W hF hS=>by
 exact(λa W hF _=>by simp[execOp,eqGuard,binOp,Op.intArith,hF.ev hx,hF.ev hy]:∀(a:Act) (W:World),Fits E a->St G L H W->(execOp a.eval ⟨some d,.binOp .mul T x y U,ty,pos,aD,g⟩).run C.P W= .ok (.value (.int K (K.wrap (m*n)))) W) a W hF hS
end
theorem Nu{n:Int}(h1: -9223372036854775808<=n)(h2:n<=9223372036854775807):IntKind.i64.wrap n=n:=by
 grind [IntKind.wrap,IntKind.bits,IntKind.signed]
theorem Pn{n:Int}(h1:0<=n)(h2:n<18446744073709551616):IntKind.u64.wrap n=n:=by
 grind [IntKind.wrap,IntKind.bits,IntKind.signed]
theorem nz(n:Int):IntKind.u64.wrap n=n%18446744073709551616:=by
 rfl
theorem nko(n:Int):IntKind.u8.wrap n=n%256:=by
 rfl
theorem nYh(n:Int):IntKind.u32.wrap n=n%4294967296:=by
 rfl
section
variable (hx:ev E x=some (.int .i64 m))(hy:ev E y=some (.int .i64 n))
include hx hy
theorem FE(h1: -9223372036854775808<=m+n)(h2:m+n<=9223372036854775807):RV C G L H E (.binOp .add T x y U) (.int .i64 (m+n)):=by
 have:=o4 (C:=C) (G:=G) (L:=L) (H:=H) (T:=T) (U:=U) hx hy;grind [Nu]
theorem u7(h1: -9223372036854775808<=m-n)(h2:m-n<=9223372036854775807):RV C G L H E (.binOp .sub T x y U) (.int .i64 (m-n)):=by
 have:=u9 (C:=C) (G:=G) (L:=L) (H:=H) (T:=T) (U:=U) hx hy;grind [Nu]
theorem TV(h1: -9223372036854775808<=m*n)(h2:m*n<=9223372036854775807):RV C G L H E (.binOp .mul T x y U) (.int .i64 (m*n)):=by
 have:=ku (C:=C) (G:=G) (L:=L) (H:=H) (T:=T) (U:=U) hx hy;grind [Nu]
end
/-! #### division, shifts, bits -/
theorem HZ(hx:ev E x=some (.int K m))(hy:ev E y=some (.int K n))(h0:n≠0):RV C G L H E (.binOp .quo T x y U) (.int K (K.wrap (m.tdiv n))):=λd ty pos aD g a W hF _=>by
 simp[execOp,eqGuard,binOp,Op.intDiv,hF.ev hx,hF.ev hy,h0]
theorem TX(hx:ev E x=some (.int K m))(hy:ev E y=some (.int K n))(h0:n≠0):RV C G L H E (.binOp .rem T x y U) (.int K (m.tmod n)):=λd ty pos aD g a W hF _=>by
 simp[execOp,eqGuard,binOp,Op.intDiv,hF.ev hx,hF.ev hy,h0]
variable {K':IntKind}
section
variable (hx:ev E x=some (.int K m))
include hx
theorem qD(hy:ev E y=some (.int K' n))(h0:0<=n):RV C G L H E (.binOp .shl T x y U) (.int K (K.wrap (m*2^(min n.toNat K.bits)))):=λd ty pos aD g a W hF _=>by
 simp[execOp,eqGuard,binOp,Op.shift,hF.ev hx,hF.ev hy,show ¬n<0 by omega]
theorem lB(hy:ev E y=some (.int K' n))(h0:0<=n):RV C G L H E (.binOp .shr T x y U) (.int K (m.fdiv (2^(min n.toNat K.bits)))):=λd ty pos aD g a W hF _=>by
 simp[execOp,eqGuard,binOp,Op.shift,hF.ev hx,hF.ev hy,show ¬n<0 by omega]
theorem xH(hy:ev E y=some (.int K n)):RV C G L H E (.binOp .and T x y U) (.int K (K.wrap (BitVec.ofInt K.bits m&&&BitVec.ofInt K.bits n).toNat)):=λd ty pos aD g a W hF _=>by
 simp only[execOp,eqGuard,binOp,Op.intBits,hF.ev hx,hF.ev hy];simp
theorem zi(hy:ev E y=some (.int K n)):RV C G L H E (.binOp .or T x y U) (.int K (K.wrap (BitVec.ofInt K.bits m|||BitVec.ofInt K.bits n).toNat)):=λd ty pos aD g a W hF _=>by
 simp only[execOp,eqGuard,binOp,Op.intBits,hF.ev hx,hF.ev hy];simp
theorem xN(hy:ev E y=some (.int K n)):RV C G L H E (.binOp .xor T x y U) (.int K (K.wrap (BitVec.ofInt K.bits m^^^BitVec.ofInt K.bits n).toNat)):=λd ty pos aD g a W hF _=>by
 simp only[execOp,eqGuard,binOp,Op.intBits,hF.ev hx,hF.ev hy];simp
end
theorem TY(hx:ev E x=some (.int K n)):RV C G L H E (.unOp .xor T x) (.int K (K.wrap (BitVec.ofInt K.bits (if K.signed then -1 else K.max)^^^BitVec.ofInt K.bits n).toNat)):=λd ty pos aD g a W hF _=>by
 simp only[execOp,Op.unary,Op.intBits,hF.ev hx];simp
variable {s:ByteArray}
theorem CT{b:UInt8}(hU:C.P.underlying T=some .string)(hx:ev E x=some (.string s))(hy:ev E y=some (.int K n))(h0:0<=n)(hb:s[n.toNat]? =some b):RV C G L H E (.index T x y) (.int .u8 b.toNat):=λd ty pos aD g a W hF _=>by
 simp[execOp,hF.ev hx,hF.ev hy,Instr.index,asIntOf,run_underlying hU,h0,hb]
def CR:Op->Bool
 | .defer _=>false
 |_=>true
theorem H2(h:CR op=true):∀c,op≠ .defer c:=λc e=>by subst e;cases h
theorem rv{v:Value}(hnd:CR op=true)(hw:nr ops E g=some true)(hN:Nat.blt d C.N=true)(h:RV C G L H E op v)(k:OJ C ops Q l ((d,v)::E) D G L H):OJ C ops Q (⟨some d,op,ty,pos,aD,g⟩::l) E D G L H:=
 TU (H2 hnd) hw hN (λa W hF hS=>h d ty pos aD g a W hF hS) k
theorem rx{v:Value}(h:RV C G L H E op v)(k:OJ C ops Q l ((d,v)::E) D G L H)(hnd:CR op=true:=by exact rfl)(hw:nr ops E g=some true:=by exact rfl)(hN:Nat.blt d C.N=true:=by exact rfl):OJ C ops Q (⟨some d,op,ty,pos,aD,g⟩::l) E D G L H:=rv hnd hw hN h k
theorem RV.re{v v':Value}(h:RV C G L H E op v)(e:v=v'):RV C G L H E op v':=e▸h
theorem OJ.re{v v':Value}(e:v=v')(k:OJ C ops Q l ((d,v')::E) D G L H):OJ C ops Q l ((d,v)::E) D G L H:=by grind
theorem nWq{m:Int}(h0:0<=m)(h1:m<18446744073709551616)(j:Nat)(hj:j<=64):IntKind.u64.wrap (BitVec.ofInt IntKind.u64.bits m&&&BitVec.ofInt IntKind.u64.bits (2^j-1)).toNat=m%2^j:=by
 obtain⟨k,rfl⟩:=Ji h0;have hp:(2:Int)^j-1=((2^j-1:Nat):Int):=by
  have:0<2^j:=Nat.two_pow_pos j;rw[Int.ofNat_sub aa];simp
 have hle:2^j<=18446744073709551616:=by
  have:=Nat.pow_le_pow_right (show 0<2 by decide) hj;simpa using this
 grind [IntKind.bits,Nat.and_two_pow_sub_one_eq_mod,Pn]
section
variable (hx:ev E x=some (.int .u64 m))(hy:ev E y=some (.int .u64 n))
include hx hy
theorem H3(h1:0<=m+n)(h2:m+n<18446744073709551616):RV C G L H E (.binOp .add T x y U) (.int .u64 (m+n)):=by
 have:=o4 (C:=C) (G:=G) (L:=L) (H:=H) (T:=T) (U:=U) hx hy;grind [Pn]
theorem uf(h1:0<=m-n)(h2:m-n<18446744073709551616):RV C G L H E (.binOp .sub T x y U) (.int .u64 (m-n)):=by
 have:=u9 (C:=C) (G:=G) (L:=L) (H:=H) (T:=T) (U:=U) hx hy;grind [Pn]
theorem uu(h1:0<=m*n)(h2:m*n<18446744073709551616):RV C G L H E (.binOp .mul T x y U) (.int .u64 (m*n)):=by
 have:=ku (C:=C) (G:=G) (L:=L) (H:=H) (T:=T) (U:=U) hx hy;grind [Pn]
theorem ug(h0:0<=m)(h1:m<18446744073709551616)(h2:1<=n):RV C G L H E (.binOp .quo T x y U) (.int .u64 (m/n)):=by
 have:=HZ (C:=C) (G:=G) (L:=L) (H:=H) (T:=T) (U:=U) hx hy aa;rw[Int.tdiv_eq_ediv_of_nonneg h0,Pn (Int.ediv_nonneg h0 aa) (Int.lt_of_le_of_lt (Int.ediv_le_self _ h0) h1)]at this;exact this
end
theorem xA(hx:ev E x=some (.int K m))(hy:ev E y=some (.int K n))(h0:0<=m)(h2:1<=n):RV C G L H E (.binOp .rem T x y U) (.int K (m%n)):=by
 have:=TX (C:=C) (G:=G) (L:=L) (H:=H) (T:=T) (U:=U) hx hy aa
 grind
theorem Gy(hx:ev E x=some (.int .i64 m))(hy:ev E y=some (.int .i64 n))(h0:0<=m)(h1:m<9223372036854775808)(h2:1<=n):RV C G L H E (.binOp .quo T x y U) (.int .i64 (m/n)):=by
 have:=HZ (C:=C) (G:=G) (L:=L) (H:=H) (T:=T) (U:=U) hx hy aa;have h3:m/n<=m:=Int.ediv_le_self _ h0;have h4:0<=m/n:=Int.ediv_nonneg h0 aa
 grind [Nu]
theorem H4{j:Nat}(hj:Nat.ble j K.bits=true):min (Int.toNat (j:Int)) K.bits=j:=by
 simp_all
section
variable (j:Nat)(q:Int)(hq:(2:Int)^j=q)(hj:Nat.ble j K.bits=true)(hx:ev E x=some (.int K m))(hy:ev E y=some (.int K' (j:Int)))
include hq hj hx hy
theorem iP:RV C G L H E (.binOp .shr T x y U) (.int K (m/q)):=by
 have:=lB (C:=C) (G:=G) (L:=L) (H:=H) (T:=T) (U:=U) hx hy aa
 grind [H4]
theorem C1:RV C G L H E (.binOp .shl T x y U) (.int K (K.wrap (m*q))):=by
 have:=qD (C:=C) (G:=G) (L:=L) (H:=H) (T:=T) (U:=U) hx hy aa;simp_all
end
theorem qE(j:Nat)(q:Int)(hq:(2:Int)^j=q)(hj:Nat.ble j 64=true)(hx:ev E x=some (.int .u64 m))(hy:ev E y=some (.int .u64 n))(hn:n=q-1)(h0:0<=m)(h1:m<18446744073709551616):RV C G L H E (.binOp .and T x y U) (.int .u64 (m%q)):=by
 have:=xH (C:=C) (G:=G) (L:=L) (H:=H) (T:=T) (U:=U) hx hy;rw[hn,<-hq,nWq h0 h1 j (fy hj)]at this;rwa[<-hq]
section
variable {S T':Nat}{ds:TypeDesc}(H5:C.P.underlying S=some ds)
include S T' ds H5
theorem kz(hT:C.P.underlying T'=some (.int K'))(hx:ev E x=some (.int K m)):RV C G L H E (.convert S T' x) (.int K' (K'.wrap m)):=λd ty pos aD g a W hF hS=>by
 exact(λa W hF _=>by
  simp[execOp,convert,hF.ev hx,run_underlying H5,run_underlying hT,Conv.intToInt]:∀(a:Act) (W:World),Fits E a->St G L H W->(execOp a.eval ⟨some d,.convert S T' x,ty,pos,aD,g⟩).run C.P W= .ok (.value (.int K' (K'.wrap m))) W) a W hF hS
theorem xE(hT:C.P.underlying T'=some (.int .i64))(hx:ev E x=some (.int K m))(h1: -9223372036854775808<=m)(h2:m<=9223372036854775807):RV C G L H E (.convert S T' x) (.int .i64 m):=by
 have:=kz (C:=C) (G:=G) (L:=L) (H:=H) H5 hT hx;grind [Nu]
theorem xx(hT:C.P.underlying T'=some (.int .u64))(hx:ev E x=some (.int K m))(h1:0<=m)(h2:m<18446744073709551616):RV C G L H E (.convert S T' x) (.int .u64 m):=by
 have:=kz (C:=C) (G:=G) (L:=L) (H:=H) H5 hT hx;grind [Pn]
theorem iQ(hT:C.P.underlying T'=some (.int .u8))(hx:ev E x=some (.int K m)):RV C G L H E (.convert S T' x) (.int .u8 (m%256)):=by
 have:=kz (C:=C) (G:=G) (L:=L) (H:=H) H5 hT hx;rwa[nko]at this
theorem MP(hT:C.P.underlying T'=some (.int .u8))(hx:ev E x=some (.int K m))(h0:0<=m)(h1:m<256):RV C G L H E (.convert S T' x) (.int .u8 m):=by
 have:=iQ (C:=C) (G:=G) (L:=L) (H:=H) H5 hT hx;grind
end
end ints
theorem ij{b:Bool}(hx:ev E x=some (.bool b)):RV C G L H E (.unOp .not T x) (.bool (!b)):=λd ty pos aD g a W hF hS=>by
 exact(λa W hF _=>by simp[execOp,Op.unary,hF.ev hx]:∀(a:Act) (W:World),Fits E a->St G L H W->(execOp a.eval ⟨some d,.unOp .not T x,ty,pos,aD,g⟩).run C.P W= .ok (.value (.bool (!b))) W) a W hF hS
variable {i:Nat}
theorem gr{vs:Array Value}{v:Value}(hx:ev E x=some (.tuple vs))(hv:vs[i]? =some v):RV C G L H E (.extract x i) (v):=λd ty pos aD g a W hF hS=>by
 exact(λa W hF _=>by simp[execOp,Instr.extract,hF.ev hx,hv]:∀(a:Act) (W:World),Fits E a->St G L H W->(execOp a.eval ⟨some d,.extract x i,ty,pos,aD,g⟩).run C.P W= .ok (.value (v)) W) a W hF hS
/-! #### calls -/
/-- What a contract says that leaves all that lay as_ it lay: it returns v. -/
def ar (w:World) (v:Value):Ending->World->Prop:=λe w'=>e= .returned v/\Below w.heap.size w w'
def db {α:Type} (w:World) (v:α->Value) (Φ:α->World->Prop):Ending->World->Prop:=λe w'=>∃x,e= .returned (v x)/\Below w.heap.size w w'/\Φ x w'
def fh (P:Program) (f:Nat):Prop:=∀(args:Array Value) (w:World),(callFunc f args).run P w= .ok (.enter f args) w
def jt (E:Env):List Operand->Option (List Value)
 | []=>some []
 |x::xs=>
  match ev E x with
  |some v=>
   match jt E xs with
   |some vs=>some (v::vs)
   |none=>none
  |none=>none
theorem MQ{E:Env}{a:Act}(h:Fits E a):∀(xs:List Operand) (vs:List Value),jt E xs=some vs->xs.map a.eval=vs
 | [],vs,hv=>by grind [jt]
 |x::xs,vs,hv=>by
  simp[jt]at hv;cases hx:ev E x with
  |none=>grind
  |some v=>
   simp[hx]at hv;cases hs:jt E xs with
   |none=>grind
   |some us=>
    simp[hs]at hv;subst hv;simp[h.ev hx,MQ h xs us hs]
variable {f:Nat} {xs:List Operand} {vs:List Value} {eY:Array Nat}
theorem sZ{o:Oper}{x:Operand}(ho:o.op= .call ⟨.value x,xs.toArray,eY⟩){first cap J:Array Value}(hw:nr ops E o.guard=some true)(hx:ev E x=some (.func (.func f) first cap))(ha:jt E xs=some vs)(has:first++vs.toArray++cap=J)(aF:fh C.P f)(hc:∀a W,a.tmps.size=C.N->a.defers=D->Fits E a->St G L H W->Calls C.P f J W λ| .returned v,W'=>wpListIn (FW C.r) 0 C.P ops Q l (a.put o.dst v) W'| .panicked ch,W'=>Q (.panic ch) a W'| .outgrown,_=>LetsOut Q):OJ C ops Q (o::l) E D G L H:=by
 intro a W hN hD hF hS;unfold wpListIn;rw[if_pos (zb hF hw)];refine⟨λ_ _=>trivial,?_⟩;have hr:(execOp a.eval o).run C.P W= .ok (.enter f J) W:=by
  have h2:(xs.toArray).map a.eval=vs.toArray:=by rw[CS,MQ hF xs vs ha]
  simp only[execOp,ho,resolve,hF.ev hx,Deferred.ofValue,h2];simp[invoke,has,aF J W]
 rw[Oper.semAt_eq _ _ _ cM,hr];exact⟨by simp,I6.2 (hc a W hN hD hF hS)⟩
theorem call{v:Value}(aF:fh C.P f)(hw:nr ops E g=some true)(hN:Nat.blt d C.N=true)(ha:jt E xs=some vs)(hc:∀W,St G L H W->Calls C.P f vs.toArray W (ar W v))(k:OJ C ops Q l ((d,v)::E) D G L H):OJ C ops Q (⟨some d,.call ⟨.value (.func f),xs.toArray,eY⟩,ty,pos,aD,g⟩::l) E D G L H:=
 sZ rfl hw rfl ha zP aF λa W jY hD hF hS=>(hc W hS).mono (by
  rintro e W' ⟨rfl,hb⟩;exact k (a.put (some d) v) W' mV lz (hF.put _ z2) (hS.step hb))
theorem cl{v:Value}(aF:fh C.P f)(ha:jt E xs=some vs)(hc:∀W,St G L H W->Calls C.P f vs.toArray W (ar W v))(k:OJ C ops Q l ((d,v)::E) D G L H)(hw:nr ops E g=some true:=by exact rfl)(hN:Nat.blt d C.N=true:=by exact rfl):OJ C ops Q (⟨some d,.call ⟨.value (.func f),xs.toArray,eY⟩,ty,pos,aD,g⟩::l) E D G L H:=call aF hw hN ha hc k
theorem ny{α:Type}{v:α->Value}{Φ:World->α->World->Prop}(aF:fh C.P f)(hw:nr ops E g=some true)(hN:Nat.blt d C.N=true)(ha:jt E xs=some vs)(hc:∀W,St G L H W->Calls C.P f vs.toArray W (db W v (Φ W)))(k:∀W x w1,St G L H W->Below W.heap.size W w1->Φ W x w1->OJ C ops Q l ((d,v x)::E) D G (w1::L) H):OJ C ops Q (⟨some d,.call ⟨.value (.func f),xs.toArray,eY⟩,ty,pos,aD,g⟩::l) E D G L H:=
 sZ rfl hw rfl ha zP aF λa W jY hD hF hS=>(hc W hS).mono (by
  rintro e W' ⟨x,rfl,hb,hx⟩;exact k W x W' hS hb hx (a.put (some d) (v x)) W' mV lz (hF.put _ z2) (hS.step hb).snap)
end
/-! #### into a function, and out of it -/
def AN:Nat->List Value->Env
 |_,[]=>[]
 |i,v::vs=>(i,v)::AN (i+1) vs
theorem nBj:∀(vs:List Value) (i t:Nat) (v:Value),look (AN i vs) t=some v->i<=t/\vs[t-i]? =some v
 | [],i,t,v,h=>by simp[AN,look]at h
 |u::vs,i,t,v,h=>by
  simp[AN,look]at h;by_cases e:i=t
  ·simp_all
  simp[TS e]at h;obtain⟨h1,h2⟩:=nBj vs (i+1) t v h
  grind
theorem n6d(vs:List Value)(n:Nat):Fits (AN 0 vs) ⟨vs.toArray++Array.replicate n undef,[]⟩:=by
 intro t v h;obtain⟨_,h⟩:=nBj vs 0 t v h
 (simp[qe,Act.eval,aYs];grind)
variable {R:Ending->World->Prop} {fn:Func} {vs:List Value} {N f:Nat}
theorem nP{P:Program}{c:Code}{w:World}(G:Gh)(H:ae)(hf:P.funcs[f]? =some fn)(hb:fn.body=some c)(hN:fn.ntmps=N)(hl:Nat.ble vs.length N=true)(hS:St G [w] H w)(h:CJ ⟨P,none,N⟩ c (bodyPost P fn R) (AN 0 vs) [] G [w] H):Calls P f vs.toArray w R:=by
 rw[<-I6 (r:=none) (n:=0)];refine callsIn_of_wp hf hb trivial (h _ w ?_ rfl ?_ hS);all_goals simp_all[n6d]
theorem AX(w:World):St Gh.no [w] [] w:=
 ⟨trivial,λ_ h=>h.elim,λ_ h=>h.elim,λw' hw=>by grind [aQ.refl],λ_ h=>by simp at h,λ_ _ _ _ h=>by simp at h,λ_ h=>by simp at h⟩
theorem enter{P:Program}{c:Code}{w:World}(hf:P.funcs[f]? =some fn)(hb:fn.body=some c)(hN:fn.ntmps=N)(hl:Nat.ble vs.length N=true)(h:CJ ⟨P,none,N⟩ c (bodyPost P fn R) (AN 0 vs) [] Gh.no [w] []):Calls P f vs.toArray w R:=
 nP Gh.no [] hf hb hN hl (AX w) h
section
variable {C:Cx} {fn:Func} {R:Ending->World->Prop} {E:Env} {G:Gh} {L:List World} {H:ae}
variable {W:World}
theorem St.belowNo{w:World}(h:St Gh.no L [] W)(hw:w∈L):Below w.heap.size w W:=
 (h.links w hw).below λk _ hx=>by simp[Gh.no]at hx
theorem acx{t:Nat}{v:Value}(hr:fn.results=#[.tmp t])(hv:look E t=some v)(h:∀W,St G L H W->R (.returned v) W):PJ C (bodyPost C.P fn R) .ret E [] G L H:=
 λa W _ hD hF hS=>⟨hD,v,zYk,h W hS⟩
theorem anG{t u:Nat}{v v':Value}(hr:fn.results=#[.tmp t,.tmp u])(hv:look E t=some v)(J:look E u=some v')(h:∀W,St G L H W->R (.returned (.tuple #[v,v'])) W):PJ C (bodyPost C.P fn R) .ret E [] G L H:=
 λa W _ hD hF hS=>⟨hD,.tuple #[v,v'],by
  rw[results_tmp2 hr];have h1:=hF t v hv;have h2:=hF u v' J
  grind [Act.eval],h W hS⟩
theorem pe{α:Type}{t:Nat}{v:Value}{w:World}{u:α->Value}{Φ:α->World->Prop}(x:α)(hr:fn.results=#[.tmp t])(hv:look E t=some v)(hw:w∈L)(e:v=u x)(h:∀W,St Gh.no L [] W->Φ x W):PJ C (bodyPost C.P fn (db w u Φ)) .ret E [] Gh.no L []:=
 acx hr hv λW hS=>⟨x,by rw[e],hS.belowNo hw,h W hS⟩
theorem ao{t:Nat}{v v':Value}{w:World}(hr:fn.results=#[.tmp t])(hv:look E t=some v)(hw:w∈L)(e:v=v'):PJ C (bodyPost C.P fn (ar w v')) .ret E [] Gh.no L []:=
 acx hr hv λ_ hS=>⟨by rw[e],hS.belowNo hw⟩
theorem nK{t u:Nat}{v v' v1 v2:Value}{w:World}(hr:fn.results=#[.tmp t,.tmp u])(hv:look E t=some v)(J:look E u=some v')(hw:w∈L)(e:v=v1)(e':v'=v2):PJ C (bodyPost C.P fn (ar w (.tuple #[v1,v2]))) .ret E [] Gh.no L []:=
 anG hr hv J λ_ hS=>⟨by rw[e,e'],hS.belowNo hw⟩
end
end Px
namespace Px
open Go Go.RowKit
section
variable {C:Cx} {Q:bA} {E:Env} {D:List Deferred} {G:Gh} {L:List World} {H:ae} {K:Act->World->Prop} {id j:Nat}
theorem PJ.retThen(h:PJ C Q .ret E D G L H):PJ C (Exit.then K Q) .ret E D G L H:=h
theorem PJ.retBlock(h:PJ C Q .ret E D G L H):PJ C (Exit.inBlock id Q) .ret E D G L H:=h
theorem PJ.norBlock(h:PJ C Q .normal E D G L H):PJ C (Exit.inBlock id Q) .normal E D G L H:=h
theorem PJ.exThen(h:PJ C Q (.exit id) E D G L H):PJ C (Exit.then K Q) (.exit id) E D G L H:=h
theorem PJ.exHit(h:PJ C Q .normal E D G L H):PJ C (Exit.inBlock id Q) (.exit id) E D G L H:=λa W hN hD hF hS=>by
 simp[Exit.inBlock];exact h a W hN hD hF hS
theorem nxc(kq:Nat.beq id j=false)(h:PJ C Q (.exit id) E D G L H):PJ C (Exit.inBlock j Q) (.exit id) E D G L H:=λa W hN hD hF hS=>by
 have:¬id=j:=λe=>by simp_all
 simp[Exit.inBlock,this];exact h a W hN hD hF hS
theorem nfi(p:Nat->Prop):∀n,p n->∃m,p m/\∀k,p k->m<=k:=by
 intro n;induction n using Nat.strongRecOn<;>grind
open Classical in
noncomputable def TZ (p:Nat->Prop):Nat:=if h:∃m,p m/\∀k,p k->m<=k then Classical.choose h else 0
theorem nuf{p:Nat->Prop}(h:∃n,p n):p (TZ p):=by
 obtain⟨n,hn⟩:=h;have h:=nfi p n hn
 grind [TZ]
theorem nfh{p:Nat->Prop}{n:Nat}(hn:p n):TZ p<=n:=by
 have h:=nfi p n hn
 grind [TZ]
def nPj {α:Type} (C:Cx) (D:List Deferred) (Ei:α->Env) (Hi:α->ae) (Li:α->List World) (Gi:α->Gh) (ok:α->Prop) (μ:α->Nat) (x:α) (a:Act) (W:World):Prop:=
 ∃x',ok x'/\μ x'<μ x/\a.tmps.size=C.N/\a.defers=D/\Fits (Ei x') a/\St (Gi x') (Li x') (Hi x') W
section
variable {α:Type}{c:Code}(Ei:α->Env)(Hi:α->ae)(Li:α->List World)(Gi:α->Gh)(ok:α->Prop)(μ:α->Nat)(x0:α)(h0:ok x0)
include Ei Hi Li Gi ok μ x0 h0
theorem CJ.loopF(hE:∀{a},Fits E a->Fits (Ei x0) a)(hH:Hi x0=H)(hG:Gi x0=G)(J:∀w∈Li x0,w∈L)(round:∀x,ok x->CJ C c (Exit.then (nPj C D Ei Hi Li Gi ok μ x) Q) (Ei x) D (Gi x) (Li x) (Hi x)):CJ C (.loop c) Q E D G L H:=by
 intro a W hN hD hF hS;subst hH;subst hG
 let Inv:Act->World->Nat->Prop:=λa W m=>∃x,μ x=m/\ok x/\a.tmps.size=C.N/\a.defers=D/\Fits (Ei x) a/\St (Gi x) (Li x) (Hi x) W
 refine wpIn_loop (λa W=>∃m,Inv a W m) (λa W=>TZ (Inv a W)) ⟨_,x0,rfl,h0,hN,hD,hE hF,hS.lessL J⟩ ?_;exact zYi
theorem CJ.loop(hE:Sub (Ei x0) E)(hH:Hi x0=H)(hG:Gi x0=G)(J:∀w∈Li x0,w∈L)(round:∀x,ok x->CJ C c (Exit.then (nPj C D Ei Hi Li Gi ok μ x) Q) (Ei x) D (Gi x) (Li x) (Hi x)):CJ C (.loop c) Q E D G L H:=CJ.loopF Ei Hi Li Gi ok μ x0 h0 (λhF=>hE.fits hF) hH hG J round
end
theorem PJ.again{α:Type}{Ei:α->Env}{Hi:α->ae}{Li:α->List World}{Gi:α->Gh}{ok:α->Prop}{μ:α->Nat}{x:α}(x':α)(h0:ok x')(hlt:μ x'<μ x)(hE:Sub (Ei x') E)(hH:Hi x'=H)(hG:Gi x'=G)(J:∀w∈Li x',w∈L):PJ C (Exit.then (nPj C D Ei Hi Li Gi ok μ x) Q) .normal E D G L H:=by
 intro a W hN hD hF hS;subst hH;subst hG;exact⟨x',h0,hlt,hN,hD,hE.fits hF,hS.lessL J⟩
theorem nod(A B:Env)(t:Nat):look (A++B) t=(look A t).or (look B t):=by induction A<;>grind [look]
variable {a:Act}
theorem T0{A B:Env}(h1:Fits A a)(h2:Fits B a):Fits (A++B) a:=by
 intro t v hv;rw[nod]at hv;cases h:look A t with
 |some u=>simp[h]at hv;subst hv;exact h1 t u h
 |none=>simp[h]at hv;exact h2 t v hv
/-- the slots of a list, each once -/
inductive KS:List Nat->Env->Env->Prop
 |nil {ks:List Nat} {E:Env}:KS ks E []
 |keep {ks:List Nat} {t:Nat} {v:Value} {E E':Env}:ks.any (Nat.beq t)=true->KS (ks.filter λk=> !Nat.beq t k) E E'->KS ks ((t,v)::E) ((t,v)::E')
 |skip {ks:List Nat} {t:Nat} {v:Value} {E E':Env}:ks.any (Nat.beq t)=false->KS ks E E'->KS ks ((t,v)::E) E'
variable {ks:List Nat}
theorem KS.done(J:ks.isEmpty=true):KS ks E []:=.nil
variable {E':Env}
theorem KS.look(h:KS ks E E'):∀{t v},Px.look E' t=some v->ks.any (Nat.beq t)=true/\Px.look E t=some v:=by
 induction h with
 |nil=>intro t v h;simp[Px.look]at h
 |@keep ks t0 v0 E E' h _ ih=>
  intro t v h2;simp only[Px.look]at h2 ⊢;cases hb:Nat.beq t0 t with
  |true=>rw[hb]at h2;rw[Nat.beq_eq]at hb;subst hb;exact⟨h,h2⟩
  |false=>
   rw[hb]at h2;have h3:=ih h2;refine⟨?_,h3.2⟩;have h4:=h3.1;simp only[List.any_eq_true,vy]at h4 ⊢;obtain⟨k,hk,e⟩:=h4;exact⟨k,hk.1,e⟩
 |@skip ks t0 v0 E E' h _ ih=>
  intro t v h2;have h3:=ih h2;simp only[Px.look];cases hb:Nat.beq t0 t with
  |true=>rw[Nat.beq_eq]at hb;subst hb;rw[h]at h3;cases h3.1
  |false=>exact h3
theorem KS.fits(h:KS ks E E')(hF:Fits E a):Fits E' a:=λt v hv=>hF t v (h.look hv).2
theorem CJ.lp{α:Type}{c:Code}{E0:Env}(ks:List Nat)(Ei:α->Env)(Hi:α->ae)(ok:α->Prop)(μ:α->Nat)(x0:α)(h0:ok x0)(round:∀x,ok x->CJ C c (Exit.then (nPj C D (λx=>Ei x++E0) Hi (λ_=>L) (λ_=>G) ok μ x) Q) (Ei x++E0) D G L (Hi x))(J:KS ks E E0:=by exact zKS)(hE:Sub (Ei x0) E:=by exact zSU)(hH:Hi x0=H:=by exact rfl):CJ C (.loop c) Q E D G L H:=
 CJ.loopF (λx=>Ei x++E0) Hi (λ_=>L) (λ_=>G) ok μ x0 h0 (λhF=>T0 (hE.fits hF) (J.fits hF)) hH rfl (λ_ h=>h) round
theorem ag{α:Type}{Ei:α->Env}{Hi:α->ae}{Li:α->List World}{Gi:α->Gh}{ok:α->Prop}{μ:α->Nat}{x:α}(x':α)(h0:ok x')(hlt:μ x'<μ x:=by first|omega|(dsimp only;omega))(hE:Sub (Ei x') E:=by exact zSU)(hH:Hi x'=H:=by exact rfl)(hG:Gi x'=G:=by exact rfl)(J:∀w∈Li x',w∈L:=by first|exact λ_ h=>h|simp):PJ C (Exit.then (nPj C D Ei Hi Li Gi ok μ x) Q) .normal E D G L H:=PJ.again x' h0 hlt hE hH hG J
variable {R:Ending->World->Prop} {fn:Func} {vs:List Value} {N f:Nat}
theorem eN{P:Program}{c:Code}{w:World}(hf:P.funcs[f]? =some fn)(hN:fn.ntmps=N)(h:CJ ⟨P,none,N⟩ c (bodyPost P fn R) (AN 0 vs) [] Gh.no [w] [])(hb:fn.body=some c:=by exact rfl)(hl:Nat.ble vs.length N=true:=by exact rfl):Calls P f vs.toArray w R:=enter hf hb hN hl h
theorem cH{P:Program}{c:Code}{w:World}{K:Prop}(n:Nat)(hf:P.funcs[f]? =some fn)(hN:fn.ntmps=N)(k:K)(hb:fn.body=some c:=by exact rfl)(h:Ct n->ZW K->CJ ⟨P,none,N⟩ c (bodyPost P fn R) (AN 0 vs) [] Gh.no [w] []:=by intro Cz Kz;refine WO Cz ?_;exact Kz.p)(hl:Nat.ble vs.length N=true:=by exact rfl):Calls P f vs.toArray w R:=enter hf hb hN hl (h (.mk n) ⟨k⟩)
end
end Px
namespace Px
open Go Go.RowKit
abbrev ptr (b off:Nat):Value:=.pointer (some ⟨b,off,none⟩)
abbrev nV (P:Program) (t n:Nat):Prop:=∀w:World,(Go.sizeOf t).run P w= .ok n w
abbrev fp (P:Program) (t:Nat) (b:Bool):Prop:=∀w:World,(isAgg t).run P w= .ok b w
abbrev zc (P:Program) (t:Nat) (v:Value):Prop:=∀w:World,(zeroValue t).run P w= .ok v w
theorem O5(b off n:Nat):(⟨b,off,none⟩:Addr).add n=⟨b,off+n,none⟩:=by
 grind [Addr.add]
variable {cs:Array Value} {b:Nat} {fr:Nat×Nat} {W:World}
theorem fb{t:Nat}(h:W.heap[b]? =some (.cells cs t fr))(i:Nat):W.cell? ⟨b,i,none⟩=cs[i]? :=by
 simp[World.cell?,h]
theorem nhi{P:Program}{t T off:Nat}{v:Value}(hA:fp P T false)(h:W.heap[b]? =some (.cells cs t fr))(hv:cs[off]? =some v):(loadVar T ⟨b,off,none⟩).run P W= .ok v W:=by
 have:W.cell? ⟨b,off,none⟩=some v:=by rw[fb h,hv]
 simp[loadVar,hA,this]
theorem nqh{P:Program}{t off n:Nat}(h:W.heap[b]? =some (.cells cs t fr))(hn:off+n<=cs.size):(loadCells ⟨b,off,none⟩ n).run P W= .ok (cs.extract off (off+n)) W:=by
 have hl:(cs.extract off (off+n)).toList.length=n:=by simp;omega
 have:=run_loadCells_list (P:=P) W ⟨b,off,none⟩ (cs.extract off (off+n)).toList (λj v hv=>by
  rw[O5,fb h]
  grind)
 rw[hl]at this;omega
def cut (cs:Array Value) (off n:Nat):Array Value:=((cs.toList.drop off).take n).toArray
theorem nTi(cs:Array Value)(off n:Nat):cs.extract off (off+n)=cut cs off n:=by grind [cut]
theorem nrg(cs:Array Value)(n:Nat)(h:cs.size=n):cut cs 0 n=cs:=by grind [cut]
theorem nbi{P:Program}{t T off n:Nat}(hA:fp P T true)(hZ:nV P T n)(h:W.heap[b]? =some (.cells cs t fr))(hn:off+n<=cs.size):(loadVar T ⟨b,off,none⟩).run P W= .ok (.agg (cut cs off n)) W:=by
 simp[loadVar,hA W,hZ W,nqh h hn,nTi]
def setCells (cs:Array Value) (off:Nat):List Value->Array Value
 | []=>cs
 |x::xs=>setCells (cs.setIfInBounds off x) (off+1) xs
theorem nTe(cs:Array Value)(off:Nat)(xs:List Value):(setCells cs off xs).size=cs.size:=by induction xs generalizing cs off<;>grind [setCells]
def Bm:Value->Bool
 | .agg _| .tuple _=>false
 |_=>true
def rK:List Value->Bool
 | []=>true
 |x::xs=>Bm x&&rK xs
theorem nor{P:Program}{t off:Nat}{v:Value}(h:W.heap[b]? =some (.cells cs t (0,0)))(J:off<cs.size)(h1:Bm v=true):(store ⟨b,off,none⟩ v).run P W= .ok () (W.setCell ⟨b,off,none⟩ v):=by
 have hc:W.cell? ⟨b,off,none⟩=some cs[off]:=by rw[fb h];simp[J]
 have hf:W.frozen? ⟨b,off,none⟩=false:=by simp[World.frozen?,h]
 cases v<;>simp_all[store,Sem.run,Bm]
theorem n6h{t off:Nat}(v:Value)(h:W.heap[b]? =some (.cells cs t fr)):(W.setCell ⟨b,off,none⟩ v).heap[b]? =some (.cells (cs.setIfInBounds off v) t fr):=by
 simp_all[World.setCell,Array.getElem?_modify]
theorem n0h(W:World)(b off:Nat)(v:Value):aQ (· =b) W (W.setCell ⟨b,off,none⟩ v):=
 ⟨rfl,rfl,rfl,aC _,by simp,λk _ hk=>by
  simp[World.setCell]
  grind⟩
theorem nhd{P:Program}{b t off:Nat}:∀(xs:List Value) (i:Nat) (cs:Array Value) (W:World),W.heap[b]? =some (.cells cs t (0,0))->off+i+xs.length<=cs.size->rK xs=true->∃W',(storeCells ⟨b,off,none⟩ xs i).run P W= .ok () W'/\aQ (· =b) W W'/\W'.heap[b]? =some (.cells (setCells cs (off+i) xs) t (0,0))
 | [],i,cs,W,h,_,_=>⟨W,by rfl,aQ.refl _ _,h⟩
 |x::xs,i,cs,W,h,hn,h1=>by
  simp[rK]at h1;simp at hn;have hs:=nor (P:=P) h (show off+i<cs.size by omega) h1.1;obtain⟨W',hr,hk,hb⟩:=nhd (P:=P) (off:=off) xs (i+1) (cs.setIfInBounds (off+i) x) (W.setCell ⟨b,off+i,none⟩ x) (n6h x h) mZ h1.2;refine⟨W',?_,(n0h W b (off+i) x).trans hk,?_⟩
  ·simp_all[storeCells,O5]
  grind [setCells]
theorem npo{P:Program}{t T off n:Nat}{v:Value}(hZ:nV P T n)(hv:v.cells.size=n)(h:W.heap[b]? =some (.cells cs t (0,0)))(hn:off+n<=cs.size)(h1:rK v.cells.toList=true):∃W',(storeVar T ⟨b,off,none⟩ v).run P W= .ok () W'/\aQ (· =b) W W'/\W'.heap[b]? =some (.cells (setCells cs off v.cells.toList) t (0,0)):=by
 obtain⟨W',hr,hk,hb⟩:=nhd (P:=P) (off:=off) v.cells.toList 0 cs W h cM h1;simp_all[storeVar]
section
variable {C:Cx} {Q:bA} {E:Env} {D:List Deferred} {G:Gh} {L:List World} {H:ae} {ops:Array Oper} {l:List Oper}
variable {d T ty:Nat} {pos:String} {aD:Array Edge} {g:Option (Nat×Bool)} {x y:Operand}
variable {op:Op}
theorem rF(hnd:∀c,op≠ .defer c)(hw:nr ops E g=some true)(hN:Nat.blt d C.N=true)(h:∀a W,Fits E a->St G L H W->∃v W' L' H',(execOp a.eval ⟨some d,op,ty,pos,aD,g⟩).run C.P W= .ok (.value v) W'/\St G L' H' W'/\OJ C ops Q l ((d,v)::E) D G L' H'):OJ C ops Q (⟨some d,op,ty,pos,aD,g⟩::l) E D G L H:=by
 intro a W jY hD hF hS;obtain⟨v,W',L',H',hr,J,k⟩:=h a W hF hS;unfold wpListIn;rw[if_pos (zb hF hw)];refine⟨λ_ _=>trivial,?_⟩;rw[Oper.semAt_eq _ _ _ hnd,hr];exact k (a.put (some d) v) W' mV lz (hF.put _ z2) J
theorem St.offNew(h:St G L H W):cu H W.heap.size:=cu.of_mem λhm=>by
 obtain⟨p,hp,e⟩:=dO.1 hm;have:=h.lt p hp;omega
theorem St.mNew(h:St G L H W):¬G.X W.heap.size:=λhm=>by have:=h.xlt _ hm;omega
variable {a:Act}
theorem nEl{P:Program}{v:Value}(hx:a.eval x=v):(execOp a.eval ⟨some d,.box T x,ty,pos,aD,g⟩).run P W= .ok (.value (ptr W.heap.size 0)) (W.alloc (.cells v.cells T (0,0))):=by
 simp[execOp,hx,Instr.box,newVar,newRow]
variable {z:Value}
theorem nYr{P:Program}(hz:zc P T z):(execOp a.eval ⟨some d,.alloc T,ty,pos,aD,g⟩).run P W= .ok (.value (ptr W.heap.size 0)) (W.alloc (.cells z.cells T (0,0))):=by
 simp[execOp,Instr.alloc,hz W,newVar,newRow]
section
variable {v:Value}(hw:nr ops E g=some true)(hN:Nat.blt d C.N=true)(hx:ev E x=some v)
include v hw hN hx
theorem T3(k:∀(b:Nat) (w1:World),w1.heap[b]? =some (.cells v.cells T (0,0))->ah L b->cu H b->¬G.X b->w1.heap.size=b+1->OJ C ops Q l ((d,ptr b 0)::E) D G (w1::L) H):OJ C ops Q (⟨some d,.box T x,ty,pos,aD,g⟩::l) E D G L H:=
 rF zP hw hN λ_ W hF hS=>⟨_,_,_,_,nEl (hF.ev hx),(hS.step (nrd W _)).snap,
  k W.heap.size _ (heap_alloc_new W _) hS.sizes hS.offNew hS.mNew zP⟩
theorem P4(k:∀(b:Nat),ah L b->cu H b->OJ C ops Q l ((d,ptr b 0)::E) D G L ((b,.cells v.cells T (0,0))::H)):OJ C ops Q (⟨some d,.box T x,ty,pos,aD,g⟩::l) E D G L H:=
 rF zP hw hN λ_ W hF hS=>⟨_,_,_,_,nEl (hF.ev hx),hS.alloc _,k W.heap.size hS.sizes hS.offNew⟩
end
theorem Bv(hz:zc C.P T z)(hw:nr ops E g=some true)(hN:Nat.blt d C.N=true)(k:∀(b:Nat),ah L b->cu H b->OJ C ops Q l ((d,ptr b 0)::E) D G L ((b,.cells z.cells T (0,0))::H)):OJ C ops Q (⟨some d,.alloc T,ty,pos,aD,g⟩::l) E D G L H:=
 rF zP hw hN λ_ W _ hS=>⟨_,_,_,_,nYr hz,hS.alloc _,k W.heap.size hS.sizes hS.offNew⟩
variable {f:Nat}
theorem du{off n:Nat}{fs:Array Field}{J:Field}(hU:C.P.underlying T=some (.struct fs))(hf:fs[f]? =some J)(hZ:nV C.P J.type (n+1))(hx:ev E x=some (ptr b off)):RV C G L H E (.fieldAddr T x f) (ptr b (off+J.offset)):=λd ty pos aD g a W hF hS=>by
 exact(λa W hF _=>by
  simp[execOp,hF.ev hx,Instr.fieldAt,run_underlying hU,hf,Instr.sureAddr,fieldPlace,hZ W,O5]:∀(a:Act) (W:World),Fits E a->St G L H W->(execOp a.eval ⟨some d,.fieldAddr T x f,ty,pos,aD,g⟩).run C.P W= .ok (.value (ptr b (off+J.offset))) W) a W hF hS
variable {K:IntKind} {e:Nat}
theorem qH{off len n:Nat}{i:Int}(hU:C.P.underlying T=some (.array len e))(hZ:nV C.P e n)(hx:ev E x=some (ptr b off))(hy:ev E y=some (.int K i))(h0:0<=i)(h1:i<len):RV C G L H E (.indexAddr T x y) (ptr b (off+i.toNat*n)):=λd ty pos aD g a W hF hS=>by
 exact(λa W hF _=>by
  simp[execOp,hF.ev hx,hF.ev hy,Instr.indexAt,asIntOf,run_underlying hU,Instr.sureAddr,h0,h1,hZ W,O5]:∀(a:Act) (W:World),Fits E a->St G L H W->(execOp a.eval ⟨some d,.indexAddr T x y,ty,pos,aD,g⟩).run C.P W= .ok (.value (ptr b (off+i.toNat*n))) W) a W hF hS
theorem oE{off len cap n:Nat}{i:Int}(hU:C.P.underlying T=some (.slice e))(hZ:nV C.P e n)(hx:ev E x=some (.slice (some ⟨b,off,none⟩) len cap))(hy:ev E y=some (.int K i))(h0:0<=i)(h1:i<len):RV C G L H E (.indexAddr T x y) (ptr b (off+i.toNat*n)):=λd ty pos aD g a W hF hS=>by
 exact(λa W hF _=>by
  simp[execOp,hF.ev hx,hF.ev hy,Instr.indexAt,asIntOf,run_underlying hU,h0,h1,hZ W,O5]:∀(a:Act) (W:World),Fits E a->St G L H W->(execOp a.eval ⟨some d,.indexAddr T x y,ty,pos,aD,g⟩).run C.P W= .ok (.value (ptr b (off+i.toNat*n))) W) a W hF hS
variable {xs:List Operand} {vs:List Value}
theorem acA{fn:Fn}(ha:jt E xs=some vs):RV C G L H E (.makeFunc fn #[] xs.toArray) (.func fn #[] vs.toArray):=λd ty pos aD g a W hF _=>by
 have h2:(xs.toArray).map a.eval=vs.toArray:=by rw[CS,MQ hF xs vs ha]
 simp[execOp,Instr.makeFunc,h2]
/-! #### loads -/
theorem nhm{P:Program}{t off:Nat}{v:Value}(hA:fp P T false)(hx:a.eval x=ptr b off)(h:W.heap[b]? =some (.cells cs t fr))(hv:cs[off]? =some v):(execOp a.eval ⟨some d,.load T x,ty,pos,aD,g⟩).run P W= .ok (.value v) W:=by
 simp[execOp,hx,Instr.loadAt,Instr.sureAddr,nhi hA h hv]
theorem nlm{P:Program}{t off n:Nat}(hA:fp P T true)(hZ:nV P T n)(hx:a.eval x=ptr b off)(h:W.heap[b]? =some (.cells cs t fr))(hn:off+n<=cs.size):(execOp a.eval ⟨some d,.load T x,ty,pos,aD,g⟩).run P W= .ok (.value (.agg (cut cs off n))) W:=by
 simp[execOp,hx,Instr.loadAt,Instr.sureAddr,nbi hA hZ h hn]
variable {w1:World}
theorem ad{off t:Nat}{v:Value}(hA:fp C.P T false)(hx:ev E x=some (ptr b off))(hm:w1∈L)(hb:w1.heap[b]? =some (.cells cs t fr))(hG:¬G.X b)(hO:cu H b)(hv:cs[off]? =some v):RV C G L H E (.load T x) (v):=λd ty pos aD g a W hF hS=>by
 exact(λ_ _ hF hS=>nhm hA (hF.ev hx) (hS.old hm hb hG hO) hv:∀(a:Act) (W:World),Fits E a->St G L H W->(execOp a.eval ⟨some d,.load T x,ty,pos,aD,g⟩).run C.P W= .ok (.value (v)) W) a W hF hS
theorem eg{off t n:Nat}(hA:fp C.P T true)(hZ:nV C.P T n)(hx:ev E x=some (ptr b off))(hm:w1∈L)(hb:w1.heap[b]? =some (.cells cs t fr))(hG:¬G.X b)(hO:cu H b)(hn:off+n<=cs.size):RV C G L H E (.load T x) (.agg (cut cs off n)):=λd ty pos aD g a W hF hS=>by
 exact(λ_ _ hF hS=>nlm hA hZ (hF.ev hx) (hS.old hm hb hG hO) hn:∀(a:Act) (W:World),Fits E a->St G L H W->(execOp a.eval ⟨some d,.load T x,ty,pos,aD,g⟩).run C.P W= .ok (.value (.agg (cut cs off n))) W) a W hF hS
variable {i:Nat}
theorem aX{off t:Nat}{v:Value}(hi:H[i]? =some (b,.cells cs t fr))(hA:fp C.P T false)(hx:ev E x=some (ptr b off))(hv:cs[off]? =some v):RV C G L H E (.load T x) (v):=λd ty pos aD g a W hF hS=>by
 exact(λ_ _ hF hS=>nhm hA (hF.ev hx) (hS.own _ (cF hi)) hv:∀(a:Act) (W:World),Fits E a->St G L H W->(execOp a.eval ⟨some d,.load T x,ty,pos,aD,g⟩).run C.P W= .ok (.value (v)) W) a W hF hS
theorem eh{off t n:Nat}(hi:H[i]? =some (b,.cells cs t fr))(hA:fp C.P T true)(hZ:nV C.P T n)(hx:ev E x=some (ptr b off))(hn:off+n<=cs.size):RV C G L H E (.load T x) (.agg (cut cs off n)):=λd ty pos aD g a W hF hS=>by
 exact(λ_ _ hF hS=>nlm hA hZ (hF.ev hx) (hS.own _ (cF hi)) hn:∀(a:Act) (W:World),Fits E a->St G L H W->(execOp a.eval ⟨some d,.load T x,ty,pos,aD,g⟩).run C.P W= .ok (.value (.agg (cut cs off n))) W) a W hF hS
theorem bZ{t n:Nat}(hA:fp C.P T true)(hZ:nV C.P T n)(hx:ev E x=some (ptr b 0))(hm:w1∈L)(hb:w1.heap[b]? =some (.cells cs t fr))(hG:¬G.X b)(hO:cu H b)(hn:cs.size=n):RV C G L H E (.load T x) (.agg cs):=by
 have:=eg (E:=E) (C:=C) (H:=H) hA hZ hx hm hb hG hO aa
 grind [nrg]
theorem eZ{t n:Nat}(hi:H[i]? =some (b,.cells cs t fr))(hA:fp C.P T true)(hZ:nV C.P T n)(hx:ev E x=some (ptr b 0))(hn:cs.size=n):RV C G L H E (.load T x) (.agg cs):=by
 have:=eh (E:=E) (C:=C) (H:=H) (L:=L) (G:=G) hi hA hZ hx aa
 grind [nrg]
theorem lG{off t n:Nat}{v:Value}(hi:H[i]? =some (b,.cells cs t (0,0)))(hZ:nV C.P T n)(hw:nr ops E g=some true)(hx:ev E x=some (ptr b off))(hy:ev E y=some v)(hv:v.cells.size=n)(hn:off+n<=cs.size)(h1:rK v.cells.toList=true)(k:OJ C ops Q l E D G L (H.set i (b,.cells (setCells cs off v.cells.toList) t (0,0)))):OJ C ops Q (⟨none,.store T x y,ty,pos,aD,g⟩::l) E D G L H:=
 MO rfl zP hw (λa W hF hS=>by
  have hb:=hS.own _ (cF hi);obtain⟨W',hr,hk,gp⟩:=npo (P:=C.P) (off:=off) hZ hv hb hn h1;refine⟨.skip,W',.inl rfl,?_,hS.put hi hk gp⟩;simp[execOp,hF.ev hx,hF.ev hy,Instr.storeAt,Instr.sureAddr,hr]) k
theorem B7{off t:Nat}{v:Value}(hx:ev E x=some (ptr b off))(hi:H[i]? =some (b,.cells cs t fr))(hA:fp C.P T false)(hv:cs[off]? =some v):RV C G L H E (.load T x) v:=aX hi hA hx hv
theorem o5{t n:Nat}(hx:ev E x=some (ptr b 0))(hi:H[i]? =some (b,.cells cs t fr))(hA:fp C.P T true)(hZ:nV C.P T n)(hn:cs.size=n):RV C G L H E (.load T x) (.agg cs):=eZ hi hA hZ hx hn
theorem tX{off t n:Nat}(hx:ev E x=some (ptr b off))(hi:H[i]? =some (b,.cells cs t fr))(hA:fp C.P T true)(hZ:nV C.P T n)(hn:off+n<=cs.size):RV C G L H E (.load T x) (.agg (cut cs off n)):=eh hi hA hZ hx hn
theorem anK{off t:Nat}{v:Value}(hx:ev E x=some (ptr b off))(hb:w1.heap[b]? =some (.cells cs t fr))(hA:fp C.P T false)(hm:w1∈L)(hG:¬G.X b)(hO:cu H b)(hv:cs[off]? =some v):RV C G L H E (.load T x) v:=ad hA hx hm hb hG hO hv
theorem T6{t n:Nat}(hx:ev E x=some (ptr b 0))(hb:w1.heap[b]? =some (.cells cs t fr))(hA:fp C.P T true)(hZ:nV C.P T n)(hm:w1∈L)(hG:¬G.X b)(hO:cu H b)(hn:cs.size=n):RV C G L H E (.load T x) (.agg cs):=bZ hA hZ hx hm hb hG hO hn
theorem acB{off t n:Nat}(hx:ev E x=some (ptr b off))(hb:w1.heap[b]? =some (.cells cs t fr))(hA:fp C.P T true)(hZ:nV C.P T n)(hm:w1∈L)(hG:¬G.X b)(hO:cu H b)(hn:off+n<=cs.size):RV C G L H E (.load T x) (.agg (cut cs off n)):=eg hA hZ hx hm hb hG hO hn
end
variable {aD:Array Edge} {ops:Array Oper} {C:Cx} {E:Env} {G:Gh} {H:ae} {D:List Deferred} {L:List World} {d:Nat} {op:Op} {g:Option (Nat×Bool)} {pos:String}
section
variable {Q:bA}{l:List Oper}{ty:Nat}
theorem rvA{v:Value}(hnd:CR op=true)(hw:nr ops E g=some true)(hN:Nat.blt d C.N=true)(k:OJ C ops Q l ((d,v)::E) D G L H)(h:RV C G L H E op v:=by exact MR):OJ C ops Q (⟨some d,op,ty,pos,aD,g⟩::l) E D G L H:=rv hnd hw hN h k
theorem bX(v':Value)(k:OJ C ops Q l ((d,v')::E) D G L H)(h:RV C G L H E op v':=by exact RV.re MR Po)(hnd:CR op=true:=by exact rfl)(hw:nr ops E g=some true:=by exact rfl)(hN:Nat.blt d C.N=true:=by exact rfl):OJ C ops Q (⟨some d,op,ty,pos,aD,g⟩::l) E D G L H:=rv hnd hw hN h k
theorem zrC{v:Value}(_:Vt v)(k:OJ C ops Q l ((d,v)::E) D G L H)(h:RV C G L H E op v:=by exact RV.re MR Po)(hnd:CR op=true:=by exact rfl)(hw:nr ops E g=some true:=by exact rfl)(hN:Nat.blt d C.N=true:=by exact rfl):OJ C ops Q (⟨some d,op,ty,pos,aD,g⟩::l) E D G L H:=rv hnd hw hN h k
theorem rq{v:Value}(v':Value)(h:RV C G L H E op v)(e:v=v')(k:OJ C ops Q l ((d,v')::E) D G L H)(hnd:CR op=true:=by exact rfl)(hw:nr ops E g=some true:=by exact rfl)(hN:Nat.blt d C.N=true:=by exact rfl):OJ C ops Q (⟨some d,op,ty,pos,aD,g⟩::l) E D G L H:=rv hnd hw hN (RV.re h e) k
theorem rr{v:Value}(v':Value)(h:RV C G L H E op v)(k:OJ C ops Q l ((d,v')::E) D G L H)(e:v=v':=by exact rfl)(hnd:CR op=true:=by exact rfl)(hw:nr ops E g=some true:=by exact rfl)(hN:Nat.blt d C.N=true:=by exact rfl):OJ C ops Q (⟨some d,op,ty,pos,aD,g⟩::l) E D G L H:=rv hnd hw hN (RV.re h e) k
end
abbrev yv (l:Nat):Value:=.func (.yield l) #[] #[]
def Pp (P:Program) (l:Nat) (vs:Array Value) (W:World) (Φ:Bool->World->Prop):Prop:=
 ∃fn tmps assign body,(Instr.yield l vs).run P W= .ok (.round l fn tmps assign body) W/\
  RoundIn (FW none) 0 P l fn tmps assign body W (λe W'=>∃b,e= .returned (.bool b)/\Φ b W')
variable {assign body:Code} {R:Ending->World->Prop}
theorem nbk{r:Option Nat}{n:Nat}{P:Program}{l:Nat}{f:FuncId}{tmps:Array Value}{w:World}:RoundIn (FW none) 0 P l f tmps assign body w R->RoundIn (FW r) n P l f tmps assign body w R:=by
 simp_all[RoundIn,nXr,MN]
theorem St.yield{J:Gh}{W':World}(h:St G L H W)(hk:aQ G.M W W')(hX:J.X=G.X)(hV:J.V=G.V)(hR:J.R W'):St J L H W' where
 ghost:=hR
 vlt:=λk hv=>oh (h.vlt k (hV▸hv)) hk.size
 xlt:=λk hv=>oh (h.xlt k (hX▸hv)) hk.size
 links:=λw hw=>by rw[hX];exact(h.links w hw).trans (hk.mono λk _ hm=>.inl (G.subX k hm))
 own:=λp hp=>by rw[hk.block p.1 (h.lt p hp) (λhm=>h.apart p hp (G.sub _ hm))];exact h.own p hp
 nodup:=h.nodup
 apart:=λp hp=>by rw[hV];exact h.apart p hp
section
variable {C:Cx} {Q:bA} {E:Env} {D:List Deferred} {G:Gh} {L:List World} {H:ae} {ops:Array Oper} {l:List Oper}
variable {d ty:Nat} {pos:String} {aD:Array Edge} {g:Option (Nat×Bool)} {x:Operand} {xs:List Operand} {vs:List Value} {eY:Array Nat}
theorem yld{y:Nat}(J G2:Gh)(hw:nr ops E g=some true)(hN:Nat.blt d C.N=true)(hx:ev E x=some (yv y))(ha:jt E xs=some vs)(hy:∀W,St G L H W->Pp C.P y vs.toArray W (λb W'=>aQ G.M W W'/\(if b then J.R W' else G2.R W')))(m1:J.X=G.X)(v1:J.V=G.V)(m2:G2.X=G.X)(v2:G2.V=G.V)(k1:OJ C ops Q l ((d,.bool true)::E) D J L H)(k2:OJ C ops Q l ((d,.bool false)::E) D G2 L H):OJ C ops Q (⟨some d,.call ⟨.value x,xs.toArray,eY⟩,ty,pos,aD,g⟩::l) E D G L H:=by
 intro a W jY hD hF hS;obtain⟨fn,tmps,assign,body,iJ,iZ⟩:=hy W hS;unfold wpListIn;rw[if_pos (zb hF hw)];refine⟨λ_ _=>trivial,?_⟩;have hr:(execOp a.eval ⟨some d,.call ⟨.value x,xs.toArray,eY⟩,ty,pos,aD,g⟩).run C.P W= .ok (.round y fn tmps assign body) W:=by
  exact z7j
 rw[Oper.semAt_eq _ _ _ zP,hr];refine⟨by simp,(nbk iZ).mono ?_⟩;rintro e W' ⟨b,rfl,hk,hb⟩;have cQ:=λv=>hF.put (d:=d) v z2;cases b with
 |true=>exact k1 (a.put (some d) (.bool true)) W' mV lz (cQ _) (hS.yield hk m1 v1 hb)
 |false=>exact k2 (a.put (some d) (.bool false)) W' mV lz (cQ _) (hS.yield hk m2 v2 hb)
end
def fG (V:Nat->Prop) (R:World->Prop):Prop:=
 ∀W W':World,R W->W'.os=W.os->W'.tape=W.tape->W'.output=W.output->W.drawn<=W'.drawn->W.heap.size<=W'.heap.size->(∀k,V k->W'.heap[k]? =W.heap[k]?)->R W'
def Xl (P:Program) (f:Nat) (cap:List Value) {α:Type} (enc:α->List Value) (xs:List α) (MI RO:Nat->Prop) (W:World):Prop:=
 ∀(l:Nat) (M:Nat->Prop) (I:List α->World->Prop) (X:World->Prop),
  (∀k,M k->k<W.heap.size/\¬MI k/\¬RO k)->
  (∀pre,fG (λk=>k<W.heap.size/\¬MI k) (I pre))->fG (λk=>k<W.heap.size/\¬MI k) X->
  (∀pre x W1,(pre++[x]) <+:xs->I pre W1->Pp P l (enc x).toArray W1 (λb W2=>aQ M W1 W2/\(if b then I (pre++[x]) W2 else X W2)))->
  I [] W->
  Calls P f (yv l::cap).toArray W (λe W'=>(∃v,e= .returned v)/\aQ (λk=>M k\/MI k) W W'/\(I xs W'\/X W'))
/-! #### the consumer -/
/-- the memory of a loop over an iterator: own blocks, the loop's record, and what else was laid -/
abbrev book (Hc:ae) (l:Nat) (rec:Loop) (bx:ae):ae:=Hc++(l,.loop rec)::bx
def rI {α:Type} (G:Gh) (L:List World) (Inv:List α->ae->Prop) (l:Nat) (rec:Loop) (bx:ae) (pre:List α) (W:World):Prop:=
 ∃Hc,Inv pre Hc/\St G L (book Hc l rec bx) W
def rX (G:Gh) (L:List World) (cO:Code->ae->Prop) (l:Nat) (rec:Loop) (bx:ae) (W:World):Prop:=
 ∃c Hc,cO c Hc/\St G L (book Hc l {rec with state:=.done,pending:=some c} bx) W
def nsk {α:Type} (P:Program) (G:Gh) (L:List World) (W1:World) (M:Nat->Prop) (Inv:List α->ae->Prop) (cO:Code->ae->Prop) (l:Nat) (rec:Loop) (bx:ae) (pre:List α):bA:=
 roundPost P l (λe W'=>∃b,e= .returned (.bool b)/\aQ M W1 W'/\(if b then rI G L Inv l rec bx pre W' else rX G L cO l rec bx W'))
theorem MS(W:World)(b:Nat)(o:Obj):aQ (· =b) W (W.putObj b o):=
 ⟨rfl,rfl,rfl,aC _,by simp,λ_ _ hk=>World.putObj_heap_other hk⟩
theorem MT(Hc:ae)(l:Nat)(rec:Loop)(bx:ae):(book Hc l rec bx)[Hc.length]? =some (l,.loop rec):=by simp
theorem St.loop{Hc bx:ae}{l:Nat}{rec:Loop}(h:St G L (book Hc l rec bx) W)(lq:Loop):St G L (book Hc l lq bx) (W.putObj l (.loop lq)):=by
 have hl:l<W.heap.size:=h.lt (l,.loop rec) zP;have:=h.put (MT Hc l rec bx) (MS W l (.loop lq)) (World.putObj_heap_same hl)
 grind
theorem St.loopAt{Hc bx:ae}{l:Nat}{rec:Loop}(h:St G L (book Hc l rec bx) W):W.heap[l]? =some (.loop rec):=h.own (l,.loop rec) zP
section
variable {C:Cx} {α:Type} {E:Env} {D:List Deferred} {G:Gh} {L:List World} {Hc bx:ae} {W1:World} {Inv:List α->ae->Prop} {cO:Code->ae->Prop} {l:Nat} {rec lq:Loop} {pre:List α} {M:Nat->Prop}
theorem nHc{J:bA}{K:bA}(hs:rec.state= .ready)(h:CJ C body J E D G L (book Hc l {rec with state:=.busy} bx)):PJ C (Exit.then (λa W=>∃W2,(Instr.beginRound l).run C.P W= .ok () W2/\body.wpIn (FW C.r) 0 C.P J a W2) K) .normal E D G L (book Hc l rec bx):=by
 intro a W hN hD hF hS;exact⟨_,run_beginRound hS.loopAt hs,h a _ hN hD hF (hS.loop _)⟩
theorem nSl(hM:∀k,(G.X k\/k∈(book Hc l rec bx).map (·.1))->M k)(hr:{lq with state:=.ready,pending:=none}=rec)(hI:Inv pre Hc):PJ C (nsk C.P G L W1 M Inv cO l rec bx pre) .normal E D G (W1::L) (book Hc l lq bx):=by
 intro a W hN hD hF hS;refine⟨_,_,run_endRound none hS.loopAt,true,rfl,?_,?_⟩
 ·refine((hS.loop _).links W1 A0).mono λk _ hk=>hM k ?_
  grind
 refine⟨Hc,hI,?_⟩;have:=(hS.loop {lq with state:=.ready,pending:=none}).lessL (L':=L) (λw hw=>.tail _ hw)
 grind
end
theorem nei{zs:List (Nat×Value)}:∀{E:Env} {a:Act},Fits E a->(∀p∈zs,p.1<a.tmps.size)->(zs.foldl (λt (p:Nat×Value)=>t.setIfInBounds p.1 p.2) a.tmps).size=a.tmps.size/\Fits (zs.reverse++E) ⟨zs.foldl (λt (p:Nat×Value)=>t.setIfInBounds p.1 p.2) a.tmps,[]⟩:=by
 induction zs with
 |nil=>intro E a h _;exact⟨rfl,λt v hv=>h t v hv⟩
 |cons p zs ih=>
  intro E a h hp;have h1:=h.put p.2 (hp p zP)
  (intros;grind [Act.put])
variable {cap:List Value} {f:Nat} {MI RO:Nat->Prop}
theorem njr{B:World->Prop}{Q:bA}{g:Operand}{ps:Array Tmp}{α:Type}{enc:α->List Value}{xs:List α}(hg:ev E g=some (.func (.func f) #[] cap.toArray))(aF:fh C.P f)(sA:∀W W2,St G L H W->B W->Below W.heap.size W W2->Xl C.P f cap enc xs MI RO W2)(MU:∀W,St G L H W->(∀k,MI k->k<W.heap.size/\ah L k/\k∉H.map (·.1)/\¬G.V k/\¬G.X k))(rP:∀W,St G L H W->(∀k,RO k->k<W.heap.size/\k∉H.map (·.1)/\¬G.X k))(uT:∀x,(enc x).length=ps.size)(Inv:List α->ae->Prop)(cO:Code->ae->Prop)(h0:Inv [] H)(tY:∀pre Hc,Inv pre Hc->Hc.map (·.1)=H.map (·.1))(rJ:∀c Hc,cO c Hc->Hc.map (·.1)=H.map (·.1))(xv:∀p∈ps.toList,p<C.N)(T7:∀(a:Act) W fn,St G L H W->∃l mark bx W1 rec,(Instr.enterLoop fn a.tmps ps assign body C.r).run C.P W= .ok (l,mark) W1/\rec.state= .ready/\rec.pending=none/\rec.fn=fn/\rec.tmps=a.tmps/\rec.params=ps/\rec.assign=assign/\rec.body=body/\St G L (book H l rec bx) W1/\Below W.heap.size W W1/\(∀p∈(l,.loop rec)::bx,W.heap.size<=p.1)/\(∀(pre:List α) (x:α) (Hc:ae) (Wy:World),(pre++[x]) <+:xs->Inv pre Hc->(∀a1,a1.tmps.size=C.N->a1.defers=[]->Fits ((ps.toList.zip (enc x)).reverse++E) a1->St G (Wy::L) (book Hc l rec bx) Wy->assign.wpIn (FW (some l)) 0 C.P (Exit.then (λa₁ w₁=>∃w₂,(Instr.beginRound l).run C.P w₁= .ok () w₂/\body.wpIn (FW (some l)) 0 C.P (nsk C.P G L Wy (λk=>G.X k\/k∈(book H l rec bx).map (·.1)) Inv cO l rec bx (pre++[x])) a₁ w₂) (λ_ _ _=>False)) a1 Wy))/\(∀zd Hc,Inv xs Hc->PJ C Q .normal E (mark++D) G L (book Hc l zd bx))/\(∀zd c Hc,cO c Hc->CJ C c Q E (mark++D) G L (book Hc l zd bx))):∀a W,a.tmps.size=C.N->a.defers=D->Fits E a->St G L H W->B W->(Code.rangeFunc g ps assign body).wpIn (FW C.r) 0 C.P Q a W:=by
 intro a W hN hD hF hS cQ;refine wpIn_rangeFunc ?_;intro fn _;obtain⟨l,mark,bx,W1,rec,he,pJ,ui,aB,c0,bz,b0,cx,sX,bI,ea,iZ,bw,cq⟩:=T7 a W fn hS;refine⟨l,mark,W1,{target:=.fn (.func f) cap.toArray,args:=#[yv l]},W1,f,(yv l::cap).toArray,W1,he,?_,λ_ _=>trivial,?_,by simp,?_⟩
 ·simp[resolve,hF.ev hg];rfl
 ·simp[invoke,aF _ W1]
 refine I6.2 ?_;have wO:∀k,MI k->k<W.heap.size/\ah L k/\k∉H.map (·.1)/\¬G.V k/\¬G.X k:=MU W hS;have bg:∀k,k∈(book H l rec bx).map (·.1)->k<W1.heap.size:=λk hk=>by
  obtain⟨p,hp,rfl⟩:=dO.1 hk;exact sX.lt p hp
 have jQ:∀k,k∈(book H l rec bx).map (·.1)->¬MI k:=λk hk hm=>by
  grind
 have cz:∀k,k∈(book H l rec bx).map (·.1)->¬RO k:=λk hk hm=>by
  grind
 have di:∀{Hc:ae} {r2:Loop},Hc.map (·.1)=H.map (·.1)->(book Hc l r2 bx).map (·.1)=(book H l rec bx).map (·.1):=by
  intro Hc r2 h;simp[book,h]
 have stab:∀{Hb:ae},Hb.map (·.1)=(book H l rec bx).map (·.1)->fG (λk=>k<W1.heap.size/\¬MI k) (St G L Hb):=by
  intro Hb hk A B hA ho ht xb y4 hs J;have T8:∀w∈L,∀k,k<w.heap.size->k<W1.heap.size/\¬MI k:=λw hw k hk=>by
   refine⟨oh hk (sX.links w hw).size,λhm=>?_⟩;have:=(wO k hm).2.1.mem w hw;omega
  refine⟨G.stab A B hA.ghost ho ht xb y4 hs (λk hv=>J k ⟨sX.vlt k hv,λhm=>(wO k hm).2.2.2.1 hv⟩),λk hv=>oh (hA.vlt k hv) hs,λk hv=>oh (hA.xlt k hv) hs,λw hw=>?_,λp hp=>?_,hA.nodup,hA.apart⟩
  ·have h1:=hA.links w hw;exact⟨ho.trans h1.os,ht.trans h1.tape,xb.trans h1.output,dS h1.drawn y4,dS h1.size hs,λk hk hx=>(J k (T8 w hw k hk)).trans (h1.block k hk hx)⟩
  have hm:p.1∈(book H l rec bx).map (·.1):=by rw[<-hk];exact dO.2 ⟨p,hp,rfl⟩
  rw[J p.1 ⟨bg _ hm,jQ _ hm⟩];exact hA.own p hp
 have H6:∀x,(ps.zip (enc x).toArray).foldl (λtmps (p:Tmp×Value)=>match p with|(t,a)=>tmps.setIfInBounds t a) a.tmps=(ps.toList.zip (enc x)).foldl (λt (p:Nat×Value)=>t.setIfInBounds p.1 p.2) a.tmps:=by
  intro x;rw[<-Array.foldl_toList,Array.toList_zip]
 have H7:=sA W W1 hS cQ bI l (λk=>G.X k\/k∈(book H l rec bx).map (·.1)) (rI G L Inv l rec bx) (rX G L cO l rec bx)
  (λk hk=>hk.elim (λhm=>⟨sX.xlt k hm,λh=>(wO k h).2.2.2.2 hm,λh=>(rP W hS k h).2.2 hm⟩) (λhk=>⟨bg k hk,jQ k hk,λh=>cz k hk h⟩))
  (λpre A B hA ho ht xb y4 hs J=>by
   obtain⟨Hc,hi,cB⟩:=hA;exact⟨Hc,hi,stab (di (tY pre Hc hi)) A B cB ho ht xb y4 hs J⟩)
  (λA B hA ho ht xb y4 hs J=>by
   obtain⟨c,Hc,hi,cB⟩:=hA;exact⟨c,Hc,hi,stab (di (rJ c Hc hi)) A B cB ho ht xb y4 hs J⟩)
  (λpre x Wy gX hI=>by
   obtain⟨Hc,hi,cB⟩:=hI;have hy:=run_yield (P:=C.P) (args:=(enc x).toArray) cB.loopAt cM;refine⟨_,_,_,_,hy,roundIn_of_wpIn (F:=FW none) trivial ?_⟩;rw[b0,cx];refine iZ pre x Hc Wy gX hi ⟨_,[]⟩ ?_ rfl ?_ cB.snap
   ·have:=(nei (zs:=ps.toList.zip (enc x)) hF (λp hp=>zYx)).1
    grind
   rw[c0,bz,H6 x];exact(nei (zs:=ps.toList.zip (enc x)) hF (λp hp=>zYx)).2)
  ⟨H,h0,sX⟩
 refine H7.mono ?_;rintro e W2 ⟨⟨v,rfl⟩,ed,hI|hX⟩
 ·obtain⟨Hc,hi,cB⟩:=hI;refine⟨rec.pending,_,run_endLoop cB.loopAt (by rw[pJ];simp),?_⟩;rw[ui];exact bw _ Hc hi _ _ (by simpa using hN) (by simp[hD]) (λt v hv=>hF t v hv) (cB.loop _)
 obtain⟨c,Hc,hi,cB⟩:=hX;refine⟨some c,_,run_endLoop cB.loopAt zP,?_⟩;exact cq _ c Hc hi _ _ (by simpa using hN) (by simp[hD]) (λt v hv=>hF t v hv) (cB.loop _)
theorem AO(H:ae):ky H↔(H.map (·.1)).Nodup:=by
 rw[List.Nodup,List.pairwise_iff_getElem];constructor
 ·intro h i j hi hj hlt e;simp at hi hj;have:=h i j H[i] H[j] zP zP cM;omega
 grind [ky]
variable {H':ae}
theorem St.perm(h:St G L H W)(hp:H.Perm H'):St G L H' W where
 ghost:=h.ghost
 vlt:=h.vlt
 xlt:=h.xlt
 links:=λw hw=>(h.links w hw).mono λk _ hk=>hk.imp id (λhk=>(hp.map (·.1)).mem_iff.1 hk)
 own:=λp hm=>h.own p (hp.mem_iff.2 hm)
 nodup:=by rw[AO];exact(hp.map (·.1)).nodup_iff.1 ((AO H).1 h.nodup)
 apart:=λp hm=>h.apart p (hp.mem_iff.2 hm)
abbrev jo (Dk:Nat):Deferred:={target:=.collected Dk,args:=#[]}
abbrev eV (Dk:Nat):ae:=[(Dk,.deferred (some []))]
abbrev n7m (C:Cx) (l:Nat) (body:Code) (Qb:bA):bA:=
 Exit.then (λa W=>∃W2,(Instr.beginRound l).run C.P W= .ok () W2/\body.wpIn (FW C.r) 0 C.P Qb a W2) (λ_ _ _=>False)
variable {N:Nat}
theorem T9{B:World->Prop}{P:Program}{Q:bA}{g:Operand}{ps:Array Tmp}{α:Type}{enc:α->List Value}{xs:List α}(hg:ev E g=some (.func (.func f) #[] cap.toArray))(aF:fh P f)(sA:∀W W2,St G L H W->B W->Below W.heap.size W W2->Xl P f cap enc xs MI RO W2)(MU:∀W,St G L H W->(∀k,MI k->k<W.heap.size/\ah L k/\k∉H.map (·.1)/\¬G.V k/\¬G.X k))(rP:∀W,St G L H W->(∀k,RO k->k<W.heap.size/\k∉H.map (·.1)/\¬G.X k))(uT:∀x,(enc x).length=ps.size)(Inv:List α->ae->Prop)(cO:Code->ae->Prop)(h0:Inv [] H)(tY:∀pre Hc,Inv pre Hc->Hc.map (·.1)=H.map (·.1))(rJ:∀c Hc,cO c Hc->Hc.map (·.1)=H.map (·.1))(xv:∀p∈ps.toList,p<N)(round:∀(pre:List α) (x:α) (Hc:ae) (l Dk:Nat) (rec:Loop) (J:World),rec.state= .ready->rec.pending=none->(pre++[x]) <+:xs->Inv pre Hc->ah L Dk->l=Dk+1->l<J.heap.size->ah L J.heap.size->CJ ⟨P,some l,N⟩ assign (n7m ⟨P,some l,N⟩ l body (nsk P G L J (λk=>G.X k\/k∈(book Hc l rec (eV Dk)).map (·.1)) Inv cO l rec (eV Dk) (pre++[x]))) ((ps.toList.zip (enc x)).reverse++E) [] G (J::L) (book Hc l rec (eV Dk)))(done:∀l Dk rec Hc,ah L Dk->l=Dk+1->Inv xs Hc->PJ ⟨P,none,N⟩ Q .normal E (jo Dk::D) G L (book Hc l rec (eV Dk)))(stop:∀l Dk rec c Hc,ah L Dk->l=Dk+1->cO c Hc->CJ ⟨P,none,N⟩ c Q E (jo Dk::D) G L (book Hc l rec (eV Dk))):∀a W,a.tmps.size=N->a.defers=D->Fits E a->St G L H W->B W->(Code.rangeFunc g ps assign body).wpIn (FW none) 0 P Q a W:=by
 refine njr (C:=⟨P,none,N⟩) hg aF sA MU rP uT Inv cO h0 tY rJ xv ?_;intro a W fn hS;have sX:=((hS.alloc (.deferred (some []))).alloc (.loop {state:=.ready,pending:=none,fn,tmps:=a.tmps,params:=ps,assign,body,defers:=W.heap.size}));have kr:(W.alloc (.deferred (some []))).heap.size=W.heap.size+1:=by simp
 have a6:Below W.heap.size W ((W.alloc (.deferred (some []))).alloc (.loop {state:=.ready,pending:=none,fn,tmps:=a.tmps,params:=ps,assign,body,defers:=W.heap.size})):=
  ((Below.refl _ _).alloc (aC _) _).alloc zP _
 refine⟨W.heap.size+1,[jo W.heap.size],eV W.heap.size,_,{state:=.ready,pending:=none,fn,tmps:=a.tmps,params:=ps,assign,body,defers:=W.heap.size},run_enterLoop_outer _ _ _ _ _,rfl,rfl,rfl,rfl,rfl,rfl,rfl,sX.perm ?_,a6,?_,?_,λzd Hc hi=>done _ _ zd Hc hS.sizes rfl hi,λzd c Hc hi=>stop _ _ zd c Hc hS.sizes rfl hi⟩
 ·grind [List.perm_append_comm]
 ·simp
 intro pre x Hc J gX hi a1 aR xy bg aq;have hm:∀k,k∈(book Hc (W.heap.size+1) {state:=.ready,pending:=none,fn,tmps:=a.tmps,params:=ps,assign,body,defers:=W.heap.size} (eV W.heap.size)).map (·.1)↔k∈(book H (W.heap.size+1) {state:=.ready,pending:=none,fn,tmps:=a.tmps,params:=ps,assign,body,defers:=W.heap.size} (eV W.heap.size)).map (·.1):=by
  intro k;simp only[book,iM,jv,tY pre Hc hi]
 have hr:=round pre x Hc (W.heap.size+1) W.heap.size {state:=.ready,pending:=none,fn,tmps:=a.tmps,params:=ps,assign,body,defers:=W.heap.size} J rfl rfl gX hi hS.sizes rfl (bO.1 aq.loopAt).1 (aq.lessL (L':=L) λw hw=>.tail _ hw).sizes;rw[show(λk=>G.X k\/k∈(book Hc (W.heap.size+1) {state:=.ready,pending:=none,fn,tmps:=a.tmps,params:=ps,assign,body,defers:=W.heap.size} (eV W.heap.size)).map (·.1))=
  (λk=>G.X k\/k∈(book H (W.heap.size+1) {state:=.ready,pending:=none,fn,tmps:=a.tmps,params:=ps,assign,body,defers:=W.heap.size} (eV W.heap.size)).map (·.1))from funext λk=>propext (or_congr Iff.rfl (hm k))]at hr
 exact hr a1 J aR xy bg aq
theorem CJ.range{P:Program}{Q:bA}{g:Operand}{ps:Array Tmp}{α:Type}{enc:α->List Value}{xs:List α}(hg:ev E g=some (.func (.func f) #[] cap.toArray))(aF:fh P f)(sA:∀W W2,St G L H W->Below W.heap.size W W2->Xl P f cap enc xs MI RO W2)(MU:∀W,St G L H W->(∀k,MI k->k<W.heap.size/\ah L k/\k∉H.map (·.1)/\¬G.V k/\¬G.X k))(rP:∀W,St G L H W->(∀k,RO k->k<W.heap.size/\k∉H.map (·.1)/\¬G.X k))(uT:∀x,(enc x).length=ps.size)(Inv:List α->ae->Prop)(cO:Code->ae->Prop)(h0:Inv [] H)(tY:∀pre Hc,Inv pre Hc->Hc.map (·.1)=H.map (·.1))(rJ:∀c Hc,cO c Hc->Hc.map (·.1)=H.map (·.1))(xv:∀p∈ps.toList,p<N)(round:∀(pre:List α) (x:α) (Hc:ae) (l Dk:Nat) (rec:Loop) (J:World),rec.state= .ready->rec.pending=none->(pre++[x]) <+:xs->Inv pre Hc->ah L Dk->l=Dk+1->l<J.heap.size->ah L J.heap.size->CJ ⟨P,some l,N⟩ assign (n7m ⟨P,some l,N⟩ l body (nsk P G L J (λk=>G.X k\/k∈(book Hc l rec (eV Dk)).map (·.1)) Inv cO l rec (eV Dk) (pre++[x]))) ((ps.toList.zip (enc x)).reverse++E) [] G (J::L) (book Hc l rec (eV Dk)))(done:∀l Dk rec Hc,ah L Dk->l=Dk+1->Inv xs Hc->PJ ⟨P,none,N⟩ Q .normal E (jo Dk::D) G L (book Hc l rec (eV Dk)))(stop:∀l Dk rec c Hc,ah L Dk->l=Dk+1->cO c Hc->CJ ⟨P,none,N⟩ c Q E (jo Dk::D) G L (book Hc l rec (eV Dk))):CJ ⟨P,none,N⟩ (.rangeFunc g ps assign body) Q E D G L H:=by
 exact λa W hN hD hF hS=>T9 (B:=λ_=>True) hg aF (λW W2 h _ hb=>sA W W2 h hb) MU rP uT Inv cO h0 tY rJ xv round done stop a W hN hD hF hS True.intro
variable {fn:Func} {vs:List Value}
/-! #### functions that leave with marks -/
theorem Im{P:Program}{c:Code}{w:World}(G:Gh)(H:ae)(hf:P.funcs[f]? =some fn)(hb:fn.body=some c)(hN:fn.ntmps=N)(hl:Nat.ble vs.length N=true)(hS:St G [w] H w)(h:CJ ⟨P,none,N⟩ c (bodyPostM (FW none) 0 P fn R) (AN 0 vs) [] G [w] H):Calls P f vs.toArray w R:=by
 rw[<-I6 (r:=none) (n:=0)];refine callsIn_of_wp_marks hf hb trivial (h _ w ?_ rfl ?_ hS);all_goals simp_all[n6d]
section
variable {C:Cx} {fn:Func} {R:Ending->World->Prop} {E:Env} {G:Gh} {L:List World} {H:ae}
theorem nFh{P:Program}{tmps:Array Value}{Ds:List Nat}(hD:D=Ds.map jo):∀{H:ae} {W:World},St G L H W->(∀k∈Ds,(k,.deferred (some []))∈H)->Ds.Nodup->(∀W' H',St G L H' W'->(∀p∈H,(∀k∈Ds,p.1≠k)->p∈H')->H'.map (·.1)=H.map (·.1)->∃v,(results fn tmps).run P W'= .ok v W'/\R (.returned v) W')->LeavesInM (FW none) 0 P fn tmps R D .returning W:=by
 subst hD;induction Ds with
 |nil=>
  intro H W hS _ _ h;exact h W H hS (λp hp _=>hp) rfl
 |cons k Ds ih=>
  intro H W hS mG hnd h;have J:=mG k zP;obtain⟨i,hi⟩:=iB.1 J;have gi:W.heap[k]? =some (.deferred (some [])):=hS.own _ J;have hlt:k<W.heap.size:=(bO.1 gi).1;have gW:=hS.put hi (MS W k (.deferred none)) (World.putObj_heap_same hlt);have aR:∀p∈H,p.1≠k->p∈H.set i (k,.deferred none):=by
   intro p hp kq;obtain⟨j,hj⟩:=iB.1 hp;refine iB.2 ⟨j,?_⟩;rw[WQ]
   ·exact hj
   grind
  have di:(H.set i (k,.deferred none)).map (·.1)=H.map (·.1):=by
   rw[List.map_set];apply xL;intro j;by_cases e:i=j
   ·grind
   rw[WQ e]
  refine⟨by simp,.inl ⟨k,_,rfl,run_takeDeferred gi,?_⟩⟩
  grind
theorem Bu{Dk:Nat}{e:Exit}(he:e= .ret\/e= .normal)(hm:(Dk,.deferred (some []))∈H)(h:∀a W H',Fits E a->St G L H' W->(∀p∈H,p.1≠Dk->p∈H')->H'.map (·.1)=H.map (·.1)->∃v,(results fn a.tmps).run C.P W= .ok v W/\R (.returned v) W):PJ C (bodyPostM (FW none) 0 C.P fn R) e E [jo Dk] G L H:=by
 intro a W hN hD hF hS;have key:LeavesInM (FW none) 0 C.P fn a.tmps R a.defers .returning W:=
  nFh (Ds:=[Dk]) (by rw[hD];rfl) hS (λk hk=>by grind) zP (λW' H' J hH di=>
   h a W' H' hF J (λp hp kq=>hH p hp (λk hk=>by grind)) di)
 exact WR
theorem Nq{Dk t:Nat}{v:Value}{e:Exit}(he:e= .ret\/e= .normal)(hr:fn.results=#[.tmp t])(hv:look E t=some v)(hm:(Dk,.deferred (some []))∈H)(h:∀W H',St G L H' W->H'.map (·.1)=H.map (·.1)->R (.returned v) W):PJ C (bodyPostM (FW none) 0 C.P fn R) e E [jo Dk] G L H:=
 Bu he hm λa W H' hF hS _ di=>⟨v,zYk,h W H' hS di⟩
end
/-! #### inside of an iterator -/
/-- the consumer, as_ the iterator sees it -/
def PM {W:World} {MI RO M:Nat->Prop} (hM:∀k,M k->k<W.heap.size/\¬MI k/\¬RO k) {I:World->Prop} (hI:fG (λk=>k<W.heap.size/\¬MI k) I):Gh where
 M:=M
 V:=λk=>k<W.heap.size/\¬MI k
 R:=I
 X:=M
 sub:=λk hk=>⟨(hM k hk).1,(hM k hk).2.1⟩
 subX:=λ_ hk=>hk
 stab:=hI
theorem Nv{M:Nat->Prop}(hM:∀k,M k->k<W.heap.size/\¬MI k/\¬RO k){I:World->Prop}(hI:fG (λk=>k<W.heap.size/\¬MI k) I)(h0:I W):St (PM hM hI) [W] [] W where
 ghost:=h0
 vlt:=λ_ hk=>hk.1
 xlt:=λk hk=>(hM k hk).1
 links:=λw hw=>by grind [aQ.refl]
 own:=λ_ h=>by simp at h
 nodup:=λ_ _ _ _ h=>by simp at h
 apart:=λ_ h=>by simp at h
theorem St.keepM{w:World}(h:St G L [] W)(hw:w∈L):aQ G.X w W:=(h.links w hw).mono λk _ hk=>by grind
theorem C4{M:Nat->Prop}{hM:∀k,M k->k<W.heap.size/\¬MI k/\¬RO k}{I J X:World->Prop}{hI:fG (λk=>k<W.heap.size/\¬MI k) I}{e:Exit}(he:e= .ret\/e= .normal)(hr:fn.results=#[])(hw:W∈L)(h:∀A,I A->J A\/X A):PJ C (bodyPost C.P fn (λe W'=>(∃v,e= .returned v)/\aQ (λk=>M k\/MI k) W W'/\(J W'\/X W'))) e E [] (PM hM hI) L []:=by
 intro a W' _ hD _ hS;have key:bodyPost C.P fn (λe W'=>(∃v,e= .returned v)/\aQ (λk=>M k\/MI k) W W'/\(J W'\/X W')) .normal a W':=
  ⟨hD,.tuple #[],results_none hr _ _ _,⟨_,rfl⟩,(hS.keepM hw).mono λk _ hk=>.inl hk,h W' hS.ghost⟩
 exact WR
def X (C:Cx) (ops:Array Oper) (G:Gh) (L:List World) (H:ae) (E:Env) (Pre:World->Prop) (o:Oper) (Φ:Value->World->Prop):Prop:=
 ∀(a:Act) (W:World) (K:Act->World->Prop) (Q:bA),a.tmps.size=C.N->Fits E a->St G L H W->Pre W->
  (∀v W',Below W.heap.size W W'->Φ v W'->K (a.put o.dst v) W')->
  if Region.wanted o (yielded ops a.tmps)then o.wpIn (FW C.r) 0 C.P a W K Q else K (a.put o.dst undef) W
section
variable {C:Cx} {G:Gh} {L:List World} {H:ae} {E:Env} {Pre:World->Prop} {ops:Array Oper} {Φ:Value->World->Prop}
variable {d ty:Nat} {op:Op} {pos:String} {aD:Array Edge} {g:Option (Nat×Bool)}
theorem X.val{v:Value}(hnd:CR op=true)(hw:nr ops E g=some true)(hr:RV C G L H E op v)(J:∀W,Pre W->Φ v W):X C ops G L H E Pre ⟨some d,op,ty,pos,aD,g⟩ Φ:=by
 intro a W K Q _ hF hS hP hk;rw[if_pos (zb hF hw)];refine⟨λ_ _=>trivial,?_⟩;rw[Oper.semAt_eq _ _ _ (H2 hnd),hr d ty pos aD g a W hF hS,Oper.uponIn_value]
 grind [Below.refl]
theorem X.v{v:Value}(hr:RV C G L H E op v)(hnd:CR op=true:=by rfl)(hw:nr ops E g=some true:=by rfl):X C ops G L H E Pre ⟨some d,op,ty,pos,aD,g⟩ (λu _=>u=v):=X.val hnd hw hr λ_ _=>rfl
theorem X.off(hw:nr ops E g=some false)(J:∀W,Pre W->Φ undef W):X C ops G L H E Pre ⟨some d,op,ty,pos,aD,g⟩ Φ:=by
 grind [zb,Below.refl,X,nr]
variable {f:Nat} {xs:List Operand} {vs:List Value} {eY:Array Nat}
theorem X.call{R:World->Ending->World->Prop}(aF:fh C.P f)(hw:nr ops E g=some true)(ha:jt E xs=some vs)(hc:∀W,St G L H W->Pre W->Calls C.P f vs.toArray W (R W))(hR:∀W e W',R W e W'->Pre W->∃v,e= .returned v/\Below W.heap.size W W'/\Φ v W'):X C ops G L H E Pre ⟨some d,.call ⟨.value (.func f),xs.toArray,eY⟩,ty,pos,aD,g⟩ Φ:=by
 intro a W K Q _ hF hS hP hk;rw[if_pos (zb hF hw)];refine⟨λ_ _=>trivial,?_⟩;have hr:(execOp a.eval ⟨some d,.call ⟨.value (.func f),xs.toArray,eY⟩,ty,pos,aD,g⟩).run C.P W= .ok (.enter f vs.toArray) W:=by
  have h2:(xs.toArray).map a.eval=vs.toArray:=by rw[CS,MQ hF xs vs ha]
  simp only[execOp,resolve,Act.eval,Deferred.ofValue,h2];simp[invoke,aF _ W]
 rw[Oper.semAt_eq _ _ _ zP,hr];refine⟨by simp,I6.2 ((hc W hS hP).mono ?_)⟩
 grind
theorem ne{v:Value}(aF:fh C.P f)(hw:nr ops E g=some true)(ha:jt E xs=some vs)(hc:∀W,St G L H W->Pre W->Calls C.P f vs.toArray W (ar W v))(J:∀W,Φ v W):X C ops G L H E Pre ⟨some d,.call ⟨.value (.func f),xs.toArray,eY⟩,ty,pos,aD,g⟩ Φ:=
 X.call aF hw ha hc λ_ _ W' h _=>⟨v,h.1,h.2,J W'⟩
theorem X.cv{v:Value}(aF:fh C.P f)(ha:jt E xs=some vs)(hc:∀W,St G L H W->Pre W->Calls C.P f vs.toArray W (ar W v))(J:∀W,Φ v W:=by exact λ_=>rfl)(hw:nr ops E g=some true:=by exact rfl):X C ops G L H E Pre ⟨some d,.call ⟨.value (.func f),xs.toArray,eY⟩,ty,pos,aD,g⟩ Φ:=ne aF hw ha hc J
end
theorem nCo{p q:Nat->Bool}:∀(l:List Nat),(∀k∈l,q k=true->p k=true)->l.countP q<=l.countP p:=
 by intro x;induction x<;>(grind)
theorem nwh{p q:Nat->Bool}:∀(l:List Nat),(∀k∈l,q k=true->p k=true)->(∃k∈l,p k=true/\q k=false)->l.countP q<l.countP p
 | [],_,h=>by grind
 |k::l,h,hx=>by
  have J:=nCo (p:=p) (q:=q) l λj hj=>h j (by simp[hj]);obtain⟨j,hj,hp,hq⟩:=hx;rcases ft.1 hj with rfl|hj
  ·grind
  have ih:=nwh l (λj hj=>h j (by simp[hj])) ⟨j,hj,hp,hq⟩
  grind
def AP (N:Nat):List Oper->Bool
 | []=>true
 |o::l=>(match o.dst with|some d=>Nat.blt d N|none=>true)&&AP N l
theorem nDs:∀{l:List Oper},AP N l=true->∀o∈l,∀d,o.dst=some d->d<N:=
 by intro x;induction x<;>(grind [AP,AM])
def WS:List Nat->Nat->Nat
 | [],_=>0
 |c::ch,j=>match Nat.beq c j with|true=>0|false=>WS ch j+1
theorem nzf:∀(ch:List Nat) (k c:Nat),ch[k]? =some c->ch.Nodup->WS ch c=k:=
 by intro x;induction x<;>(grind [WS,n7i,TS])
def n1j:List Nat->Bool
 | []=>true
 |c::ch=>ch.all (λj=> !Nat.beq c j)&&n1j ch
theorem H8:∀{ch:List Nat},n1j ch=true->ch.Nodup:=
 by intro x;induction x<;>(grind [n1j,n7i])
variable {a:Act}
theorem n0j{F:Fence}{n:Nat}{P:Program}{Q Q':bA}{o:Oper}{w:World}{K K':Act->World->Prop}(h:∀a w,K a w->K' a w)(hq:∀c a w,Q (.panic c) a w->Q' (.panic c) a w)(hl:LetsOut Q->LetsOut Q')(hh:o.wpIn F n P a w K Q):o.wpIn F n P a w K' Q':=by
 refine⟨hh.1,?_⟩;have hh:=hh.2;generalize (o.semAt F.round a.eval).run P w=r at *;cases r with
 |ok x w'=>
  cases x<;>simp only[Oper.uponIn]at hh ⊢ <;>
   first
    |exact h _ _ hh
    |exact⟨hh.1,CallsIn.mono hh.2 (λe J he=>by grind)⟩
    |exact⟨hh.1,RowsIn.mono hh.2 (λ_ _ he=>h _ _ he)⟩
    |grind [RoundIn.mono]
 |halt x w'=>cases x<;>simp only[Oper.uponIn]at hh ⊢ <;>first|exact hh|grind
def Qn (Q:bA) (K:Act->World->Prop):bA:=λe a w=>match e with| .normal=>K a w|e=>Q e a w
/-! ### regions that draw their order -/
/-- what an operation stands behind -/
def s4 (o:Oper):List Nat:=(o.after.toList.filter (λe=>Region.binds .any e)).map (·.on)
def my (n0:Nat) (o:Oper):List Nat:=(s4 o).filter (Nat.ble n0)
def Ua (acc:List Nat):List Nat->Nat
 | []=>0
 |j::js=>(1<<<j)|||acc.getD j 0|||Ua acc js
def I7:List Oper->List Nat->List Nat
 | [],acc=>acc
 |o::l,acc=>I7 l (acc++[Ua acc (s4 o)])
theorem nWj(acc:List Nat)(b:Nat):∀js,(Ua acc js).testBit b=true->∃d∈js,d=b\/(acc.getD d 0).testBit b=true
 | [],h=>by simp[Ua]at h
 |j::js,h=>by
  simp only[Ua,Nat.testBit_or,Bool.or_eq_true]at h;rcases h with(h|h)|h
  ·grind [Nat.testBit_one_eq_true_iff_self_eq_zero]
  ·grind
  obtain⟨d,hd,h⟩:=nWj acc b js h
  grind
theorem nih(ops:List Oper)(D:Nat->Prop)(hD:∀(k:Nat) (o:Oper),ops[k]? =some o->D k->∀j∈s4 o,D j)(hlt:∀(i:Nat) (o:Oper),ops[i]? =some o->∀j∈s4 o,j<i):∀(l:List Oper) (acc:List Nat),ops.drop acc.length=l->(∀(k:Nat) (o:Oper),ops[k]? =some o->k<acc.length->(∀j∈s4 o,D j)->∀j,(acc.getD k 0).testBit j=true->D j)->∀(k:Nat) (o:Oper),ops[k]? =some o->(∀j∈s4 o,D j)->∀j,((I7 l acc).getD k 0).testBit j=true->D j
 | [],acc,hl,hP=>by
  grind [s4,I7]
 |o::l,acc,hl,hP=>by
  have J:ops[acc.length]? =some o:=by
   have:(ops.drop acc.length)[0]? =some o:=by rw[hl];rfl
   simpa using this
  refine nih ops D hD hlt l (acc++[Ua acc (s4 o)]) (by rw[eU,<-List.drop_drop,hl];rfl) ?_;intro k o' B8 hk hr j hj;simp at hk;by_cases e:k=acc.length
  ·grind [nWj,s4,Ua]
  exact hP k o' B8 aa hr j cM
abbrev Sp:=List (Option Value)
abbrev B9:=List (Option Value)->List World->ae->Prop
def mj (sp:Sp) (ch:List Nat) (cv:List (Option Value)) (j:Nat):Value:=
 match sp[j]? with
 |some (some u)=>u
 |_=>((cv[WS ch j]?).join).getD undef
def cG (ops:Array Oper) (sp:Sp) (ch:List Nat) (cv:List (Option Value)):List Nat->Env
 | []=>[]
 |j::js=>match(ops[j]?).bind (·.dst)with
  |some d=>(d,mj sp ch cv j)::cG ops sp ch cv js
  |none=>cG ops sp ch cv js
section
variable {C:Cx} {Q:bA} {E:Env} {D:List Deferred} {G:Gh} {L:List World} {H:ae} {l:List Oper} {ops:Array Oper} {sp:Sp} {ch:List Nat} {cv:List (Option Value)} {Ph:B9} {n0:Nat}
theorem nPf(d:Nat):∀js:List Nat,(look (cG ops sp ch cv js) d=none/\∀j∈js,(ops[j]?).bind (·.dst)≠some d)\/∃j∈js,(ops[j]?).bind (·.dst)=some d/\look (cG ops sp ch cv js) d=some (mj sp ch cv j)
 | []=>.inl ⟨rfl,by simp⟩
 |j::js=>by
  have ih:=nPf d js
  grind [cG,look,n7i,TS]
theorem nHh(js:List Nat)(h:∀j∈js,∀d,(ops[j]?).bind (·.dst)=some d->a.eval (.tmp d)=mj sp ch cv j):Fits (cG ops sp ch cv js) a:=λt v J=>by
 grind [nPf]
def AQ (rq:List Nat) (k:Nat) (cv:List (Option Value)):Bool:=((cv[k]?).join).isNone&&rq.all λj=>((cv[j]?).join).isSome
def MV (ops:List Oper) (ch:List Nat):Nat->List (List Nat)->Bool
 |_,[]=>true
 |k,rq::rqs=>(match ch[k]? with|some c=>rq.all (λj=>match ch[j]? with|some c'=>((I7 ops []).getD c 0).testBit c'|none=>false)|none=>false)&&MV ops ch (k+1) rqs
theorem H9(ops:List Oper)(ch:List Nat):∀(rqs:List (List Nat)) (n:Nat),MV ops ch n rqs=true->∀(k c:Nat) (rq:List Nat),rqs[k]? =some rq->ch[n+k]? =some c->∀j∈rq,∃J,ch[j]? =some J/\((I7 ops []).getD c 0).testBit J=true
 | [],_,_,k,c,rq,h,_=>by simp at h
 |r::rqs,n,h,k,c,rq,hk,hc=>by
  simp[MV]at h;cases k with
  |zero=>
   grind
  |succ k=>exact H9 ops ch rqs (n+1) h.2 k c rq cM cM
def Pq (ch ds:List Nat) (cv:List (Option Value)):Bool:=ds.all λj=> !(ch.any λc=>Nat.beq c j)||((cv[WS ch j]?).join).isSome
def AR (ch:List Nat):Nat->Sp->Bool
 |_,[]=>true
 |i,u::sp=>(match u with|none=>ch.any (λc=>Nat.beq c i)|some _=>ch.all (λc=> !Nat.beq c i))&&AR ch (i+1) sp
theorem n9k(ch:List Nat):∀(sp:Sp) (i:Nat),AR ch i sp=true->∀j u,sp[j]? =some u->(i+j∈ch↔u=none)
 | [],_,_,j,u,h=>by simp at h
 |u'::sp,i,h,j,u,hj=>by
  simp[AR]at h;cases j with
  |zero=>
   cases u'<;>simp at hj<;>subst hj<;>simp at h ⊢
   ·exact h.1
   exact λhm=>by have:=h.1 _ hm;simp at this
  |succ j=>rw[show i+(j+1)=i+1+j by omega];exact n9k ch sp (i+1) h.2 j u cM
def ze (N:Nat) (l:List Oper) (n0 nA:Nat) (ch:List Nat) (sp:Sp) (rqs:List (List Nat)) (E:Env):Bool:=
 Nat.beq sp.length nA&&(Nat.ble n0 nA&&(Nat.ble nA l.length&&(Nat.beq rqs.length ch.length&&(n1j ch&&(AR ch 0 sp&&(MV l ch 0 rqs&&(AP N l&&(ch.all (λc=>Nat.ble n0 c&&Nat.blt c nA)&&
 ((List.range l.length).all (λi=>match l[i]? with|none=>true|some o=>(s4 o).all λj=>Nat.blt j i)&&
 ((List.range l.length).all (λi=>Nat.blt i nA||(List.range nA).all λj=>((I7 l []).getD i 0).testBit j)&&
 (List.range nA).all λi=>Nat.blt i n0||match(l.toArray[i]?).bind (·.dst)with
  |none=>true
  |some d=>(look E d).isNone&&(List.range nA).all λj=>Nat.beq i j||(Nat.blt j n0||match(l.toArray[j]?).bind (·.dst)with|none=>true|some d'=> !Nat.beq d d')))))))))))
def Pr (C:Cx) (ops:Array Oper) (Q:bA) (n:Nat) (a:Act) (W:World):Prop:=∀dd:Array Bool,dd.size=ops.size->(∀i,i<ops.size->(dd.getD i false=true↔i<n))->∀fuel:Nat,(List.range ops.size).countP (λi=> !dd.getD i false)<=fuel->wpAnyIn (FW C.r) 0 C.P .any ops Q fuel dd a W
def DJ (C:Cx) (ops:Array Oper) (Q:bA) (n:Nat) (E:Env) (D:List Deferred) (G:Gh) (L:List World) (H:ae):Prop:=∀a W,a.tmps.size=C.N->a.defers=D->Fits E a->St G L H W->Pr C ops Q n a W
theorem CJ.dj{id:Nat}(hm:C.P.follows .mixedOrders=true)(h:DJ C l.toArray Q 0 E D G L H):CJ C (.region id l.toArray true) Q E D G L H:=by
 intro a W J hD hF hS;refine wpIn_region_draw λt=>?_;simp[hm];refine wpAnyIn_sound l.toArray.size t _ a _ (h a _ J hD hF (hS.step (IC W _)) (Array.replicate l.toArray.size false) zP (λi hi=>?_) _ (dS List.countP_le_length zP));simp_all
theorem njj(J:Array Bool)(i:Nat)(AS:J.size=l.length):i∈Region.ready .any l.toArray J↔∃o,l[i]? =some o/\J.getD i false=false/\∀j∈s4 o,J.getD j false=true:=by
 simp only[Region.ready,vy,vU,s4,dO]
 (intros;grind [List.getElem?_eq_getElem,Array.all_eq_true_iff_forall_mem])
variable {I:Array Bool->Act->World->Prop}
theorem nmo{Dn:Array Bool->Prop}(hb:∀(i:Nat) (o:Oper),l[i]? =some o->∀j∈s4 o,j<i)(hs:∀J a W,I J a W->J.size=l.length)(hd:∀J a W,I J a W->Dn J->∀fuel,(List.range l.length).countP (λi=> !J.getD i false)<=fuel->wpAnyIn (FW C.r) 0 C.P .any l.toArray Q fuel J a W)(hn:∀J a W,I J a W->¬Dn J->(∃k,k<l.length/\J.getD k false=false)/\∀(i:Nat) (o:Oper),l[i]? =some o->J.getD i false=false->(∀j∈s4 o,J.getD j false=true)->wpOpIn (FW C.r) 0 C.P l.toArray Q i (λa' W'=>I (J.setIfInBounds i true) a' W') a W):∀(fuel:Nat) (J:Array Bool) a W,I J a W->(List.range l.length).countP (λi=> !J.getD i false)<=fuel->wpAnyIn (FW C.r) 0 C.P .any l.toArray Q fuel J a W:=by
 intro fuel;induction fuel with
 |zero=>
  intro J a W hI hc;refine hd _ _ _ hI (Classical.byContradiction λh=>?_) _ hc;obtain⟨⟨k,hk,hf⟩,-⟩:=hn _ _ _ hI h;simp_all[s4,FW,Cx.r,Cx.P]
 |succ fuel ih=>
  intro J a W hI hc;by_cases cN:Dn J
  ·grind
  obtain⟨⟨k,hk,a8⟩,hn⟩:=hn _ _ _ hI cN;have AS:=hs _ _ _ hI;refine⟨λhr=>?_,λi hi=>?_⟩
  ·have all:∀i,i<l.length->J.getD i false=true:=by
    intro i;induction i using Nat.strongRecOn with
    |_ i aR=>
     intro hi;refine Classical.byContradiction λhf=>?_;have:=(njj J i AS).2 ⟨_,kC hi,by grind,λj hj=>by
      grind⟩
     grind
   grind
  obtain⟨o,ho,hf,hr⟩:=(njj J i AS).1 hi;have wD:=(qe.1 ho).1;refine wpOpIn_mono (λa' W' hI'=>ih _ a' W' hI' (Nat.le_of_lt_succ (oh (nwh _ (λk _ hk=>?_) ⟨i,xe.2 wD,by simp[hf],?_⟩) hc))) (hn i o ho hf hr)
  ·simp at hk ⊢;grind
  simp;grind
variable {i:Nat}
theorem nRn(J:Array Bool)(hi:i<J.size)(k:Nat):(J.setIfInBounds i true).getD k false=if k=i then true else J.getD k false:=by
 simp;grind
theorem Ub{K:Act->World->Prop}{o:Oper}(ho:l[i]? =some o)(h:wpListIn (FW C.r) 0 C.P l.toArray (Qn Q K) [o] a W):wpOpIn (FW C.r) 0 C.P l.toArray Q i K a W:=by
 unfold wpListIn at h;unfold wpOpIn;simp only[Qg,ho];split
 ·rename_i hw;rw[if_pos hw]at h;exact n0j (λa' W' h=>h) (λ_ _ _ h=>h) zL h
 rename_i hw;rw[if_neg hw]at h;exact h
theorem nos{n:Nat}{o:Oper}(ho:l[n]? =some o)(hb:∀(i:Nat) (o:Oper),l[i]? =some o->∀j∈s4 o,j<i)(hk:∀i,n<i->i<l.length->((I7 l []).getD i 0).testBit n=true)(h:wpOpIn (FW C.r) 0 C.P l.toArray Q n (Pr C l.toArray Q (n+1)) a W):Pr C l.toArray Q n a W:=by
 intro J AS qh fuel hc;have Cy:=(qe.1 ho).1;simp only[act]at AS qh hc;have h0:J.getD n false=false:=Bool.eq_false_iff.2 λe=>by grind
 refine nmo (I:=λJ a W=>J.size=l.length/\((J.getD n false=false/\(∀i,i<l.length->(J.getD i false=true↔i<n))/\wpOpIn (FW C.r) 0 C.P l.toArray Q n (Pr C l.toArray Q (n+1)) a W)\/(∀i,i<l.length->(J.getD i false=true↔i<n+1))/\Pr C l.toArray Q (n+1) a W))
  (Dn:=λJ=>J.getD n false=true) hb (λ_ _ _ h=>h.1) (λJ a W hI hd=>?_) (λJ a W hI hd=>?_) fuel J a W ⟨AS,.inl ⟨h0,qh,h⟩⟩ hc
 ·rcases hI.2 with h1|h1
  ·grind
  simp_all[FW,Cx.r,Cx.P,s4,I7,Pr]
 rcases hI.2 with h1|h1
 ·refine⟨⟨n,Cy,h1.1⟩,λi o' B8 hf hr=>?_⟩;have wD:=(qe.1 B8).1;obtain rfl:i=n:=by
   rcases Nat.lt_trichotomy i n with h9|h9|h9
   ·grind
   ·exact h9
   have:=nih l (λj=>J.getD j false=true) (λk o2 BX vZ j hj=>?_) hb l [] rfl (λ_ _ _ hk=>by simp) i o' B8 hr n (hk i h9 wD);all_goals grind
  (intros;grind [wpOpIn_mono,nRn])
 grind
theorem nmm{n:Nat}(hn:l.length<=n)(h:Q .normal a W):Pr C l.toArray Q n a W:=by
 intro J AS qh fuel hc;have hz:Region.ready .any l.toArray J=[]:=List.eq_nil_iff_forall_not_mem.2 λi hi=>by
  grind [njj]
 cases fuel with
 |zero=>exact⟨hz,h⟩
 |succ fuel=>(constructor<;>grind [absurd])
theorem nNl(hb:∀(i:Nat) (o:Oper),l[i]? =some o->∀j∈s4 o,j<i):∀(m n:Nat),l.length<=n+m->(∀i,n<=i->i<l.length->∀j,j<i->((I7 l []).getD i 0).testBit j=true)->∀a W,wpListIn (FW C.r) 0 C.P l.toArray Q (l.drop n) a W->Pr C l.toArray Q n a W
 |0,n,hm,_,a,W,h=>nmm aa (by rwa[adt.2 aa]at h)
 |m+1,n,hm,hk,a,W,h=>by
  by_cases hn:l.length<=n
  ·exact nmm hn (by rwa[adt.2 hn]at h)
  have ho:l[n]? =some (l[n]'aa):=kC _;rw[aet aa]at h;refine nos ho hb (λi h1 h2=>hk i aa h2 n h1) (wpOpIn_mono (λa' W' h2=>nNl hb m (n+1) aa (λi h1=>hk i aa) a' W' h2) ?_)
  grind [wpListIn,wpOpIn]
abbrev wP (o:Oper) (v:Value) (E:Env):Env:=match o.dst with|some d=>(d,v)::E|none=>E
def ua (C:Cx) (ops:Array Oper) (G:Gh) (E:Env) (n0:Nat) (sp:Sp) (ch:List Nat) (Ph:B9):List Oper->Sp->Prop
 |o::l,some u::ss=>(∀cv L' H',cv.length=ch.length->Pq ch (my n0 o) cv=true->Ph cv L' H'->X C ops G L' H' (cG ops sp ch cv (my n0 o)++E) (λ_=>True) o (λv _=>v=u))/\ua C ops G E n0 sp ch Ph l ss
 |_::l,none::ss=>ua C ops G E n0 sp ch Ph l ss
 |_,_=>True
theorem nJp:∀(l:List Oper) (ss:Sp),ua C ops G E n0 sp ch Ph l ss->∀(i:Nat) (o:Oper) (u:Value),l[i]? =some o->ss[i]? =some (some u)->∀cv L' H',cv.length=ch.length->Pq ch (my n0 o) cv=true->Ph cv L' H'->X C ops G L' H' (cG ops sp ch cv (my n0 o)++E) (λ_=>True) o (λv _=>v=u)
 | [],_,_,i,o,u,hl,_=>by simp at hl
 |_::_,[],_,i,o,u,_,hs=>by simp at hs
 |o'::l,u'::ss,h,i,o,u,hl,hs=>by
  cases i with
  |zero=>simp at hl hs;subst hs;subst hl;exact h.1
  |succ i=>exact nJp l ss (by cases u'<;>first|exact h.2|exact h) i o u cM cM
abbrev qn (C:Cx) (l:List Oper) (G:Gh) (E:Env) (D:List Deferred) (n0:Nat) (sp:Sp) (ch:List Nat) (cv:List (Option Value)) (o:Oper) (K:Value->List World->ae->Prop) (L':List World) (H':ae):Prop:=
 ∀(F:Env) (Q':bA),(∀v o6 o7,K v o6 o7->PJ C Q' .normal (wP o v (cG l.toArray sp ch cv (my n0 o)++(E++F))) D G o6 o7)->OJ C l.toArray Q' [o] (cG l.toArray sp ch cv (my n0 o)++(E++F)) D G L' H'
def eQ (C:Cx) (l:List Oper) (G:Gh) (E:Env) (D:List Deferred) (n0:Nat) (sp:Sp) (ch:List Nat) (rqs:List (List Nat)) (Ph:B9):Nat->List Nat->Prop
 |_,[]=>True
 |k,c::rest=>(∀(rq:List Nat) (o:Oper),rqs[k]? =some rq->l[c]? =some o->∀cv L' H',cv.length=ch.length->AQ rq k cv=true->Ph cv L' H'->qn C l G E D n0 sp ch cv o (λv=>Ph (cv.set k (some v))) L' H')/\eQ C l G E D n0 sp ch rqs Ph (k+1) rest
theorem nAq{rqs:List (List Nat)}:∀(rest:List Nat) (n:Nat),eQ C l G E D n0 sp ch rqs Ph n rest->∀(k c:Nat) (rq:List Nat) (o:Oper),rest[k]? =some c->rqs[n+k]? =some rq->l[c]? =some o->∀cv L' H',cv.length=ch.length->AQ rq (n+k) cv=true->Ph cv L' H'->qn C l G E D n0 sp ch cv o (λv=>Ph (cv.set (n+k) (some v))) L' H'
 | [],_,_,k,c,_,_,h,_,_=>by simp at h
 |c'::rest,n,h,k,c,rq,o,hk,hr,hl=>by
  cases k with
  |zero=>simp_all[ae,AQ,qn,eQ]
  |succ k=>
   rw[show n+(k+1)=n+1+k by omega]at hr ⊢;exact nAq rest (n+1) h.2 k c rq o cM hr hl
theorem DJ.net(nA:Nat)(rqs:List (List Nat))(h0:Ph (ch.map λ_=>none) L H)(pure:ua C l.toArray G E n0 sp ch Ph (l.drop n0) (sp.drop n0))(step:eQ C l G E D n0 sp ch rqs Ph 0 ch)(fin:∀cv L' H',cv.length=ch.length->cv.all (λx=>x.isSome)=true->Ph cv L' H'->DJ C l.toArray Q nA (cG l.toArray sp ch cv ((List.range nA).filter (Nat.ble n0))++E) D G L' H')(gM:ze C.N l n0 nA ch sp rqs E=true):DJ C l.toArray Q n0 E D G L H:=by
 simp only[ze,vU,xk,xe,Nat.beq_eq,Nat.ble_eq,Nat.blt_eq,Bool.or_eq_true]at gM;obtain⟨zu,gX,fM,e7,hnd,CN,ed,hN,o3,hb,dK,dv⟩:=gM;have hnd:=H8 hnd;have back:∀(i:Nat) (o:Oper),l[i]? =some o->∀j∈s4 o,j<i:=λi o ho j hj=>by
  grind [Nat.blt_eq]
 have apart:∀i d,n0<=i->i<nA->(l.toArray[i]?).bind (·.dst)=some d->look E d=none/\∀j,n0<=j->j<nA->(l.toArray[j]?).bind (·.dst)=some d->i=j:=by
  intro i d h1 h2 h3;have h4:=(dv i h2).resolve_left aa;simp only[h3,vU,xk,xe,Nat.beq_eq,Nat.blt_eq,Bool.or_eq_true]at h4;refine⟨by simp_all,λj h5 h6 h7=>?_⟩;have:=h4.2 j h6;simp only[h7,Nat.beq_refl]at this
  grind
 let done:=λ(J:Array Bool)=>(List.range nA).filter λj=>Nat.ble n0 j&&J.getD j false
 let I:Array Bool->Act->World->Prop:=λJ a W=>J.size=l.length/\(∀(k:Nat) (o:Oper),l[k]? =some o->J.getD k false=true->∀j∈s4 o,J.getD j false=true)/\(∀i,i<n0->J.getD i false=true)/\(∀i,nA<=i->J.getD i false=false)/\
  ∃cv L' H',a.tmps.size=C.N/\a.defers=D/\Fits E a/\Ph cv L' H'/\St G L' H' W/\cv.length=ch.length/\(∀(k c:Nat),ch[k]? =some c->(J.getD c false=true↔∃v,cv[k]? =some (some v)))/\∀j∈done J,∀d,(l.toArray[j]?).bind (·.dst)=some d->a.eval (.tmp d)=mj sp ch cv j
 have cB:∀J a W,I J a W->¬(∀k,k<nA->J.getD k false=true)->(∃k,k<l.length/\J.getD k false=false)/\∀(i:Nat) (o:Oper),l[i]? =some o->J.getD i false=false->(∀j∈s4 o,J.getD j false=true)->
  wpOpIn (FW C.r) 0 C.P l.toArray Q i (λa' W'=>I (J.setIfInBounds i true) a' W') a W:=by
  rintro J a W ⟨AS,qx,cz,cq,cv,L',H',h1,h2,h3,h4,h5,h6,h7,h8⟩ cN;obtain⟨k0,Sl,PH⟩:∃k,k<nA/\J.getD k false=false:=by grind
  refine⟨⟨k0,by omega,PH⟩,λi o ho Ps cy=>?_⟩;have wD:=(qe.1 ho).1;have c0:n0<=i:=Nat.le_of_not_lt λh=>by grind
  have mask:=nih l (λj=>J.getD j false=true) qx back l [] rfl (λ_ _ _ hk=>by simp) i o ho cy;have cI:i<nA:=(dK i wD).resolve_right λh=>by
   grind
  have gs:=nRn J (i:=i) aa;have Uc:∀j∈done J,n0<=j/\j<nA/\J.getD j false=true:=λj hj=>by simp only[done,vy,vU,Nat.ble_eq]at hj;grind
  have tP:∀j∈my n0 o,j∈done J:=λj hj=>by
   obtain⟨h9,bI⟩:=vy.1 hj
   grind
  have cQ:Fits (cG l.toArray sp ch cv (my n0 o)) a:=nHh _ λj hj=>h8 j (tP j hj);have hF:Fits (cG l.toArray sp ch cv (done J)) a:=nHh _ h8
  -- after it
  have next:∀js v cv' o6 o7 a' W',(∀j∈js,j∈done J)->a'.tmps.size=C.N->a'.defers=D->Fits (wP o v (cG l.toArray sp ch cv js++(E++cG l.toArray sp ch cv (done J)))) a'->Ph cv' o6 o7->St G o6 o7 W'->cv'.length=ch.length->
   (∀(k c:Nat),ch[k]? =some c->((c=i\/J.getD c false=true)↔∃v,cv'[k]? =some (some v)))->mj sp ch cv' i=v->(∀j∈done J,mj sp ch cv' j=mj sp ch cv j)->I (J.setIfInBounds i true) a' W':=by
   intro js v cv' o6 o7 a' W' kj k1 k2 k3 k4 k5 k6 k7 k8 k9;have kq:∀j d,n0<=j->j<nA->(l.toArray[j]?).bind (·.dst)=some d->j≠i->o.dst≠some d:=λj d e1 e2 e3 e4 e5=>e4 ((apart j d e1 e2 e3).2 i c0 cI (by simp[ho,e5]));have Ud:∀t u,o.dst≠some t->look (cG l.toArray sp ch cv js++(E++cG l.toArray sp ch cv (done J))) t=some u->a'.eval (.tmp t)=u:=λt u e1 e2=>k3 t u (by
    unfold wP;split
    ·rename_i d hd;simp[look,TS (show ¬d=t from λe=>e1 (e▸hd))];exact e2
    exact e2)
   refine⟨by simp[AS],λk o' B8 hk j hj=>?_,λj hj=>by rw[gs,cz j hj];simp,λj hj=>by rw[gs,if_neg aa];grind,cv',o6,o7,k1,k2,λt u hu=>?_,k4,k5,k6,λk c hc=>?_,λj hj d hd=>?_⟩
   ·rw[gs]at hk ⊢;by_cases e:k=i
    ·subst e;rw[ho]at B8;cases B8;rw[cy j hj];simp
    rw[if_neg e]at hk;rw[qx k o' B8 hk j hj];simp
   ·refine Ud t u (λe=>?_) ?_
    ·rw[(apart i t c0 cI (by simp[ho,e])).1]at hu;cases hu
    rcases nPf (ops:=l.toArray) (sp:=sp) (ch:=ch) (cv:=cv) t js with h9|⟨q,hq,a6,h9⟩
    ·rw[nod,nod,h9.1,hu];rfl
    rw[(apart q t (Uc q (kj q hq)).1 (Uc q (kj q hq)).2.1 a6).1]at hu;cases hu
   ·rw[gs,<-k7 k c hc];split<;>simp[*]
   have xu:n0<=j/\j<nA/\(j=i\/J.getD j false=true):=by
    simp only[done,vy,xe,gs,vU,Nat.ble_eq]at hj;exact⟨hj.2.1,hj.1,by have:=hj.2.2;split at this<;>simp[*]⟩
   by_cases e:j=i
   ·subst e;have hd:o.dst=some d:=by simpa[ho]using hd
    rw[k8];exact k3 d v (by simp[wP,hd,look])
   have b0:j∈done J:=vy.2 ⟨xe.2 xu.2.1,by rw[xu.2.2.resolve_left e,Nat.ble_eq_true_of_le xu.1];rfl⟩;rw[k9 j b0];refine Ud d _ (kq j d xu.1 xu.2.1 hd e) ?_;have at_:∀js,(∀j∈js,j∈done J)->(look (cG l.toArray sp ch cv js) d=none/\j∉js)\/look (cG l.toArray sp ch cv js) d=some (mj sp ch cv j):=λjs kj=>by
    rcases nPf (ops:=l.toArray) (sp:=sp) (ch:=ch) (cv:=cv) d js with h9|⟨q,hq,a6,h9⟩
    ·exact .inl ⟨h9.1,λh=>h9.2 j h hd⟩
    exact .inr (by rw[h9,(apart j d xu.1 xu.2.1 hd).2 q (Uc q (kj q hq)).1 (Uc q (kj q hq)).2.1 a6])
   rw[nod,nod,(apart j d xu.1 xu.2.1 hd).1];rcases at_ js kj with h9|h9
   ·rw[h9.1,(at_ (done J) λ_ h=>h).resolve_left λh=>h.2 b0];rfl
   rw[h9];rfl
  obtain⟨u,hu⟩:∃u,sp[i]? =some u:=⟨sp[i]'aa,kC _⟩;have mG:=n9k ch sp 0 CN i u hu;rw[rM]at mG;cases u with
  |some u=>
   have eu:i∉ch:=λh=>by cases mG.1 h
   have hx:=nJp _ _ pure (i-n0) o u (by rw[List.getElem?_drop,show n0+(i-n0)=i by omega];exact ho) (by rw[List.getElem?_drop,show n0+(i-n0)=i by omega];exact hu) cv L' H' h6 (by
    simp only[Pq,xk,Bool.or_eq_true,Bool.not_eq_true'];intro j hj;by_cases hc:j∈ch
    ·obtain⟨q,hq⟩:=iB.1 hc;obtain⟨v,hv⟩:=(h7 q j hq).1 (Uc j (tP j hj)).2.2;rw[nzf ch q j hq hnd,hv];exact .inr rfl
    ·exact .inl (Bool.eq_false_iff.2 λh=>hc (by obtain⟨c,hc,e⟩:=List.any_eq_true.1 h;rw[Nat.beq_eq]at e;exact e▸hc))) h4 a W (λa' W'=>I (J.setIfInBounds i true) a' W') Q h1 (T0 cQ h3) h5 trivial (by
    rintro v W' hb rfl;refine next [] v cv L' H' _ W' zP (by cases hd:o.dst<;>simp[Act.put,hd,h1]) (by cases hd:o.dst<;>simp[Act.put,hd,h2]) ?_ h4 (h5.step hb) h6 (λk c hc=>by rw[<-h7 k c hc];exact⟨λh=>h.resolve_left λe=>eu (e▸cF hc),.inr⟩) (by simp[mj,hu]) λ_ _=>rfl;unfold wP;split
    ·rename_i d hd;rw[hd];exact(T0 h3 hF).put v (by rw[h1];exact nDs hN o (cF ho) d hd)
    rename_i hd;rw[hd];exact(T0 h3 hF:Fits (E++cG l.toArray sp ch cv (done J)) a))
   unfold wpOpIn;simp only[Qg,ho];split
   ·rename_i hw;rw[if_pos hw]at hx;exact hx
   rename_i hw;rw[if_neg hw]at hx;exact⟨λ_ _=>trivial,hx⟩
  |none=>
   obtain⟨k,hk⟩:=iB.1 (mG.2 rfl);have lf:=(qe.1 hk).1;obtain⟨rq,yJ⟩:∃rq,rqs[k]? =some rq:=⟨rqs[k]'aa,kC _⟩;have c6:((cv[k]?).join).isNone=true:=by
    have:=h7 k i hk;rw[Ps]at this;cases e:cv[k]? with
    |none=>rfl
    |some x=>cases x with
     |none=>rfl
     |some v=>exact absurd (this.2 ⟨v,e⟩) zP
   have hr:AQ rq k cv=true:=by
    simp only[AQ,c6,Bool.true_and,xk];intro j hj;obtain⟨c',Ue,ea⟩:=H9 l ch rqs 0 ed k i rq yJ (by rw[rM];exact hk) j hj;obtain⟨v,hv⟩:=(h7 j c' Ue).1 (mask c' ea);rw[hv];rfl
   have ez:∀j∈done J,j∈ch->WS ch j≠k:=λj hj hc e=>by
    obtain⟨q,hq⟩:=iB.1 hc;rw[nzf ch q j hq hnd]at e;subst e;rw[hk]at hq;cases hq;have:=(Uc _ hj).2.2;rw[Ps]at this;cases this
   refine Ub ho (nAq ch 0 step k i rq o hk (by rw[rM];exact yJ) ho cv L' H' h6 (by rw[rM];exact hr) h4 (cG l.toArray sp ch cv (done J)) _ (λv o6 o7 hP a' W' k1 k2 k3 k4=>?_) a W h1 h2 (T0 cQ (T0 h3 hF)) h5);rw[rM]at hP;refine next (my n0 o) v _ o6 o7 a' W' tP k1 k2 k3 hP k4 (by rw[OU];exact h6) (λk' c hc=>?_) (by simp[mj,hu,nzf ch k i hk hnd,h6,lf]) λj hj=>?_
   ·by_cases e:k'=k
    ·subst e;rw[hk]at hc;cases hc;simp[h6,lf]
    rw[WQ (λh=>e h.symm),<-h7 k' c hc];exact⟨λh=>h.resolve_left λe2=>e (by rw[<-nzf ch k' c hc hnd,<-nzf ch k i hk hnd,e2]),.inr⟩
   obtain⟨u',bR⟩:∃u,sp[j]? =some u:=⟨sp[j]'(by have:=(Uc j hj).2.1;omega),kC _⟩;have hm:=n9k ch sp 0 CN j u' bR;rw[rM]at hm;unfold mj;rw[bR];cases u' with
   |some u'=>rfl
   |none=>rw[WQ (λh=>ez j hj (hm.2 rfl) h.symm)]
 intro a W h1 h2 h3 h4 J AS qh fuel hc;simp only[act]at AS qh hc;have gn:∀i,n0<=i->J.getD i false=false:=λi hi=>Bool.eq_false_iff.2 λh=>by
  by_cases wD:i<l.length
  ·have:=(qh i wD).1 h;omega
  simp[Array.getElem?_eq_none (show J.size<=i by omega)]at h
 refine nmo (I:=I) back (λ_ _ _ h=>h.1) ?_ cB fuel J a W ⟨AS,λk o ho hk j hj=>?_,λi hi=>(qh i aa).2 hi,λi hi=>gn i aa,_,L,H,h1,h2,h3,h0,h4,jg _,λk c hc=>?_,λj hj=>?_⟩ hc
 ·rintro J a W ⟨AS,qx,cz,cq,cv,L',H',h1,h2,h3,h4,h5,h6,h7,h8⟩ cN fuel hc;refine fin cv L' H' h6 (xk.2 λx hx=>?_) h4 a W h1 h2 (T0 (nHh _ λj hj=>h8 j ?_) h3) h5 J (by simpa using AS) (λi hi=>⟨λh=>?_,λh=>cN i h⟩) fuel (by simpa using hc)
  ·obtain⟨k,hk⟩:=iB.1 hx;have lf:k<ch.length:=by rw[<-h6];exact(qe.1 hk).1
   obtain⟨v,hv⟩:=(h7 k _ (kC lf)).1 (cN _ (o3 _ (NC lf)).2);rw[hk]at hv;cases hv;rfl
  ·obtain⟨h9,bI⟩:=vy.1 hj;exact vy.2 ⟨h9,by rw[bI,cN j (xe.1 h9)];rfl⟩
  exact Nat.lt_of_not_le λhle=>by rw[cq i hle]at h;cases h
 ·have h9:=back k o ho j hj;have lf:=(qe.1 ho).1;have:=(qh k lf).1 hk;exact(qh j aa).2 aa
 ·rw[gn c (o3 c (cF hc)).1,alt];simp
 simp only[done,vy,vU,Nat.ble_eq]at hj;rw[gn j hj.2.1]at hj;cases hj.2.2
def wQ (l:List Oper) (nA:Nat):Bool:=(List.range l.length).all λi=>Nat.blt i nA||(List.range i).all λj=>((I7 l []).getD i 0).testBit j
theorem CJ.nt{id:Nat}(nA:Nat)(ch:List Nat)(sp:Sp)(rqs:List (List Nat))(Ph:B9)(h0:Ph (ch.map λ_=>none) L H)(pure:ua C l.toArray G E 0 sp ch Ph l sp)(step:eQ C l G E D 0 sp ch rqs Ph 0 ch)(fin:∀cv L' H',cv.length=ch.length->cv.all (λx=>x.isSome)=true->Ph cv L' H'->OJ C l.toArray Q (l.drop nA) (cG l.toArray sp ch cv (List.range nA)++E) D G L' H')(gM:(C.P.follows .mixedOrders&&(ze C.N l 0 nA ch sp rqs E&&wQ l nA))=true:=by kernel_rfl):CJ C (.region id l.toArray true) Q E D G L H:=by
 simp only[vU]at gM;refine CJ.dj gM.1 (DJ.net nA rqs h0 pure step (λcv L' H' h1 h2 h3 a W J k2 k3 k4=>nNl ?_ l.length nA aa (λi h5 h6 j h7=>?_) a W (fin cv L' H' h1 h2 h3 a W J k2 ?_ k4)) gM.2.1)
 ·intro i o ho j hj;have:=gM.2.1;simp only[ze,vU,xk,xe]at this;have:=this.2.2.2.2.2.2.2.2.2.1 i (qe.1 ho).1;rw[ho]at this;simpa using xk.1 this j hj
 ·have:=xk.1 gM.2.2 i (xe.2 h6);simp only[Bool.or_eq_true,Nat.blt_eq,xk,xe]at this;exact this.resolve_left aa j h7
 rwa[List.filter_eq_self.2 (λ_ _=>Nat.ble_eq_true_of_le (cd _))]at k3
/-! #### a chain: the operations whose values are not known stand behind each other -/
def rq1:Nat->List Nat
 |0=>[]
 |n+1=>[n]
def zf:Nat->Nat->List (List Nat)
 |_,0=>[]
 |k,n+1=>rq1 k::zf (k+1) n
abbrev MW:=List Value->List World->ae->Prop
abbrev sm (vs:List Value):List (Option Value):=vs.map some
def AT (n:Nat) (Ph:MW):B9:=λcv L' H'=>∃vs:List Value,vs.length<=n/\cv=sm vs++List.replicate (n-vs.length) none/\Ph vs L' H'
theorem Pt(vs:List Value)(n k:Nat):((sm vs++List.replicate n none)[k]?).join=((sm vs)[k]?).join:=by grind
theorem nxi(vs:List Value)(n:Nat):∀js,cG ops sp ch (sm vs++List.replicate n none) js=cG ops sp ch (sm vs) js
 | []=>rfl
 |j::js=>by unfold cG;rw[nxi vs n js];simp[mj,Pt]
variable {Pc:MW} {k c:Nat} {o:Oper} {rest:List Nat} {rqs:List (List Nat)} {tl:Sp} {u:Value}
theorem pc(h:∀cv L' H',Pq ch (my n0 o) (sm cv)=true->Pc cv L' H'->X C ops G L' H' (cG ops sp ch (sm cv) (my n0 o)++E) (λ_=>True) o (λv _=>v=u))(t:ua C ops G E n0 sp ch (AT ch.length Pc) l tl):ua C ops G E n0 sp ch (AT ch.length Pc) (o::l) (some u::tl):=
 ⟨by rintro _ L' H' _ hd ⟨vs,hle,rfl,hP⟩;grind [Pq,nxi],t⟩
theorem qc(h:∀cv L' H',cv.length=ch.length->Pq ch (my n0 o) cv=true->Ph cv L' H'->X C ops G L' H' (cG ops sp ch cv (my n0 o)++E) (λ_=>True) o (λv _=>v=u))(t:ua C ops G E n0 sp ch Ph l tl):ua C ops G E n0 sp ch Ph (o::l) (some u::tl):=⟨h,t⟩
theorem pk(t:ua C ops G E n0 sp ch Ph l tl):ua C ops G E n0 sp ch Ph (o::l) (none::tl):=t
theorem pn:ua C ops G E n0 sp ch Ph l []:=by cases l<;>trivial
theorem nc{rq:List Nat}(h0:rqs[k]? =some rq)(h1:l[c]? =some o)(h:∀cv L' H',cv.length=ch.length->AQ rq k cv=true->Ph cv L' H'->qn C l G E D n0 sp ch cv o (λv=>Ph (cv.set k (some v))) L' H')(t:eQ C l G E D n0 sp ch rqs Ph (k+1) rest):eQ C l G E D n0 sp ch rqs Ph k (c::rest):=
 ⟨λJ o' e0 e1=>by grind,t⟩
theorem nn:eQ C l G E D n0 sp ch rqs Ph k []:=trivial
theorem ss(h1:l[c]? =some o)(h:∀cv L' H',cv.length=k->Pc cv L' H'->qn C l G E D n0 sp ch (sm cv) o (λv=>Pc (cv++[v])) L' H')(t:eQ C l G E D n0 sp ch rqs (AT ch.length Pc) (k+1) rest)(h0:rqs[k]? =some (rq1 k):=by rfl)(h2:Nat.blt k ch.length=true:=by rfl):eQ C l G E D n0 sp ch rqs (AT ch.length Pc) k (c::rest):=by
 refine nc h0 h1 ?_ t;rintro _ L' H' _ hr ⟨vs,hle,rfl,hP⟩ F Q' hc;rw[Nat.blt_eq]at h2;simp[AQ]at hr;obtain rfl:vs.length=k:=by
  exact zrk
 rw[nxi]at hc ⊢;refine h vs L' H' rfl hP F Q' λv o6 o7 J=>hc v o6 o7 ⟨vs++[v],by simp;omega,?_,J⟩;simp;rw[show ch.length-vs.length=(ch.length-(vs.length+1))+1 by omega];rfl
variable {L':List World}
theorem nrp(h:cv.all (λx=>x.isSome)=true):AT ch.length Pc cv L' H'->∃vs:List Value,vs.length=ch.length/\cv=sm vs/\Pc vs L' H':=by
 rintro⟨vs,hle,rfl,hP⟩;have:ch.length-vs.length=0:=by
  simp only[List.all_append,List.all_replicate,vU]at h;have:=h.2;split at this<;>simp_all
 grind
theorem Ia(h0:Pc [] L' H'):AT ch.length Pc (ch.map λ_=>none) L' H':=⟨[],cd _,by simp[List.map_const'],h0⟩
theorem CJ.chn{id:Nat}(nA:Nat)(ch:List Nat)(sp:Sp)(Ph:MW)(pure:ua C l.toArray G E 0 sp ch (AT ch.length Ph) l sp)(step:eQ C l G E D 0 sp ch (zf 0 ch.length) (AT ch.length Ph) 0 ch)(fin:∀cv L' H',cv.length=ch.length->Ph cv L' H'->OJ C l.toArray Q (l.drop nA) (cG l.toArray sp ch (sm cv) (List.range nA)++E) D G L' H')(h0:Ph [] L H:=by exact⟨rfl,rfl⟩)(gM:(C.P.follows .mixedOrders&&(ze C.N l 0 nA ch sp (zf 0 ch.length) E&&wQ l nA))=true:=by kernel_rfl):CJ C (.region id l.toArray true) Q E D G L H:=
 CJ.nt nA ch sp (zf 0 ch.length) (AT ch.length Ph) (Ia h0) pure step (λcv L' H' h1 h2 h3=>zYBT) gM
theorem DJ.chn(n0 nA:Nat)(ch:List Nat)(sp:Sp)(Ph:MW)(pure:ua C l.toArray G E n0 sp ch (AT ch.length Ph) (l.drop n0) (sp.drop n0))(step:eQ C l G E D n0 sp ch (zf 0 ch.length) (AT ch.length Ph) 0 ch)(fin:∀cv L' H',cv.length=ch.length->Ph cv L' H'->DJ C l.toArray Q nA (cG l.toArray sp ch (sm cv) ((List.range nA).filter (Nat.ble n0))++E) D G L' H')(h0:Ph [] L H:=by exact⟨rfl,rfl⟩)(gM:ze C.N l n0 nA ch sp (zf 0 ch.length) E=true:=by kernel_rfl):DJ C l.toArray Q n0 E D G L H:=
 DJ.net nA (zf 0 ch.length) (Ia h0) pure step (λcv L' H' h1 h2 h3=>zYBT) gM
theorem xc{L0:List World}{H0:ae}(h:Nat->X C ops G L0 H0 (cG ops sp [] [] (my n0 o)++E) (λ_=>True) o (λv _=>v=u))(t:ua C ops G E n0 sp [] (λ_ L' H'=>L'=L0/\H'=H0) l tl):ua C ops G E n0 sp [] (λ_ L' H'=>L'=L0/\H'=H0) (o::l) (some u::tl):=
 ⟨by simp_all,t⟩
theorem CJ.drwD{id:Nat}(nA:Nat)(sp:Sp)(exec:ua C l.toArray G E 0 sp [] (λ_ L' H'=>L'=L/\H'=H) l sp)(fin:Nat->OJ C l.toArray Q (l.drop nA) (cG l.toArray sp [] [] (List.range nA)++E) D G L H)(gM:(C.P.follows .mixedOrders&&(ze C.N l 0 nA [] sp [] E&&wQ l nA))=true:=by kernel_rfl):CJ C (.region id l.toArray true) Q E D G L H:=
 CJ.nt nA [] sp [] _ ⟨rfl,rfl⟩ exec trivial (by rintro cv _ _ hl _ ⟨rfl,rfl⟩;cases oJ hl;exact fin 0) gM
variable {nA:Nat}
/-- the pure operations, at a state; the number of the elements is said -/
def PB (nA:Nat) (C:Cx) (ops:Array Oper) (G:Gh) (E:Env) (n0:Nat) (sp:Sp) (ch:List Nat) (L:List World) (H:ae):List Oper->Sp->Prop
 |o::l,some u::ss=>X C ops G L H (cG ops sp ch [] (my n0 o)++E) (λ_=>True) o (λv _=>v=u)/\PB nA C ops G E n0 sp ch L H l ss
 |_::l,none::ss=>PB nA C ops G E n0 sp ch L H l ss
 |_,_=>True
theorem dh(h:X C ops G L H (cG ops sp ch [] (my n0 o)++E) (λ_=>True) o (λv _=>v=u))(t:PB nA C ops G E n0 sp ch L H l tl):PB nA C ops G E n0 sp ch L H (o::l) (some u::tl):=⟨h,t⟩
theorem qv{ty:TypeId}{pos aD g}{v:Value}(hr:RV C G L H (cG ops sp ch [] (my n0 ⟨some d,op,ty,pos,aD,g⟩)++E) op v)(t:PB nA C ops G E n0 sp ch L H l tl)(hnd:CR op=true:=by rfl)(hw:nr ops (cG ops sp ch [] (my n0 ⟨some d,op,ty,pos,aD,g⟩)++E) g=some true:=by rfl):PB nA C ops G E n0 sp ch L H (⟨some d,op,ty,pos,aD,g⟩::l) (some v::tl):=dh (X.v hr hnd hw) t
theorem qbk(J:ch.any (Nat.beq (ops.size-(l.length+1)))=true)(t:PB nA C ops G E n0 sp ch L H l tl):PB nA C ops G E n0 sp ch L H (o::l) (none::tl):=t
theorem lK(J:Nat.beq (ops.size-l.length) nA=true):PB nA C ops G E n0 sp ch L H l []:=by cases l<;>trivial
theorem PB.at:∀{l:List Oper} {ss:Sp},PB nA C ops G E n0 sp ch L H l ss->∀(i:Nat) (o:Oper) (u:Value),l[i]? =some o->ss[i]? =some (some u)->X C ops G L H (cG ops sp ch [] (my n0 o)++E) (λ_=>True) o (λv _=>v=u)
 | [],_,_,i,o,u,hl,_=>by simp at hl
 |_::_,[],_,i,o,u,_,hs=>by simp at hs
 |o'::l,u'::ss,h,i,o,u,hl,hs=>by
  cases i with
  |zero=>simp at hl hs;subst hs;subst hl;exact h.1
  |succ i=>exact PB.at (l:=l) (ss:=ss) (by cases u'<;>first|exact h.2|exact h) i o u (by simpa using hl) (by simpa using hs)
theorem nah:∀(m:List Oper) (ss:Sp),(∀(i:Nat) (o:Oper) (u:Value),m[i]? =some o->ss[i]? =some (some u)->∀cv L' H',cv.length=ch.length->Pq ch (my n0 o) cv=true->Ph cv L' H'->X C ops G L' H' (cG ops sp ch cv (my n0 o)++E) (λ_=>True) o (λv _=>v=u))->ua C ops G E n0 sp ch Ph m ss
 | [],ss,_=>by cases ss<;>trivial
 |_::_,[],_=>trivial
 |o::m,none::ss,h=>nah m ss λi o u h1 h2=>h (i+1) o u An Wf
 |o::m,some u::ss,h=>⟨h 0 o u rfl rfl,nah m ss λi o u h1 h2=>h (i+1) o u An Wf⟩
/-- the values of these operations are known -/
def knB (sp:Sp) (js:List Nat):Bool:=js.all λj=>match sp[j]? with|some (some _)=>true|_=>false
theorem nPk{cv cv':List (Option Value)}:∀{js:List Nat},knB sp js=true->cG ops sp ch cv js=cG ops sp ch cv' js
 | [],_=>rfl
 |j::js,h=>by
  simp only[knB,List.all_cons,vU]at h;unfold cG;rw[nPk (js:=js) h.2];have h1:=h.1;have:mj sp ch cv j=mj sp ch cv' j:=by unfold mj;split at h1<;>simp_all
  rw[this]
def tb (n0:Nat) (l:List Oper) (sp:Sp):Bool:=(List.range l.length).all λi=>Nat.blt i n0||match l[i]?,sp[i]? with|some o,some (some _)=>knB sp (my n0 o)|_,_=>true
theorem X.mono{Pre:World->Prop}{Φ:Value->World->Prop}(hm:∀W,St G L' H' W->St G L H W)(h:X C ops G L H E Pre o Φ):X C ops G L' H' E Pre o Φ:=
 λa W K Q h1 h2 h3 h4 h5=>h a W K Q h1 h2 (hm W h3) h4 h5
/-- the operations of a chain, one behind the other -/
def PW (C:Cx) (l:List Oper) (G:Gh) (E:Env) (D:List Deferred) (n0:Nat) (sp:Sp) (ch:List Nat) (Fin:MW) (L0:List World) (H0:ae):List Nat->MW
 | [],vs,L',H'=>(∀W,St G L' H' W->St G L0 H0 W)/\Fin vs L' H'
 |c::rest,vs,L',H'=>(∀W,St G L' H' W->St G L0 H0 W)/\∀o,l[c]? =some o->qn C l G E D n0 sp ch (sm vs) o (λv=>PW C l G E D n0 sp ch Fin L0 H0 rest (vs++[v])) L' H'
variable {Fin:MW} {L0:List World} {H0:ae}
theorem PW.mono:∀{r:List Nat} {vs:List Value} {L':List World} {H':ae},PW C l G E D n0 sp ch Fin L0 H0 r vs L' H'->∀W,St G L' H' W->St G L0 H0 W
 | [],_,_,_,h=>h.1
 |_::_,_,_,_,h=>h.1
theorem nbl(h:k<ch.length):ch.drop k=ch[k]::ch.drop (k+1):=aet h
theorem eQ.of(hP:∀vs L' H',Pc vs L' H'->vs.length<ch.length->∀c o,ch[vs.length]? =some c->l[c]? =some o->qn C l G E D n0 sp ch (sm vs) o (λv=>Pc (vs++[v])) L' H'):∀(m k:Nat),ch.length=k+m->eQ C l G E D n0 sp ch (zf 0 ch.length) (AT ch.length Pc) k (ch.drop k)
 |0,k,h=>by rw[adt.2 aa];exact nn
 |m+1,k,h=>by
  have hk:k<ch.length:=by omega
  rw[nbl hk];refine⟨λrq o h0 h1 cv L' H' aR hr hp=>?_,eQ.of hP m (k+1) aa⟩;have Uf:∀(n j i:Nat),i<n->(zf j n)[i]? =some (rq1 (j+i)):=by
   intro n;induction n with
   |zero=>intro j i h;omega
   |succ n ih=>
    intro j i h;cases i with
    |zero=>rfl
    |succ i=>simp only[zf,List.getElem?_cons_succ];rw[ih (j+1) i aa];congr 2;omega
  rw[Uf _ 0 k hk,rM]at h0;cases h0
  obtain⟨vs,hle,rfl,aq⟩:=hp;simp only[AQ,Pt,vU,xk,Option.isNone_iff_eq_none]at hr;obtain rfl:vs.length=k:=by
   exact zrk
  intro F Q' hc;rw[nxi]at hc ⊢;refine hP vs L' H' aq hk _ o (kC hk) h1 F Q' λv o6 o7 J=>hc v o6 o7 ⟨vs++[v],by simp;omega,?_,J⟩;rw[List.set_append_right _ _ zP];simp only[jg,Nat.sub_self,sm,iM,jv,kS,eU,kb,oe,lP];rw[show ch.length-vs.length=(ch.length-(vs.length+1))+1 by omega,List.replicate_succ];rfl
theorem nHq(hb:PB nA C l.toArray G E n0 sp ch L H (l.drop n0) (sp.drop n0))(hi:tb n0 l sp=true){Fin:MW}:ua C l.toArray G E n0 sp ch (AT ch.length λvs=>PW C l G E D n0 sp ch Fin L H (ch.drop vs.length) vs) (l.drop n0) (sp.drop n0):=by
 refine nah _ _ λi o u h1 h2 cv L' H' J hd hP=>?_;obtain⟨vs,_,rfl,hP⟩:=hP;rw[nPk (cv':=[])]
 ·exact(hb.at i o u h1 h2).mono hP.mono
 simp only[tb,xk,xe,Bool.or_eq_true]at hi;rw[List.getElem?_drop]at h1 h2;have:=(hi (n0+i) (qe.1 h1).1).resolve_left zP;rw[h1,h2]at this;exact this
theorem nIn{Fin:MW}:eQ C l G E D n0 sp ch (zf 0 ch.length) (AT ch.length λvs=>PW C l G E D n0 sp ch Fin L H (ch.drop vs.length) vs) 0 ch:=by
 have:=eQ.of (C:=C) (l:=l) (G:=G) (E:=E) (D:=D) (n0:=n0) (sp:=sp) (ch:=ch) (Pc:=λvs=>PW C l G E D n0 sp ch Fin L H (ch.drop vs.length) vs) (λvs L' H' hP hk c o hc ho=>by
  rw[nbl hk]at hP;obtain⟨J,hc⟩:=qe.1 hc;rw[hc]at hP;have h2:=hP.2 o ho;intro F Q' h3;refine h2 F Q' λv o6 o7 h4=>h3 v o6 o7 ?_;simpa using h4) ch.length 0 aa
 simpa using this
abbrev ud (n0:Nat) (sp:Sp):Sp:=List.replicate n0 (some undef)++sp
theorem MX(n0:Nat)(sp:Sp):(ud n0 sp).drop n0=sp:=by simp[ud]
/-- a region that draws its order: a chain, and operations that do not ask for it -/
theorem eW{id:Nat}{ch:List Nat}{nA:Nat}(pb:PB nA C l.toArray G E 0 sp ch L H l sp)(k:PW C l G E D 0 sp ch (λvs L' H'=>OJ C l.toArray Q (l.drop nA) (cG l.toArray sp ch (sm vs) (List.range nA)++E) D G L' H') L H ch [] L H)(hi:tb 0 l sp=true)(gM:(C.P.follows .mixedOrders&&(ze C.N l 0 nA ch sp (zf 0 ch.length) E&&wQ l nA))=true):CJ C (.region id l.toArray true) Q E D G L H:=
 CJ.chn nA ch sp (λvs=>PW C l G E D 0 sp ch _ L H (ch.drop vs.length) vs) (nHq pb hi) nIn (λcv L' H' hl hP=>by rw[hl,List.drop_length]at hP;exact hP.2) k gM
theorem fW{ch:List Nat}{nA:Nat}(pb:PB nA C l.toArray G E n0 (ud n0 sp) ch L H (l.drop n0) sp)(k:PW C l G E D n0 (ud n0 sp) ch (λvs L' H'=>DJ C l.toArray Q nA (cG l.toArray (ud n0 sp) ch (sm vs) ((List.range nA).filter (Nat.ble n0))++E) D G L' H') L H ch [] L H)(hi:tb n0 l (ud n0 sp)=true)(gM:ze C.N l n0 nA ch (ud n0 sp) (zf 0 ch.length) E=true):DJ C l.toArray Q n0 E D G L H:=
 DJ.chn n0 nA ch (ud n0 sp) (λvs=>PW C l G E D n0 (ud n0 sp) ch _ L H (ch.drop vs.length) vs) (nHq (nA:=nA) (by rw[MX];exact pb) hi) nIn (λcv L' H' hl hP=>by rw[hl,List.drop_length]at hP;exact hP.2) k gM
theorem wN(hm:∀W,St G L' H' W->St G L0 H0 W)(h:∀F Q',(∀v J o7,PW C l G E D n0 sp ch Fin L0 H0 rest (vs++[v]) J o7->PJ C Q' .normal (wP o v (cG l.toArray sp ch (sm vs) (my n0 o)++(E++F))) D G J o7)->OJ C l.toArray Q' [o] (cG l.toArray sp ch (sm vs) (my n0 o)++(E++F)) D G L' H')(ho:l[c]? =some o:=by exact rfl):PW C l G E D n0 sp ch Fin L0 H0 (c::rest) vs L' H':=⟨hm,λo' B8=>by rw[ho]at B8;cases B8;exact h⟩
theorem wE(hm:∀W,St G L' H' W->St G L0 H0 W)(h:Fin vs L' H'):PW C l G E D n0 sp ch Fin L0 H0 [] vs L' H':=⟨hm,h⟩
inductive Dr:Nat->List Oper->List Oper->Prop
 |z {l:List Oper}:Dr 0 l l
 |s {n:Nat} {x:Oper} {l l':List Oper}:Dr n l l'->Dr (n+1) (x::l) l'
theorem Dr.eq{n:Nat}{l l':List Oper}(h:Dr n l l'):l.drop n=l':=by
 induction h with
 |z=>rfl
 |s _ ih=>exact ih
/-- the slots that the operations write are struck -/
def wrs (l:List Oper) (t:Nat):Bool:=l.any λo=>match o.dst with|some d=>Nat.beq d t|none=>false
inductive Kn (l:List Oper):Env->Env->Prop
 |nil:Kn l [] []
 |keep {t:Nat} {v:Value} {E E':Env}:wrs l t=false->Kn l E E'->Kn l ((t,v)::E) ((t,v)::E')
 |skip {t:Nat} {v:Value} {E E':Env}:wrs l t=true->Kn l E E'->Kn l ((t,v)::E) E'
variable {E':Env}
theorem Kn.look{l:List Oper}(h:Kn l E E'):∀{t v},Px.look E' t=some v->wrs l t=false/\Px.look E t=some v:=by
 induction h with
 |nil=>intro t v h;simp[Px.look]at h
 |keep h _ ih=>intro t v h2;simp only[Px.look]at h2 ⊢;split<;>simp_all
 |skip h _ ih=>intro t v h2;have h3:=ih h2;simp only[Px.look];split<;>simp_all
theorem Kn.fits{l:List Oper}(h:Kn l E E')(hF:Fits E a):Fits E' a:=λt v hv=>hF t v (h.look hv).2
variable {E':Env} {l':List Oper}
theorem eA{id:Nat}(nA:Nat)(hk:Kn (l.take nA) E E':=by exact zKn)(pb:PB nA C l.toArray G E' 0 sp [] L H l sp:=by exact zT)(hl:Dr nA l l':=by exact zDr)(k:OJ C l.toArray Q l' (cG l.toArray sp [] [] (List.range nA)++E') D G L H)(hi:tb 0 l sp=true:=by kernel_rfl)(gM:(C.P.follows .mixedOrders&&(ze C.N l 0 nA [] sp [] E'&&wQ l nA))=true:=by kernel_rfl):CJ C (.region id l.toArray true) Q E D G L H:=λa W hN hD hF hS=>eW pb (wE (λ_ h=>h) (by rw[hl.eq];exact k)) hi gM a W hN hD (hk.fits hF) hS
theorem fA(n0 nA:Nat)(hk:Kn ((l.take nA).drop n0) E E':=by exact zKn)(pb:PB nA C l.toArray G E' n0 (ud n0 sp) [] L H (l.drop n0) sp:=by exact zT)(k:DJ C l.toArray Q nA (cG l.toArray (ud n0 sp) [] [] ((List.range nA).filter (Nat.ble n0))++E') D G L H)(hi:tb n0 l (ud n0 sp)=true:=by kernel_rfl)(gM:ze C.N l n0 nA [] (ud n0 sp) [] E'=true:=by kernel_rfl):DJ C l.toArray Q n0 E D G L H:=λa W h1 h2 h3 h4=>fW pb (wE (λ_ h=>h) k) hi gM a W h1 h2 (hk.fits h3) h4
theorem eS{id:Nat}(nA c:Nat)(rest:List Nat)(hk:Kn (l.take nA) E E':=by exact zKn)(pb:PB nA C l.toArray G E' 0 sp (c::rest) L H l sp:=by exact zT)(hl:Dr nA l l':=by exact zDr)(h:∀F Q',(∀v J o7,PW C l G E' D 0 sp (c::rest) (λvs L' H'=>OJ C l.toArray Q l' (cG l.toArray sp (c::rest) (sm vs) (List.range nA)++E') D G L' H') L H rest [v] J o7->PJ C Q' .normal (wP o v (cG l.toArray sp (c::rest) [] (my 0 o)++(E'++F))) D G J o7)->OJ C l.toArray Q' [o] (cG l.toArray sp (c::rest) [] (my 0 o)++(E'++F)) D G L H)(ho:l[c]? =some o:=by exact rfl)(hi:tb 0 l sp=true:=by kernel_rfl)(gM:(C.P.follows .mixedOrders&&(ze C.N l 0 nA (c::rest) sp (zf 0 (rest.length+1)) E'&&wQ l nA))=true:=by kernel_rfl):CJ C (.region id l.toArray true) Q E D G L H:=
 λa W hN hD hF hS=>eW pb (wN (vs:=[]) (λ_ h=>h) (by rw[hl.eq];exact h) ho) hi gM a W hN hD (hk.fits hF) hS
theorem fS(n0 nA c:Nat)(rest:List Nat)(hk:Kn ((l.take nA).drop n0) E E':=by exact zKn)(pb:PB nA C l.toArray G E' n0 (ud n0 sp) (c::rest) L H (l.drop n0) sp:=by exact zT)(h:∀F Q',(∀v J o7,PW C l G E' D n0 (ud n0 sp) (c::rest) (λvs L' H'=>DJ C l.toArray Q nA (cG l.toArray (ud n0 sp) (c::rest) (sm vs) ((List.range nA).filter (Nat.ble n0))++E') D G L' H') L H rest [v] J o7->PJ C Q' .normal (wP o v (cG l.toArray (ud n0 sp) (c::rest) [] (my n0 o)++(E'++F))) D G J o7)->OJ C l.toArray Q' [o] (cG l.toArray (ud n0 sp) (c::rest) [] (my n0 o)++(E'++F)) D G L H)(ho:l[c]? =some o:=by exact rfl)(hi:tb n0 l (ud n0 sp)=true:=by kernel_rfl)(gM:ze C.N l n0 nA (c::rest) (ud n0 sp) (zf 0 (rest.length+1)) E'=true:=by kernel_rfl):DJ C l.toArray Q n0 E D G L H:=
 λa W h1 h2 h3 h4=>fW pb (wN (vs:=[]) (λ_ h=>h) h ho) hi gM a W h1 h2 (hk.fits h3) h4
/-- a region that draws its order: what is still to be shown, whichever operation comes next -/
def TW (C:Cx) (l:List Oper) (G:Gh) (E:Env) (D:List Deferred) (n0:Nat) (sp:Sp) (ch:List Nat) (rqs:List (List Nat)) (Fin:B9) (L0:List World) (H0:ae):Nat->B9
 |0,cv,L',H'=>(∀W,St G L' H' W->St G L0 H0 W)/\∃L1 H1,(∀W,St G L' H' W->St G L1 H1 W)/\Fin cv L1 H1
 |n+1,cv,L',H'=>(∀W,St G L' H' W->St G L0 H0 W)/\∀k rq c o,rqs[k]? =some rq->ch[k]? =some c->l[c]? =some o->AQ rq k cv=true->qn C l G E D n0 sp ch cv o (λv=>TW C l G E D n0 sp ch rqs Fin L0 H0 n (cv.set k (some v))) L' H'
def TL (C:Cx) (l:List Oper) (G:Gh) (E:Env) (D:List Deferred) (n0:Nat) (sp:Sp) (ch:List Nat) (rqs:List (List Nat)) (Fin:B9) (L0:List World) (H0:ae) (n:Nat) (cv:List (Option Value)) (L':List World) (H':ae):Nat->List Nat->List (List Nat)->Prop
 |k,c::cs,rq::rs=>(AQ rq k cv=true->∀o,l[c]? =some o->qn C l G E D n0 sp ch cv o (λv=>TW C l G E D n0 sp ch rqs Fin L0 H0 n (cv.set k (some v))) L' H')/\TL C l G E D n0 sp ch rqs Fin L0 H0 n cv L' H' (k+1) cs rs
 |_,_,_=>True
section
variable {rqs:List (List Nat)} {ju:B9} {L0 L' L1:List World} {H0 H' H1:ae} {n:Nat} {cs:List Nat} {rs:List (List Nat)} {rq:List Nat} {cv:List (Option Value)}
theorem TL.at:∀{cs:List Nat} {rs:List (List Nat)} {k:Nat},TL C l G E D n0 sp ch rqs ju L0 H0 n cv L' H' k cs rs->∀j rq c o,rs[j]? =some rq->cs[j]? =some c->l[c]? =some o->AQ rq (k+j) cv=true->qn C l G E D n0 sp ch cv o (λv=>TW C l G E D n0 sp ch rqs ju L0 H0 n (cv.set (k+j) (some v))) L' H'
 | [],_,_,_,j,_,_,_,_,h,_,_=>by simp at h
 |_::_,[],_,_,j,_,_,_,h,_,_,_=>by simp at h
 |c::cs,rq::rs,k,h,0,J,c',o,h1,h2,h3,h4=>by
  simp only[List.getElem?_cons_zero,Option.some.injEq]at h1 h2;subst h1;subst h2;exact h.1 h4 o h3
 |c::cs,rq::rs,k,h,j+1,J,c',o,h1,h2,h3,h4=>by
  rw[show k+(j+1)=k+1+j by omega]at h4 ⊢;exact TL.at h.2 j J c' o An Wf h3 h4
theorem tN(hm:∀W,St G L' H' W->St G L0 H0 W)(t:TL C l G E D n0 sp ch rqs ju L0 H0 n cv L' H' 0 ch rqs):TW C l G E D n0 sp ch rqs ju L0 H0 (n+1) cv L' H':=
 ⟨hm,λk rq c o h1 h2 h3 h4=>by have:=t.at k rq c o h1 h2 h3 (by rw[rM];exact h4);rwa[rM]at this⟩
theorem tE(hm:∀W,St G L' H' W->St G L0 H0 W)(hp:∀W,St G L' H' W->St G L1 H1 W)(h:ju cv L1 H1):TW C l G E D n0 sp ch rqs ju L0 H0 0 cv L' H':=⟨hm,_,_,hp,h⟩
theorem tU{c:Nat}(h:AQ rq k cv=false)(t:TL C l G E D n0 sp ch rqs ju L0 H0 n cv L' H' (k+1) cs rs):TL C l G E D n0 sp ch rqs ju L0 H0 n cv L' H' k (c::cs) (rq::rs):=⟨λg=>(by rw[h]at g;cases g),t⟩
theorem tR{c:Nat}{o:Oper}(ho:l[c]? =some o)(h:qn C l G E D n0 sp ch cv o (λv=>TW C l G E D n0 sp ch rqs ju L0 H0 n (cv.set k (some v))) L' H')(t:TL C l G E D n0 sp ch rqs ju L0 H0 n cv L' H' (k+1) cs rs):TL C l G E D n0 sp ch rqs ju L0 H0 n cv L' H' k (c::cs) (rq::rs):=
 ⟨λ_ J e=>(by rw[ho]at e;cases e;exact h),t⟩
theorem tZ:TL C l G E D n0 sp ch rqs ju L0 H0 n cv L' H' k [] rs:=trivial
theorem gK{R:Value->List World->ae->Prop}(k:Nat)(hk:∀v L H,TW C l G E D n0 sp ch rqs ju L0 H0 n (cv.set k (some v)) L H->R v L H):True:=trivial
theorem TW.mono:∀{n:Nat} {cv:List (Option Value)} {L':List World} {H':ae},TW C l G E D n0 sp ch rqs ju L0 H0 n cv L' H'->∀W,St G L' H' W->St G L0 H0 W
 |0,_,_,_,h=>h.1
 |_+1,_,_,_,h=>h.1
abbrev mW (cv:List (Option Value)):Nat:=cv.countP λx=>x.isNone
theorem nmq{v:Value}:∀{cv:List (Option Value)} {k:Nat},cv[k]? =some none->mW cv=mW (cv.set k (some v))+1
 | [],_,h=>by simp at h
 |x::cv,0,h=>by
  obtain rfl:x=none:=by simpa using h
  simp[mW,List.countP_cons]
 |x::cv,k+1,h=>by
  have ih:=nmq (v:=v) (cv:=cv) (k:=k) (by simpa using h);simp only[mW,gB,List.countP_cons]at ih ⊢;omega
theorem eQ.ofN{Ph:B9}(h:∀k rq c o,rqs[k]? =some rq->ch[k]? =some c->l[c]? =some o->∀cv L' H',cv.length=ch.length->AQ rq k cv=true->Ph cv L' H'->qn C l G E D n0 sp ch cv o (λv=>Ph (cv.set k (some v))) L' H'):∀(m k:Nat),ch.length=k+m->eQ C l G E D n0 sp ch rqs Ph k (ch.drop k)
 |0,k,e=>by rw[adt.2 aa];exact nn
 |m+1,k,e=>by
  have hk:k<ch.length:=by omega
  rw[nbl hk];exact⟨λrq o h0 h1 cv L' H' h2 h3 h4=>h k rq _ o h0 (kC hk) h1 cv L' H' h2 h3 h4,eQ.ofN h m (k+1) aa⟩
theorem tS{id:Nat}{l':List Oper}(nA:Nat)(ch:List Nat)(rqs:List (List Nat))(ju:B9)(qo:∀W,St G L H W->St G L0 H0 W:=by exact jI)(hk:Kn (l.take nA) E E':=by exact zKn)(pb:PB nA C l.toArray G E' 0 sp ch L0 H0 l sp:=by exact zT)(hl:Dr nA l l':=by exact zDr)(t:TW C l G E' D 0 sp ch rqs ju L0 H0 ch.length (ch.map λ_=>none) L H)(k:∀cv L' H',ju cv L' H'->OJ C l.toArray Q l' (cG l.toArray sp ch cv (List.range nA)++E') D G L' H')(hi:tb 0 l sp=true:=by kernel_rfl)(gM:(C.P.follows .mixedOrders&&(ze C.N l 0 nA ch sp rqs E'&&wQ l nA))=true:=by kernel_rfl):CJ C (.region id l.toArray true) Q E D G L H:=λa W hN hD hF hS=>by
 refine CJ.nt (E:=E') nA ch sp rqs (λcv L' H'=>TW C l G E' D 0 sp ch rqs ju L0 H0 (mW cv) cv L' H') ?_ (nah _ _ λi o u h1 h2 cv L' H' a6 hd hP=>?_) ?_ (λcv L' H' h1 h2 h3=>?_) gM a W hN hD (hk.fits hF) hS
 ·have:mW (ch.map λ_=>none)=ch.length:=by
   clear t gM pb k;induction ch with
   |nil=>rfl
   |cons a ch ih=>simp only[mW,jv,List.countP_cons,kb]at ih ⊢;rw[ih];rfl
  rw[this];exact t
 ·rw[nPk (cv':=[])]
  ·exact(pb.at i o u h1 h2).mono hP.mono
  simp only[tb,xk,xe,Bool.or_eq_true]at hi;have:=(hi i (qe.1 h1).1).resolve_left zP;rw[h1,h2]at this;exact this
 ·have:=eQ.ofN (C:=C) (l:=l) (G:=G) (E:=E') (D:=D) (n0:=0) (sp:=sp) (ch:=ch) (rqs:=rqs) (Ph:=λcv L' H'=>TW C l G E' D 0 sp ch rqs ju L0 H0 (mW cv) cv L' H') (λk rq c o h1 h2 h3 cv L' H' h4 h5 h6=>by
   have h7:cv[k]? =some none:=by
    simp only[AQ,vU]at h5;have h8:=h5.1;have h9:k<cv.length:=by rw[h4];exact(qe.1 h2).1
    rw[kC h9]at h8 ⊢;cases e:cv[k]with
    |none=>rfl
    |some v=>rw[e]at h8;cases h8
   have h8:∀v:Value,mW cv=mW (cv.set k (some v))+1:=λv=>nmq h7;rw[h8 undef]at h6;intro F Q' hk;refine h6.2 k rq c o h1 h2 h3 h5 F Q' λv o6 o7 h9=>hk v o6 o7 ?_;have J:mW (cv.set k (some v))=mW (cv.set k (some undef)):=by have:=h8 v;have:=h8 undef;omega
   show TW C l G E' D 0 sp ch rqs ju L0 H0 (mW (cv.set k (some v))) (cv.set k (some v)) o6 o7;rw[J];exact h9) ch.length 0 aa
  simpa using this
 have h0:mW cv=0:=by
  rw[List.countP_eq_zero];intro x hx;have:=xk.1 h2 x hx;cases x with
  |none=>exact absurd this zF
  |some v=>simp
 rw[h0]at h3;obtain⟨_,L1,H1,hm,hf⟩:=h3;rw[hl.eq];exact λa W hN hD hF hS=>k cv L1 H1 hf a W hN hD hF (hm W hS)
end
theorem St.un{w:World}(h:St G (w::L) H W):St G L H W:=h.lessL λ_ hw=>.tail _ hw
/-- as_ nSb; the number of the elements is said -/
def WT (_nA:Nat) (C:Cx) (ops:Array Oper) (G:Gh) (E:Env) (n0:Nat) (sp:Sp) (ch:List Nat) (Ph:B9) (l:List Oper) (ss:Sp):Prop:=ua C ops G E n0 sp ch Ph l ss
theorem ph(h:∀cv L' H',cv.length=ch.length->Pq ch (my n0 o) cv=true->Ph cv L' H'->X C ops G L' H' (cG ops sp ch cv (my n0 o)++E) (λ_=>True) o (λv _=>v=u))(t:WT nA C ops G E n0 sp ch Ph l tl):WT nA C ops G E n0 sp ch Ph (o::l) (some u::tl):=qc h t
theorem qtk(J:ch.any (Nat.beq (ops.size-(l.length+1)))=true)(t:WT nA C ops G E n0 sp ch Ph l tl):WT nA C ops G E n0 sp ch Ph (o::l) (none::tl):=t
theorem qtn(J:Nat.beq (ops.size-l.length) nA=true):WT nA C ops G E n0 sp ch Ph l []:=pn
theorem dN{id:Nat}(nA:Nat)(ch:List Nat)(rqs:List (List Nat))(Ph:B9)(h0:Ph (ch.map λ_=>none) L H)(pure:WT nA C l.toArray G E 0 sp ch Ph l sp)(step:eQ C l G E D 0 sp ch rqs Ph 0 ch)(fin:∀cv L' H',cv.length=ch.length->cv.all (λx=>x.isSome)=true->Ph cv L' H'->OJ C l.toArray Q (l.drop nA) (cG l.toArray sp ch cv (List.range nA)++E) D G L' H')(gM:(C.P.follows .mixedOrders&&(ze C.N l 0 nA ch sp rqs E&&wQ l nA))=true:=by kernel_rfl):CJ C (.region id l.toArray true) Q E D G L H:=CJ.nt nA ch sp rqs Ph h0 pure step fin gM
end
end Px
namespace Px
/-! plain arithmetic: products and quotients of 128 bits -/
theorem Ib(x y:Nat)(hx:x<2^64)(hy:y<2^64):(x/2^32)*(y/2^32)+((x/2^32)*(y%2^32)+(x%2^32)*(y%2^32)/2^32)/2^32+(((x/2^32)*(y%2^32)+(x%2^32)*(y%2^32)/2^32)%2^32+(x%2^32)*(y/2^32))/2^32=x*y/2^64:=by
 have h1:=Jh x (2^32);have h2:=Jh y (2^32);generalize x/2^32=x1 at *;generalize x%2^32=x0 at *;generalize y/2^32=y1 at *;generalize y%2^32=y0 at *;have e:x*y=2^64*(x1*y1)+2^32*(x1*y0)+2^32*(x0*y1)+x0*y0:=by
  rw[<-h1,<-h2];have:(2^64:Nat)=2^32*2^32:=by decide
  rw[this];simp only[IN,Nat.mul_add];have a1:2^32*x1*(2^32*y1)=2^32*2^32*(x1*y1):=by
   rw[Nat.mul_mul_mul_comm]
  have a2:2^32*x1*y0=2^32*(x1*y0):=Nat.mul_assoc _ _ _;have a3:x0*(2^32*y1)=2^32*(x0*y1):=Nat.mul_left_comm _ _ _;omega
 omega
theorem nus(u y1 y0 un q:Nat)(AV:2^31<=y1)(AW:y0<2^32)(J:un<2^32)(hq:q=u/y1):(u*2^32+un)/(y1*2^32+y0)<=q:=by
 apply Nat.le_of_lt_succ;rw[Nat.div_lt_iff_lt_mul aa];have h2:=Jh u y1;have h3:=Nat.mod_lt u (show 0<y1 by omega)
 grind
theorem neh(u y1 y0 un q r:Nat)(hr:u=q*y1+r):(r*2^32+un<q*y0)↔u*2^32+un<q*(y1*2^32+y0):=by grind
def cX (n:Nat):Nat:=if n=0 then 0 else Nat.log2 n+1
theorem nUq(n k:Nat)(h:2^k<=n):cX n=cX (n/2^k)+k:=by
 have hp:0<2^k:=Nat.two_pow_pos k;have hn:n≠0:=by omega
 have hq:n/2^k≠0:=by
  have:=Nat.div_pos h hp;omega
 unfold cX;rw[if_neg hn,if_neg hq];have:Nat.log2 n=Nat.log2 (n/2^k)+k:=by
  have h1:=Nat.log2_self_le hq;have h2:=Nat.lt_log2_self (n:=n/2^k);refine(Nat.log2_eq_iff hn).2 ⟨?_,?_⟩
  ·rw[Nat.pow_add];exact dS (BM _ h1) (Nat.div_mul_le_self n (2^k))
  rw[show Nat.log2 (n/2^k)+k+1=(Nat.log2 (n/2^k)+1)+k by omega,Nat.pow_add]
  grind [Nat.div_lt_iff_lt_mul]
 omega
theorem W4(n k:Nat)(h:n<2^k):cX n<=k:=by
 unfold cX;split
 ·omega
 rename_i hn;have:=(Nat.log2_lt hn).2 h;omega
theorem naj(n:Nat)(h:n≠0):2^(cX n-1)<=n/\n<2^cX n/\1<=cX n:=by
 simp_all[cX,Nat.log2_self_le,Nat.lt_log2_self]
/-! the quotient of 128 bits by 64 -/
theorem nnr(y:Nat)(hy:0<y)(AV:y<2^64):cX y<=64/\2^63<=y*2^(64-cX y)/\y*2^(64-cX y)<2^64:=by
 have hb:=W4 y 64 AV;obtain⟨h1,h2,h3⟩:=naj y aa;refine⟨hb,?_,?_⟩
 ·have:2^(cX y-1)*2^(64-cX y)<=y*2^(64-cX y):=BM _ h1;rw[<-Nat.pow_add,show cX y-1+(64-cX y)=63 by omega]at this;exact this
 have:y*2^(64-cX y)<2^cX y*2^(64-cX y):=Nat.mul_lt_mul_of_pos_right h2 (Nat.two_pow_pos _);rw[<-Nat.pow_add,show cX y+(64-cX y)=64 by omega]at this;exact this
theorem nap(lo s:Nat)(hs:s<=64):lo*2^s/2^64=lo/2^(64-s):=by
 have:(2:Nat)^64=2^(64-s)*2^s:=by
  have:=Nat.pow_add 2 (64-s) s;rwa[Nat.sub_add_cancel hs]at this
 grind [Nat.mul_div_mul_right]
theorem nDr(hi lo y s:Nat)(hs:s<=64)(h:hi<y)(J:lo<2^64):(hi*2^s+lo/2^(64-s))*2^64+lo*2^s%2^64=(hi*2^64+lo)*2^s/\hi*2^s+lo/2^(64-s)<y*2^s:=by
 have h1:=Jh (lo*2^s) (2^64);rw[nap lo s hs]at h1;have e:(hi*2^s+lo/2^(64-s))*2^64+lo*2^s%2^64=(hi*2^64+lo)*2^s:=by
  have e1:(hi*2^64+lo)*2^s=hi*2^s*2^64+lo*2^s:=by
   rw[IN,Nat.mul_right_comm]
  rw[e1];generalize lo*2^s=z at *;generalize hi*2^s=z' at *;omega
 have h2:(hi*2^64+lo)*2^s<(y*2^s)*2^64:=by
  have:hi*2^64+lo<y*2^64:=by
   have:(hi+1)*2^64<=y*2^64:=BM _ h;rw[IN]at this;omega
  rw[Nat.mul_right_comm];exact Nat.mul_lt_mul_of_pos_right this (Nat.two_pow_pos s)
 omega
theorem MY(u v Y r1 B:Nat)(hr:(u*B+v/B)%Y=r1):u*(B*B)+v=((u*B+v/B)/Y*B+(r1*B+v%B)/Y)*Y+(r1*B+v%B)%Y:=by
 grind [Nat.div_add_mod]
theorem ngc(u v Y r1:Nat)(hr:(u*2^32+v/2^32)%Y=r1):u*2^64+v=((u*2^32+v/2^32)/Y*2^32+(r1*2^32+v%2^32)/Y)*Y+(r1*2^32+v%2^32)%Y:=by
 have:=MY u v Y r1 (2^32) hr;rw[<-this]
theorem nec(hi lo y s Qn R:Nat)(hR:R<y*2^s)(h:(hi*2^64+lo)*2^s=Qn*(y*2^s)+R):(hi*2^64+lo)/y=Qn/\(hi*2^64+lo)%y=R/2^s:=by
 have hp:0<2^s:=Nat.two_pow_pos s;generalize hi*2^64+lo=N at *;generalize 2^s=p at *;have hy:0<y:=by
  rcases Nat.eq_zero_or_pos y with rfl|h
  ·simp at hR
  exact h
 have e:R=(N-Qn*y)*p:=by
  rw[Nat.sub_mul,Nat.mul_assoc];omega
 have hle:Qn*y<=N:=by
  apply Nat.le_of_mul_le_mul_right (c:=p) _ hp;rw[Nat.mul_assoc];omega
 have hlt:N-Qn*y<y:=by
  rw[e]at hR;exact Nat.lt_of_mul_lt_mul_right hR
 have hd:R/p=N-Qn*y:=by rw[e,Nat.mul_div_cancel _ hp]
 have hN:N=y*Qn+(N-Qn*y):=by rw[Nj y Qn];omega
 constructor
 ·rw[hN,Nat.mul_add_div hy,Nat.div_eq_of_lt hlt];rfl
 have:(y*Qn+(N-Qn*y))%y=N-Qn*y:=by rw[Nat.mul_add_mod,Nat.mod_eq_of_lt hlt]
 grind
structure tf (u y1 y0 un q r:Nat):Prop where
 eq:q*y1+r=u
 lt:r<2^32
 ge:(u*2^32+un)/(y1*2^32+y0)<=q
 le:q<=2^32+1
section
variable {u y1 y0 un q r:Nat}
theorem tf.start(AV:2^31<=y1)(aR:y1<2^32)(AW:y0<2^32)(J:un<2^32)(hu:u<y1*2^32+y0):tf u y1 y0 un (u/y1) (u%y1):=by
 have h1:=Nat.mod_lt u (show 0<y1 by omega);refine⟨?_,by omega,nus u y1 y0 un _ AV AW J rfl,?_⟩
 ·grind [Nat.div_add_mod]
 apply Nat.le_of_lt_succ;rw[Nat.div_lt_iff_lt_mul aa]
 grind
theorem tf.small(AV:2^31<=y1)(hu:u<y1*2^32+y0)(J:un<2^32):(u*2^32+un)/(y1*2^32+y0)<2^32:=by
 rw[Nat.div_lt_iff_lt_mul aa];omega
theorem tf.stop(h:tf u y1 y0 un q r)(J:2^31<=y1)(ht:q*y0<=r*2^32+un):(u*2^32+un)/(y1*2^32+y0)=q:=by
 have h1:=neh u y1 y0 un q r h.eq.symm;have h2:q*(y1*2^32+y0)<=u*2^32+un:=Nat.le_of_not_lt λhl=>by omega
 have h3:=(Nat.le_div_iff_mul_le (show 0<y1*2^32+y0 by omega)).2 h2;have:=h.ge;omega
theorem tf.more(h:tf u y1 y0 un q r)(AV:2^31<=y1)(hu:u<y1*2^32+y0)(Ps:un<2^32)(J:2^32<=q\/r*2^32+un<q*y0):1<=q/\(q-1)*y1+(r+y1)=u/\(u*2^32+un)/(y1*2^32+y0)<=q-1:=by
 have hlt:(u*2^32+un)/(y1*2^32+y0)<q:=by
  rcases J with J|J
  ·exact oh (tf.small AV hu Ps) J
  have:=(neh u y1 y0 un q r h.eq.symm).1 J;rw[Nat.div_lt_iff_lt_mul aa];exact this
 have hq:1<=q:=Nat.succ_le_of_lt (Nat.lt_of_le_of_lt (cd _) hlt);have:=h.eq;rw[Nat.sub_mul];have:y1<=q*y1:=Nat.le_mul_of_pos_left _ hq;omega
theorem nHb(hq:q<=2^32)(hr:2^32<=r)(he:q*y1+r=u)(pF:(u*2^32+un)/(y1*2^32+y0)<=q)(J:2^31<=y1)(AW:y0<2^32):(u*2^32+un)/(y1*2^32+y0)=q:=by
 have h1:=neh u y1 y0 un q r he.symm;have hb:q*y0<=2^32*(2^32-1):=Nat.mul_le_mul hq aa;have h2:q*(y1*2^32+y0)<=u*2^32+un:=Nat.le_of_not_lt λhl=>by omega
 have h3:=(Nat.le_div_iff_mul_le (show 0<y1*2^32+y0 by omega)).2 h2;omega
end
theorem MZ(a b i:Nat)(hb:b<2^i):a*2^i|||b=a*2^i+b:=by
 grind [Nat.mul_comm,Nat.two_pow_add_eq_or_of_lt]
end Px
namespace Px
open Go
theorem Nc{a b A B:Int}(ha:0<=a)(dC:a<=A)(hb:0<=b)(aW:b<=B):0<=a*b/\a*b<=A*B:=
 ⟨Int.mul_nonneg ha hb,Int.mul_le_mul dC aW hb (Int.le_trans ha dC)⟩
theorem nJs(x y:Int)(hx:0<=x)(hy:0<=y)(J:x<18446744073709551616)(AV:y<18446744073709551616):(x/4294967296)*(y/4294967296)+((x/4294967296)*(y%4294967296)+(x%4294967296)*(y%4294967296)/4294967296)/4294967296+(((x/4294967296)*(y%4294967296)+(x%4294967296)*(y%4294967296)/4294967296)%4294967296+(x%4294967296)*(y/4294967296))/4294967296=x*y/18446744073709551616:=by
 obtain⟨a,rfl⟩:=Ji hx;obtain⟨b,rfl⟩:=Ji hy;have:=Ib a b aa aa
 grind
def pG (x:Int):Int:=cX x.toNat
theorem n2q(n k:Nat):((n:Int)/2^k)=((n/2^k:Nat):Int):=by
 rfl
theorem nQo{x:Int}(k:Nat)(h:2^k<=x):pG x=pG (x/2^k)+k:=by
 have h0:0<=x:=Int.le_trans (Int.le_of_lt (Int.pow_pos zF)) h;obtain⟨n,rfl⟩:=Ji h0;unfold pG;have J:2^k<=n:=by
  have:((2^k:Nat):Int)<=n:=by simpa using h
  exact Int.ofNat_le.1 this
 rw[n2q,QS,QS,nUq n k J];simp
theorem nan{x:Int}(k:Nat)(h0:0<=x)(h:x<2^k):0<=pG x/\pG x<=k:=by simp_all[W4,pG]
theorem CV(m s:Nat)(hs:s<=64)(h:m*2^s<18446744073709551616):IntKind.u64.wrap ((m:Int)*2^(min (Int.toNat (s:Int)) IntKind.u64.bits))=((m*2^s:Nat):Int):=by
 grind [IntKind.bits,Pn]
theorem Jf(m s:Nat)(hs:s<=64):IntKind.u64.wrap ((m:Int)*2^(min (Int.toNat (s:Int)) IntKind.u64.bits))=((m*2^s%2^64:Nat):Int):=by
 grind [IntKind.bits,nz]
theorem PE(m s:Nat)(k:Int)(hk:k=((64-s:Nat):Int)):(m:Int).fdiv (2^(min (Int.toNat k) IntKind.u64.bits))=((m/2^(64-s):Nat):Int):=by
 grind [IntKind.bits]
theorem nSc(m s:Nat)(hs:s<=64):(m:Int).fdiv (2^(min (Int.toNat (s:Int)) IntKind.u64.bits))=((m/2^s:Nat):Int):=by
 grind [IntKind.bits]
theorem acL(k:Nat)(hk:k<18446744073709551616):(BitVec.ofInt IntKind.u64.bits (k:Int)).toNat=k:=by
 exact Nat.mod_eq_of_lt hk
theorem Nh(a b i:Nat)(hb:b<2^i)(h:a*2^i+b<18446744073709551616):IntKind.u64.wrap ((BitVec.ofInt IntKind.u64.bits ((a*2^i:Nat):Int)|||BitVec.ofInt IntKind.u64.bits (b:Int)).toNat:Int)=((a*2^i+b:Nat):Int):=by
 rw[BitVec.toNat_or,acL _ aa,acL _ aa,MZ a b i hb]
 grind [Pn]
theorem CW(lo s:Nat)(hs:s<=64)(h:lo<18446744073709551616):lo/2^(64-s)<2^s:=by
 rw[Nat.div_lt_iff_lt_mul (Nat.two_pow_pos _),<-Nat.pow_add,Nat.add_sub_cancel' hs];exact h
theorem nng(a b:Nat):((a:Int)/(b:Int))=((a/b:Nat):Int):=(Int.natCast_ediv a b).symm
theorem zl(m i:Nat)(k:Int)(hk:k=(i:Int))(hi:i<=64):(m:Int).fdiv (2^(min (Int.toNat k) IntKind.u64.bits))=((m/2^i:Nat):Int):=by
 grind [nSc]
end Px
namespace Px
open Go Go.RowKit
/-! #### own blocks that are forgotten -/
def Over (n:Nat):ae->Prop
 | []=>True
 |p::H=>n<=p.1/\Over n H
variable {H:ae}
theorem Over.mem{n:Nat}(h:Over n H):∀p∈H,n<=p.1:=by
 exact zjk
section
variable {G:Gh} {L:List World} {H:ae} {W:World}
theorem St.base(h:St Gh.no L H W){w:World}(hw:w∈L)(ho:Over w.heap.size H):Below w.heap.size w W:=
 (h.links w hw).below λk hk hx=>by
  rcases hx with hx|hx
  ·exact hx
  obtain⟨p,hp,rfl⟩:=dO.1 hx;have:=ho.mem p hp;omega
def Fr (G:Gh) (L:List World) (b:Nat):Prop:=G.X b\/ah L b
variable {b:Nat} {o:Obj}
theorem St.dropF(h:St G L ((b,o)::H) W)(ha:Fr G L b):St G L H W where
 ghost:=h.ghost
 vlt:=h.vlt
 xlt:=h.xlt
 links:=λw hw=>(h.links w hw).mono λk hk hx=>by
  rcases hx with hx|hx
  ·grind
  simp at hx;rcases hx with rfl|hx
  ·rcases ha with ha|ha
   ·grind
   have:=ha.mem w hw;omega
  grind
 own:=λp hp=>h.own p (List.mem_cons_of_mem _ hp)
 nodup:=λi j p q hi hj e=>by
  have:=h.nodup (i+1) (j+1) p q cM cM e;omega
 apart:=λp hp=>h.apart p (List.mem_cons_of_mem _ hp)
theorem St.drop(h:St G L ((b,o)::H) W)(ha:ah L b):St G L H W:=h.dropF (.inr ha)
theorem St.adopt(h:St G L H W)(hb:W.heap[b]? =some o)(ha:cu H b)(hV:¬G.V b):St G L ((b,o)::H) W where
 ghost:=h.ghost
 vlt:=h.vlt
 xlt:=h.xlt
 links:=λw hw=>(h.links w hw).mono λk _ hx=>hx.imp id λhx=>by simp[hx]
 own:=λp hp=>by
  simp at hp;rcases hp with rfl|hp
  ·exact hb
  exact h.own p hp
 nodup:=λi j p q hi hj e=>by
  cases i with
  |zero=>
   cases j with
   |zero=>rfl
   |succ j=>
    simp at hi hj;subst hi;exact absurd (dO.2 ⟨q,cF hj,e.symm⟩) ha.mem
  |succ i=>
   cases j with
   |zero=>
    simp at hi hj;subst hj;exact absurd (dO.2 ⟨p,cF hi,e⟩) ha.mem
   |succ j=>
    rw[h.nodup i j p q hi hj e]
 apart:=λp hp=>by
  simp at hp;rcases hp with rfl|hp
  ·exact hV
  exact h.apart p hp
end
/-! #### results -/
section
variable {C:Cx} {fn:Func} {R:Ending->World->Prop} {E:Env} {G:Gh} {L:List World} {H:ae}
def RS (C:Cx) (G:Gh) (L:List World) (H:ae) (E:Env):List ResultVar->List Value->Prop
 | [],vs=>vs=[]
 |r::rs,vs=>∃v us,vs=v::us/\(match r with
  | .tmp t=>look E t=some v
  | .cell t T=>∀a W,Fits E a->St G L H W->(do loadVar T (<-asAddr (a.tmps.getD t undef)):Sem Value).run C.P W= .ok v W)/\RS C G L H E rs us
theorem RS.run:∀{rs:List ResultVar} {vs:List Value},RS C G L H E rs vs->∀(a:Act) (W:World),Fits E a->St G L H W->(rs.mapM λr=>(match r with| .tmp t=>pure (a.tmps.getD t undef)| .cell b t=>do loadVar t (<-asAddr (a.tmps.getD b undef)):Sem Value)).run C.P W= .ok vs W
 | [],vs,h,a,W,_,_=>by cases h;simp
 |r::rs,vs,h,a,W,hF,hS=>by
  obtain⟨v,us,rfl,hr,h⟩:=h;have ih:=RS.run h a W hF hS;cases r with
  |tmp t=>
   have:=hF t v hr;simp only[Act.eval]at this;simp[-Array.getD_eq_getD_getElem?,ih,this]
  |cell b T=>
   have:=hr a W hF hS;rw[List.mapM_cons,Sem.run_bind]
   (split<;>simp_all[Array.getD_eq_getD_getElem?])
variable {rs:List ResultVar} {vs:List Value}
theorem RS.t{t:Nat}{v:Value}(h:look E t=some v)(k:RS C G L H E rs vs):RS C G L H E (.tmp t::rs) (v::vs):=⟨v,vs,rfl,h,k⟩
variable {cs:Array Value} {b i:Nat} {fr:Nat×Nat}
theorem RS.w{t T off ct:Nat}{v:Value}(hi:H[i]? =some (b,.cells cs ct fr))(hA:fp C.P T false)(hx:look E t=some (ptr b off))(hv:cs[off]? =some v)(k:RS C G L H E rs vs):RS C G L H E (.cell t T::rs) (v::vs):=
 ⟨v,vs,rfl,λa W hF hS=>by
  have:=hF t _ hx;simp[Act.eval]at this;simp[this,asAddr,nhi hA (hS.own _ (cF hi)) hv],k⟩
theorem RS.wA{t T off ct n:Nat}(hi:H[i]? =some (b,.cells cs ct fr))(hA:fp C.P T true)(hZ:nV C.P T n)(hx:look E t=some (ptr b off))(hv:off+n<=cs.size)(k:RS C G L H E rs vs):RS C G L H E (.cell t T::rs) (.agg (cut cs off n)::vs):=
 ⟨_,vs,rfl,λa W hF hS=>by
  have:=hF t _ hx;simp[Act.eval]at this;simp[this,asAddr,nbi hA hZ (hS.own _ (cF hi)) hv],k⟩
theorem RS.n:RS C G L H E [] []:=rfl
def Ug:List Value->Value
 | [v]=>v
 |vs=>.tuple vs.toArray
variable {a:Act} {W:World}
theorem RS.res(h:RS C G L H E rs vs)(hr:fn.results=rs.toArray)(hF:Fits E a)(hS:St G L H W):(results fn a.tmps).run C.P W= .ok (Ug vs) W:=by
 have:=h.run a W hF hS;unfold results;rw[hr,Sem.run_bind,List.mapM_toArray];simp only[Sem.run_map];refine(congrArg (λr=>Result.andThen (Result.andThen r _) _) this).trans ?_
 match vs with
 | []=>rfl
 | [v]=>rfl
 |v::u::vs=>rfl
theorem bH{e:Exit}(he:e= .ret\/e= .normal)(hr:fn.results=rs.toArray)(h:RS C G L H E rs vs)(hR:∀W,St G L H W->R (.returned (Ug vs)) W):PJ C (bodyPost C.P fn R) e E [] G L H:=λa W _ hD hF hS=>by
 have:bodyPost C.P fn R .ret a W:=⟨hD,_,h.res hr hF hS,hR W hS⟩;rcases he with rfl|rfl<;>exact this
theorem aS{v:Value}{w:World}{e:Exit}(he:e= .ret\/e= .normal)(hr:fn.results=rs.toArray)(h:RS C Gh.no L H E rs vs)(hw:w∈L)(ho:Over w.heap.size H)(hv:Ug vs=v):PJ C (bodyPost C.P fn (ar w v)) e E [] Gh.no L H:=bH he hr h λ_ hS=>⟨by rw[hv],hS.base hw ho⟩
/-! #### a callee that writes a block -/
def C0 (w:World) (v:Value) (b:Nat) (o:Obj):Ending->World->Prop:=λe w'=>e= .returned v/\aQ (· =b) w w'/\w'.heap[b]? =some o
variable {o:Obj}
theorem n3j{w:World}(h:w.heap[b]? =some o):St Gh.no [w] [(b,o)] w where
 ghost:=trivial
 vlt:=λ_ h=>h.elim
 xlt:=λ_ h=>h.elim
 links:=λw' hw=>by grind [aQ.refl]
 own:=λp hp=>by grind
 nodup:=λi j p q hi hj _=>by
  grind
 apart:=λ_ _ h=>h.elim
end
section
variable {C:Cx} {Q:bA} {E:Env} {D:List Deferred} {G:Gh} {L:List World} {H:ae} {ops:Array Oper} {l:List Oper}
variable {d T ty f:Nat} {pos:String} {aD:Array Edge} {g:Option (Nat×Bool)} {x y:Operand} {xs:List Operand} {vs:List Value} {eY:Array Nat}
variable {cap:List Value}
theorem nU{v:Value}(hx:ev E x=some (.func (.func f) #[] cap.toArray))(aF:fh C.P f)(hw:nr ops E g=some true)(hN:Nat.blt d C.N=true)(ha:jt E xs=some vs)(hc:∀W,St G L H W->Calls C.P f (vs++cap).toArray W (ar W v))(k:OJ C ops Q l ((d,v)::E) D G L H):OJ C ops Q (⟨some d,.call ⟨.value x,xs.toArray,eY⟩,ty,pos,aD,g⟩::l) E D G L H:=
 sZ rfl hw hx ha zP aF λa W jY hD hF hS=>(hc W hS).mono (by
  rintro e W' ⟨rfl,hb⟩;exact k (a.put (some d) v) W' mV lz (hF.put _ z2) (hS.step hb))
variable {b i:Nat} {o:Obj}
theorem UF{v:Value}{first:List Value}{J:Obj}(hi:H[i]? =some (b,o))(hx:ev E x=some (.func (.func f) first.toArray cap.toArray))(aF:fh C.P f)(hw:nr ops E g=some true)(hN:Nat.blt d C.N=true)(ha:jt E xs=some vs)(hc:∀W,St G L H W->W.heap[b]? =some o->Calls C.P f (first++vs++cap).toArray W (C0 W v b J))(k:OJ C ops Q l ((d,v)::E) D G L (H.set i (b,J))):OJ C ops Q (⟨some d,.call ⟨.value x,xs.toArray,eY⟩,ty,pos,aD,g⟩::l) E D G L H:=
 sZ rfl hw hx ha zP aF λa W jY hD hF hS=>(hc W hS (hS.own _ (cF hi))).mono (by
  rintro e W' ⟨rfl,hk,hb⟩;exact k (a.put (some d) v) W' mV lz (hF.put _ z2) (hS.put hi hk hb))
variable {H':ae}
theorem OJ.reH(e:H=H')(k:OJ C ops Q l E D G L H'):OJ C ops Q l E D G L H:=by grind
theorem CJ.reH{c:Code}(e:H=H')(k:CJ C c Q E D G L H'):CJ C c Q E D G L H:=by grind
theorem PJ.reH{J:Exit}(e:H=H')(k:PJ C Q J E D G L H'):PJ C Q J E D G L H:=by grind
variable {e:Nat}
/-! #### values -/
theorem lQ{base:Option Addr}{n c:Nat}{t:Nat}(hU:C.P.underlying t=some (.slice e))(hx:ev E x=some (.slice base n c)):RV C G L H E (.call ⟨.builtin .len,#[x],#[t]⟩) (.int .i64 (n:Int)):=λd ty pos aD g a W hF _=>by
 simp[execOp,hF.ev hx,resolve,invoke,builtin,Builtin.len_,run_underlying hU,goInt]
end
section
variable {C:Cx} {Q:bA} {E:Env} {D:List Deferred} {G:Gh} {L:List World} {H:ae} {ops:Array Oper} {l:List Oper}
variable {d T ty f:Nat} {pos:String} {aD:Array Edge} {g:Option (Nat×Bool)} {x y:Operand} {xs:List Operand} {vs:List Value} {eY:Array Nat}
def M1 (E:Env):List (Nat×Operand)->Option (List (Nat×Value))
 | []=>some []
 |(i,x)::ps=>match ev E x,M1 E ps with
  |some v,some vs=>some ((i,v)::vs)
  |_,_=>none
theorem Uh{a:Act}(h:Fits E a):∀(ps:List (Nat×Operand)) (vs:List (Nat×Value)),M1 E ps=some vs->ps.map (λ(i,x)=>(i,a.eval x))=vs
 | [],vs,e=>by cases e;rfl
 |(i,x)::ps,vs,e=>by
  simp[M1]at e;split at e
  ·rename_i v us hv J;cases e
   simp[h.ev hv,Uh h ps us J]
  cases e
theorem Ic(xs:List Value):∀(cs:Array Value) (off k:Nat),(xs.zipIdx k).foldl (λcs (c,j)=>cs.setIfInBounds (off+j) c) cs=setCells cs (off+k) xs:=by
 induction xs with
 |nil=>intro cs off k;rfl
 |cons x xs ih=>intro cs off k;exact ih _ off (k+1)
theorem nws(xs cs:Array Value)(off:Nat):xs.zipIdx.foldl (λcs (c,j)=>cs.setIfInBounds (off+j) c) cs=setCells cs off xs.toList:=by
 rw[<-Array.foldl_toList];simp_all[Ic]
def kp:List Value->Nat->List Value->List Value
 | [],_,_=>[]
 |c::cs,0,[]=>c::cs
 |_::cs,0,x::xs=>x::kp cs 0 xs
 |c::cs,n+1,xs=>c::kp cs n xs
theorem nqj(cs:List Value)(n:Nat):kp cs n []=cs:=by
 induction cs generalizing n with
 |nil=>rfl
 |cons c cs ih=>cases n<;>grind [kp]
theorem Ie(cs:List Value)(x:Value)(xs:List Value):∀n,kp (cs.set n x) (n+1) xs=kp cs n (x::xs):=by
 induction cs with
 |nil=>intro n;rfl
 |cons c cs ih=>intro n;cases n<;>grind [kp]
theorem U5(xs:List Value):∀(cs:Array Value) (off:Nat),(setCells cs off xs).toList=kp cs.toList off xs:=by induction xs<;>grind [nqj,setCells,Ie]
theorem Ig(cs xs:Array Value)(h:cs.size=xs.size):setCells cs 0 xs.toList=xs:=by
 apply Array.ext';rw[U5];have key:∀(l r:List Value),l.length=r.length->kp l 0 r=r:=by
  intro l;induction l with
  |nil=>grind [kp]
  |cons c l ih=>intro r h;cases r<;>grind [kp]
 grind
variable {cs:Array Value} {b i:Nat}
theorem fE{t n:Nat}{v:Value}(hi:H[i]? =some (b,.cells cs t (0,0)))(hZ:nV C.P T n)(hw:nr ops E g=some true)(hx:ev E x=some (ptr b 0))(hy:ev E y=some v)(hv:v.cells.size=n)(hn:cs.size=n)(h1:rK v.cells.toList=true)(k:OJ C ops Q l E D G L (H.set i (b,.cells v.cells t (0,0)))):OJ C ops Q (⟨none,.store T x y,ty,pos,aD,g⟩::l) E D G L H:=
 lG hi hZ hw hx hy hv aa h1 (by grind [Ig])
def M3 (pl:Nat->Option (Nat×Nat)):List Value->List (Nat×Value)->Option (List Value)
 |cs,[]=>some cs
 |cs,(i,v)::ps=>match pl i with
  |none=>none
  |some (off,n)=>match Nat.beq v.cells.size n&&Nat.ble (off+n) cs.length with
   |true=>M3 pl (kp cs off v.cells.toList) ps
   |false=>none
theorem Ui{pl:Nat->Option (Nat×Nat)}:∀{ps:List (Nat×Value)} {cs:Array Value} {ds:List Value},M3 pl cs.toList ps=some ds->Instr.fill pl cs ps=some ds.toArray
 | [],cs,ds,h=>by simp[M3]at h;subst h;rfl
 |(i,v)::ps,cs,ds,h=>by
  simp[M3]at h;unfold Instr.fill;cases hp:pl i with
  |none=>grind
  |some q=>
   obtain⟨off,n⟩:=q;rw[hp]at h;simp only at h ⊢;split at h
   ·rename_i hb;simp at hb;have h2:off+n<=cs.size:=by simpa using hb.2
    rw[if_neg mZ,nws];exact Ui (by rw[U5];exact h)
   grind
def wR:Nat->List Value->List (Nat×Value)
 |_,[]=>[]
 |k,v::vs=>(k,v)::wR (k+1) vs
def I8:List Value->List Value
 | []=>[]
 |v::vs=>v.cells.toList++I8 vs
def Pu (m:Nat):List Value->Bool
 | []=>true
 |v::vs=>Nat.beq v.cells.size m&&Pu m vs
theorem nEf(a b c xs:List Value)(h:xs.length=b.length):kp (a++(b++c)) a.length xs=a++(xs++c):=by
 induction a with
 |nil=>
  induction b generalizing xs with
  |nil=>grind [nqj]
  |cons y b ih=>
   cases xs<;>grind [kp]
 |cons y a ih=>grind [kp]
theorem nHf(m:Nat):∀(vs:List Value) (k:Nat) (a c:List Value),Pu m vs=true->a.length=k*m->c.length=vs.length*m->M3 (λi=>some (i*m,m)) (a++c) (wR k vs)=some (a++I8 vs)
 | [],k,a,c,_,_,hc=>by
  simp_all[M3,wR,I8,Pu]
 |v::vs,k,a,c,hs,ha,hc=>by
  simp[Pu]at hs;simp[IN]at hc;simp[wR,M3];have hv:v.cells.toList.length=m:=by simpa using hs.1
  obtain⟨b,J,rfl,hb⟩:∃b J,c=b++J/\b.length=m:=⟨c.take m,c.drop m,(J2 m c).symm,by simp;omega⟩;have ht:(Nat.beq v.cells.size m&&Nat.ble (k*m+m) (a++(b++J)).length)=true:=by
   simp only[vU,Nat.beq_eq,Nat.ble_eq,eU]at *;omega
  rw[<-ha,nEf a b J _ aa];simp at hc;have:=nHf m vs (k+1) (a++v.cells.toList) J hs.2 cM aa
  grind [I8]
def ec (P:Program):List Field->List (Nat×Nat)->Prop
 | [],ps=>ps=[]
 |f::fs,ps=>∃n qs,ps=(f.offset,n)::qs/\nV P f.type n/\ec P fs qs
theorem ec.n{P:Program}:ec P [] []:=rfl
theorem ec.c{P:Program}{J:Field}{fs:List Field}{n:Nat}{qs:List (Nat×Nat)}(h:nV P J.type n)(k:ec P fs qs):ec P (J::fs) ((J.offset,n)::qs):=⟨n,qs,rfl,h,k⟩
theorem ec.run{P:Program}(W:World):∀{fs:List Field} {ps:List (Nat×Nat)},ec P fs ps->(fs.mapM λf=>Functor.map (Prod.mk f.offset) (sizeOf f.type):Sem _).run P W= .ok ps W
 | [],ps,h=>by cases h;simp
 |f::fs,ps,h=>by
  obtain⟨n,J,rfl,hn,h⟩:=h;simp[hn W,ec.run W h]
variable {ps:List (Nat×Operand)} {z:Value}
theorem jE{fs:List Field}{vs:List (Nat×Value)}{pl:List (Nat×Nat)}{cs:List Value}(hU:C.P.underlying T=some (.struct fs.toArray))(hz:zc C.P T z)(hp:ec C.P fs pl)(ha:M1 E ps=some vs)(J:M3 (pl[·]?) z.cells.toList vs=some cs):RV C G L H E (.build T ps.toArray) (.agg cs.toArray):=λd ty pos aD g a W hF _=>by
 have hf:=Ui J;have h2:(ps.toArray).map (λ(i,x)=>(i,a.eval x))=vs.toArray:=by rw[CS,Uh hF ps vs ha]
 have h3:=hp.run W;simp_all[execOp,Instr.build,run_underlying]
variable {e m:Nat}
theorem uB{n:Nat}{vs:List (Nat×Value)}{cs:List Value}(hU:C.P.underlying T=some (.array n e))(hz:zc C.P T z)(hp:nV C.P e m)(ha:M1 E ps=some vs)(J:M3 (λi=>some (i*m,m)) z.cells.toList vs=some cs):RV C G L H E (.build T ps.toArray) (.agg cs.toArray):=λd ty pos aD g a W hF _=>by
 have hf:=Ui J;have h2:(ps.toArray).map (λ(i,x)=>(i,a.eval x))=vs.toArray:=by rw[CS,Uh hF ps vs ha]
 simp_all[execOp,Instr.build,run_underlying]
variable {a:Act} {W:World}
theorem npe{P:Program}{n:Nat}{vs:List (Nat×Value)}(hU:P.underlying T=some (.slice e))(hp:nV P e m)(hz:zc P e z)(ha:ps.map (λ(i,x)=>(i,a.eval x))=vs)(Uj:Nat.ble (n*m) 16777216=true)(hf:Instr.fill (λi=>some (i*m,m)) ((Array.range (n*m)).map (λj=>((if n*m=0 then #[]else z.cells)[j%(if n*m=0 then #[]else z.cells).size]!))) vs=some cs):(execOp a.eval ⟨some d,.buildSlice T n ps.toArray,ty,pos,aD,g⟩).run P W= .ok (.value (.slice (some ⟨W.heap.size,0,none⟩) n n)) (W.alloc (.cells cs e (0,0))):=by
 have h2:(ps.toArray).map (λ(i,x)=>(i,a.eval x))=vs.toArray:=by rw[CS,ha]
 have J:¬(n*m>2^24):=by have:=fy Uj;omega
 by_cases h0:n*m=0
 ·simp[execOp,Instr.buildSlice,run_underlying hU,newRow];simp_all[Sem.run]
 rw[if_neg h0]at hf;simp[execOp,h2,Instr.buildSlice,run_underlying hU,hp W,if_neg J,if_neg h0,hz W,hf];rfl
theorem Dg{n:Nat}{vs:List (Nat×Value)}(hU:C.P.underlying T=some (.slice e))(hp:nV C.P e m)(hz:zc C.P e z)(hw:nr ops E g=some true)(hN:Nat.blt d C.N=true)(ha:M1 E ps=some vs)(J:Nat.ble (n*m) 16777216=true)(hs:vs=wR 0 (vs.map (·.2)))(hl:vs.length=n)(hm:Pu m (vs.map (·.2))=true)(k:∀(b:Nat) (w1:World),w1.heap[b]? =some (.cells (I8 (vs.map (·.2))).toArray e (0,0))->ah L b->cu H b->¬G.X b->w1.heap.size=b+1->OJ C ops Q l ((d,.slice (some ⟨b,0,none⟩) n n)::E) D G (w1::L) H):OJ C ops Q (⟨some d,.buildSlice T n ps.toArray,ty,pos,aD,g⟩::l) E D G L H:=
 rF zP hw hN λa W hF hS=>⟨_,_,_,_,npe hU hp hz (Uh hF ps vs ha) J (Ui (by
  have:=nHf m (vs.map (·.2)) 0 [] ((Array.range (n*m)).map (λj=>((if n*m=0 then #[]else z.cells)[j%(if n*m=0 then #[]else z.cells).size]!))).toList hm zP cM
  grind)),(hS.step (nrd W _)).snap,
  k W.heap.size _ (heap_alloc_new W _) hS.sizes hS.offNew hS.mNew zP⟩
variable {K:IntKind}
theorem uj{n:Nat}{i:Int}{v:Value}(hU:C.P.underlying T=some (.array n e))(hA:fp C.P e false)(hZ:nV C.P e m)(hx:ev E x=some (.agg cs))(hy:ev E y=some (.int K i))(h0:0<=i)(h1:i<n)(hv:cs[i.toNat*m]? =some v):RV C G L H E (.index T x y) v:=λd ty pos aD g a W hF _=>by
 simp[execOp,hF.ev hx,hF.ev hy,Instr.index,asIntOf,run_underlying hU,h0,h1,hZ W,part,hA W,hv]
end
/-! #### numbers of 32 bits -/
abbrev u32 (x:BitVec 32):Value:=.int .u32 (x.toNat:Int)
theorem w32(x:BitVec 32):IntKind.u32.wrap (x.toNat:Int)=(x.toNat:Int):=by
 rw[nYh];omega
theorem zg(x:BitVec 32):BitVec.ofInt IntKind.u32.bits (x.toNat:Int)=x:=by
 show BitVec.ofInt 32 (x.toNat:Int)=x;simp
section
variable {C:Cx} {E:Env} {G:Gh} {L:List World} {H:ae} {T U:Nat} {x y:Operand} {a b:BitVec 32}
section
variable (hx:ev E x=some (u32 a))(hy:ev E y=some (u32 b))
include hx hy
theorem ee:RV C G L H E (.binOp .add T x y U) (u32 (a+b)):=
 RV.re (o4 hx hy) (congrArg (Value.int .u32) pP)
theorem fC:RV C G L H E (.binOp .xor T x y U) (u32 (a^^^b)):=
 RV.re (xN hx hy) (congrArg (Value.int .u32) (by rw[zg,zg];exact w32 (a^^^b)))
theorem oG:RV C G L H E (.binOp .and T x y U) (u32 (a&&&b)):=
 RV.re (xH hx hy) (congrArg (Value.int .u32) (by rw[zg,zg];exact w32 (a&&&b)))
theorem pg:RV C G L H E (.binOp .or T x y U) (u32 (a|||b)):=
 RV.re (zi hx hy) (congrArg (Value.int .u32) (by rw[zg,zg];exact w32 (a|||b)))
end
theorem PV(hx:ev E x=some (u32 a)):RV C G L H E (.unOp .xor T x) (u32 (~~~ a)):=
 RV.re (TY hx) (congrArg (Value.int .u32) (by
  rw[zg];exact w32 (BitVec.allOnes 32^^^a)))
variable {K':IntKind}
section
variable (j:Nat)(hj:j<=32){n:Int}(hn:n=(j:Int))(hx:ev E x=some (u32 a))(hy:ev E y=some (.int K' n))
include hj hn hx hy
theorem oB:RV C G L H E (.binOp .shl T x y U) (u32 (a<<<j)):=by
 subst hn;refine RV.re (qD hx hy (Int.natCast_nonneg _)) (congrArg (Value.int .u32) ?_)
 grind [IntKind.bits,nYh,Nat.shiftLeft_eq]
theorem oD:RV C G L H E (.binOp .shr T x y U) (u32 (a>>>j)):=by
 subst hn;refine RV.re (lB hx hy (Int.natCast_nonneg _)) (congrArg (Value.int .u32) ?_)
 grind [IntKind.bits,Nat.shiftRight_eq_div_pow]
end
variable {K:IntKind}
theorem qG{S T':Nat}{ds:TypeDesc}{m:Int}(H5:C.P.underlying S=some ds)(hT:C.P.underlying T'=some (.int .u32))(hx:ev E x=some (.int K m)):RV C G L H E (.convert S T' x) (u32 (BitVec.ofInt 32 m)):=
 RV.re (kz H5 hT hx) (congrArg (Value.int .u32) (by rw[nYh,BitVec.toNat_ofInt];omega))
end
def xI (v:BitVec 32) (n:Nat):BitVec 32:=v>>>n|||v<<<(32-n)
/-! #### cells by a function -/
def cf (n:Nat) (f:Nat->Value):Array Value:=((List.range n).map f).toArray
theorem Nz(n:Nat)(f:Nat->Value)(i:Nat)(h:i<n):(cf n f)[i]? =some (f i):=by simp[cf,h]
theorem nZ(n:Nat)(f:Nat->Value):(cf n f).size=n:=by simp[cf]
def Ip {α:Type} (f:Nat->α) (i:Nat) (v:α):Nat->α:=λj=>if j=i then v else f j
theorem UJ(n:Nat)(f:Nat->Value)(i:Nat)(v:Value):setCells (cf n f) i [v]=cf n (Ip f i v):=by
 apply Array.ext';rw[U5];simp[cf];apply xL;have key:∀(l:List Value) (k:Nat),kp l k [v]=l.set k v:=by
  intro l;induction l with
  |nil=>intro k;rfl
  |cons c l ih=>intro k;cases k<;>grind [kp,nqj]
 grind [Ip]
theorem njh{n:Nat}{f g:Nat->Value}(h:∀i,i<n->f i=g i):cf n f=cf n g:=by grind [cf]
/-! #### SHA-256, as_ numbers -/
def aod:List (BitVec 32):=[1116352408,1899447441,3049323471,3921009573,961987163,1508970993,2453635748,2870763221,3624381080,310598401,607225278,1426881987,1925078388,2162078206,2614888103,3248222580,3835390401,4022224774,264347078,604807628,770255983,1249150122,1555081692,1996064986,2554220882,2821834349,2952996808,3210313671,3336571891,3584528711,113926993,338241895,666307205,773529912,1294757372,1396182291,1695183700,1986661051,2177026350,2456956037,2730485921,2820302411,3259730800,3345764771,3516065817,3600352804,4094571909,275423344,430227734,506948616,659060556,883997877,958139571,1322822218,1537002063,1747873779,1955562222,2024104815,2227730452,2361852424,2428436474,2756734187,3204031479,3329325298]
def kk (i:Nat):BitVec 32:=aod.getD i 0
def aoe:List (BitVec 32):=[1779033703,3144134277,1013904242,2773480762,1359893119,2600822924,528734635,1541459225]
def hh (i:Nat):BitVec 32:=aoe.getD i 0
def Ny (m:Nat->Int) (o:Nat):BitVec 32:=BitVec.ofInt 32 (m o)<<<24|||BitVec.ofInt 32 (m (o+1))<<<16|||BitVec.ofInt 32 (m (o+2))<<<8|||BitVec.ofInt 32 (m (o+3))
def s0 (x:BitVec 32):BitVec 32:=xI x 7^^^xI x 18^^^x>>>3
def s1 (x:BitVec 32):BitVec 32:=xI x 17^^^xI x 19^^^x>>>10
def dU (m:Nat->Int):Nat->Nat->BitVec 32
 |0=>λ_=>0
 |n+1=>Ip (dU m n) n (if n<16 then Ny m (4*n)else dU m n (n-16)+s0 (dU m n (n-15))+dU m n (n-7)+s1 (dU m n (n-2)))
structure S8 where
 a:BitVec 32
 b:BitVec 32
 c:BitVec 32
 d:BitVec 32
 e:BitVec 32
 f:BitVec 32
 g:BitVec 32
 h:BitVec 32
def chf (e f g:BitVec 32):BitVec 32:=(e&&&f)^^^((~~~ e)&&&g)
def maj (a b c:BitVec 32):BitVec 32:=(a&&&b)^^^(a&&&c)^^^(b&&&c)
theorem Jt(e f g:BitVec 32):g^^^(e&&&(f^^^g))=chf e f g:=by grind [chf]
theorem Ju(a b c:BitVec 32):(a&&&b)|||(c&&&(a|||b))=maj a b c:=by grind [maj]
def S8.P (s:S8) (k w:BitVec 32):BitVec 32:=s.h+(xI s.e 6^^^xI s.e 11^^^xI s.e 25)+chf s.e s.f s.g+k+w
def S8.Q (s:S8):BitVec 32:=(xI s.a 2^^^xI s.a 13^^^xI s.a 22)+maj s.a s.b s.c
def S8.step (s:S8) (k w:BitVec 32):S8:=⟨s.P k w+s.Q,s.a,s.b,s.c,s.d+s.P k w,s.e,s.f,s.g⟩
def S8.run (w:Nat->BitVec 32) (s:S8):Nat->S8
 |0=>s
 |n+1=>(S8.run w s n).step (kk n) (w n)
def S8.add (s t:S8):S8:=⟨s.a+t.a,s.b+t.b,s.c+t.c,s.d+t.d,s.e+t.e,s.f+t.f,s.g+t.g,s.h+t.h⟩
def S8.comp (s:S8) (m:Nat->Int):S8:=s.add (s.run (dU m 64) 64)
def S8.at (s:S8):Nat->BitVec 32
 |0=>s.a|1=>s.b|2=>s.c|3=>s.d|4=>s.e|5=>s.f|6=>s.g|_=>s.h
def S8.cells (s:S8):Array Value:=#[u32 s.a,u32 s.b,u32 s.c,u32 s.d,u32 s.e,u32 s.f,u32 s.g,u32 s.h]
def S8.init:S8:=⟨1779033703,3144134277,1013904242,2773480762,1359893119,2600822924,528734635,1541459225⟩
def bK (n:Nat):Nat:=(n+72)/64
def fj (n:Nat) (m:Nat->Int) (i:Nat):Int:=
 if i<n then m i else if i=n then 128 else if i<64*bK n-8 then 0 else((8*n/2^(8*(64*bK n-1-i)):Nat):Int)%256
def lM (n:Nat) (m:Nat->Int):Nat->S8
 |0=>S8.init
 |j+1=>(lM n m j).comp (λi=>fj n m (64*j+i))
def uq (s:S8) (i:Nat):Int:=((s.at (i/4)).toNat/2^(24-8*(i%4))%256:Nat)
def rL (n:Nat) (m:Nat->Int):Nat->Int:=uq (lM n m (bK n))
theorem Jv(n:Nat)(m:Nat->Int):∀i,0<=rL n m i/\rL n m i<256:=λi=>by unfold rL uq;omega
theorem S8.cells_cf(s:S8):s.cells=cf 8 (λi=>u32 (s.at i)):=rfl
theorem S8.cells_at(s:S8)(i:Nat)(h:i<8):s.cells[i]? =some (u32 (s.at i)):=by grind [S8.cells_cf,Nz]
theorem Uk{α:Type}:∀(H:List α) (i:Nat) (p:α),H[i]? =some p->H.Perm (p::H.eraseIdx i)
 | [],i,p,h=>by simp at h
 |q::H,0,p,h=>by simp_all
 |q::H,i+1,p,h=>by
  exact((Uk H i p h).cons q).trans (List.Perm.swap _ _ _)
theorem nHg{α:Type}:∀(H:List α) (i:Nat) (q:α),i<H.length->(H.set i q).Perm (q::H.eraseIdx i)
 | [],i,q,h=>by simp at h
 |r::H,0,q,_=>by simp
 |r::H,i+1,q,h=>by
  exact((nHg H i q cM).cons r).trans (List.Perm.swap _ _ _)
section
variable {G:Gh} {L:List World} {H:ae} {W:World}
variable {b i:Nat} {o:Obj}
theorem St.renew(h:St G L H W)(J:Obj)(hi:H[i]? =some (b,o))(ha:ah L b):St G L (H.set i (W.heap.size,J)) (W.alloc J):=by
 have wD:=(qe.1 hi).1;have hp:H.Perm ((b,o)::H.eraseIdx i):=Uk H i _ hi;have h1:=(h.perm hp).drop ha;exact(h1.alloc J).perm (nHg H i _ wD).symm
theorem St.dropAt(h:St G L H W)(hi:H[i]? =some (b,o))(ha:ah L b):St G L (H.eraseIdx i) W:=by
 have hp:H.Perm ((b,o)::H.eraseIdx i):=Uk H i _ hi;exact(h.perm hp).drop ha
end
def Rd (C:Cx) (G:Gh) (L:List World) (H:ae) (size n:Nat) (v:Value) (news:List Value):Prop:=
 ∀W,St G L H W->(Builtin.firstCells size n v).run C.P W= .ok news.toArray W
section
variable {C:Cx} {Q:bA} {E:Env} {D:List Deferred} {G:Gh} {L:List World} {H:ae} {ops:Array Oper} {l:List Oper}
variable {d T ty f:Nat} {pos:String} {aD:Array Edge} {g:Option (Nat×Bool)} {x y:Operand} {xs:List Operand} {vs:List Value} {eY:Array Nat}
variable {cs:Array Value} {b k:Nat} {fr:Nat×Nat} {W:World}
theorem n7j{P:Program}{off size n c t:Nat}(h:W.heap[b]? =some (.cells cs t fr))(hn:off+n*size<=cs.size):(Builtin.firstCells size n (.slice (some ⟨b,off,none⟩) k c)).run P W= .ok (cut cs off (n*size)) W:=by
 simp[Builtin.firstCells];rw[nqh h hn,nTi]
variable {news:List Value} {i:Nat}
theorem Rd.own{size n off c t:Nat}(hi:H[i]? =some (b,.cells cs t fr))(hn:off+n*size<=cs.size)(he:(cs.toList.drop off).take (n*size)=news):Rd C G L H size n (.slice (some ⟨b,off,none⟩) k c) news:=λW hS=>by rw[n7j (hS.own _ (cF hi)) hn];grind [cut]
variable {w1:World}
theorem Rd.old{size n off c t:Nat}(hm:w1∈L)(hb:w1.heap[b]? =some (.cells cs t fr))(hG:¬G.X b)(hO:cu H b)(hn:off+n*size<=cs.size)(he:(cs.toList.drop off).take (n*size)=news):Rd C G L H size n (.slice (some ⟨b,off,none⟩) k c) news:=λW hS=>by rw[n7j (hS.old hm hb hG hO) hn];grind [cut]
variable {s:ByteArray}
theorem Rd.str:Rd C G L H 1 s.size (.string s) (byteCells s):=λW _=>firstCells_string s W
structure ib (C:Cx) (G:Gh) (L:List World) (H:ae) (size tx:Nat) (x:Value) (n:Nat) (news:List Value):Prop where
 kind:(∃e',C.P.underlying tx=some (.slice e'))\/C.P.underlying tx=some .string
 len:∀w':World,(Builtin.lenOf x).run C.P w'= .ok n w'
 rd:Rd C G L H size n x news
 newsLen:news.length=n*size
 one:∀u∈news,u.oneCell'=true
theorem ib.src{size J:Nat}{v:Value}{n:Nat}(h:ib C G L H size J v n news)(hS:St G L H W):Src C.P size J v n news W:=
 ⟨h.kind,h.len,h.rd W hS,h.rd W.drew (hS.step (IC W _)),h.newsLen,h.one⟩
theorem ib.sl{size tx J n c:Nat}{a:Option Addr}(hU:C.P.underlying tx=some (.slice J))(hr:Rd C G L H size n (.slice a n c) news)(hl:news.length=n*size)(h1:∀u∈news,u.oneCell'=true):ib C G L H size tx (.slice a n c) n news:=⟨.inl ⟨J,hU⟩,λ_=>rfl,hr,hl,h1⟩
theorem nSe(b:Nat):∀(news:List Value) (o:Nat) (W:World) (cs:Array Value) (t:Nat),W.heap[b]? =some (.cells cs t (0,0))->aQ (· =b) W (W.setCells b o news)/\(W.setCells b o news).heap[b]? =some (.cells (setCells cs o news) t (0,0))
 | [],o,W,cs,t,h=>⟨aQ.refl _ _,h⟩
 |v::vs,o,W,cs,t,h=>by
  obtain⟨h1,h2⟩:=nSe b vs (o+1) (W.setCell ⟨b,o,none⟩ v) _ t (n6h v h);exact⟨(n0h W b o v).trans h1,h2⟩
variable {e m:Nat} {z:Value}
theorem vG{n len cap t J:Nat}{ti:TypeInfo}{sv:Value}{ys sp:List Value}(hi:H[i]? =some (b,.cells (ys++sp).toArray e (0,0)))(hU:C.P.underlying t=some (.slice e))(qC:C.P.info? e=some ti)(hz:ti.zero=some z)(hm:ti.size=m)(IG:z.cells.size=m)(hw:nr ops E g=some true)(hN:Nat.blt d C.N=true)(hx:ev E x=some (.slice (some ⟨b,0,none⟩) len cap))(hy:ev E y=some sv)(hs:ib C G L H m J sv n news)(hlen:ys.length=len*m)(zu:sp.length=(cap-len)*m)(b0:len<=cap)(ha:ah L b)(cz:len+n<=9223372036854775807)(vc:(len+n)*ti.bytes<=140737488355328)(k:∀(b' aR:Nat) (cq:List Value),ah L b'->len+n<=aR->cq.length=(aR-(len+n))*m->OJ C ops Q l ((d,.slice (some ⟨b',0,none⟩) (len+n) aR)::E) D G L (H.set i (b',.cells (ys++news++cq).toArray e (0,0)))):OJ C ops Q (⟨some d,.call ⟨.builtin .append,#[x,y],#[t,J]⟩,ty,pos,aD,g⟩::l) E D G L H:=
 rF zP hw hN λa W hF hS=>by
  subst hm;have wS:=hs.src hS;have hb:=hS.own _ (cF hi);have hex:∀{v W'},(Builtin.append_ #[t,J] ty #[.slice (some ⟨b,0,none⟩) len cap,sv]).run C.P W= .ok v W'->(execOp a.eval ⟨some d,.call ⟨.builtin .append,#[x,y],#[t,J]⟩,ty,pos,aD,g⟩).run C.P W= .ok (.value v) W':=by
   intro v W' hr;simp[execOp,hF.ev hx,hF.ev hy,resolve,invoke,Deferred.ofValue,builtin,hr]
  have Cy:=hs.newsLen;by_cases lA:len+n<=cap
  ·have hle:(len+n)*ti.size<=cap*ti.size:=BM _ lA;have kr:(ys++sp).toArray.size=cap*ti.size:=by
    simp only[act,eU,hlen,zu];rw[<-IN];congr 1;omega
   have hr:=run_append_room_src (P:=C.P) W t J ty e ti hU qC b 0 len cap sv n news wS lA
    (λj hj=>by rw[fb hb];grind)
    (λj hj=>by simp[World.frozen?,hb])
   obtain⟨h1,h2⟩:=nSe b news (0+len*ti.size) W _ _ hb;have ur:(sp.drop (n*ti.size)).length=(cap-(len+n))*ti.size:=by
    rw[yp,zu,<-Nat.sub_mul];congr 1;omega
   have hc:setCells (ys++sp).toArray (0+len*ti.size) news=(ys++news++sp.drop (n*ti.size)).toArray:=by
    exact zyj
   rw[hc]at h2;exact⟨_,_,_,_,hex hr,hS.put hi h1 h2,k b cap _ ha lA ur⟩
  have hold:(Builtin.firstCells ti.size len (.slice (some ⟨b,0,none⟩) len cap)).run C.P W.drew= .ok ys.toArray W.drew:=by
   exact zRj
  have hr:=run_append_grow_src (P:=C.P) W t J ty e ti z hU qC hz (some ⟨b,0,none⟩) len cap ys hold sv n news wS aa aa (growslice_fits aa vc);have hg:=grownCap_ge W (len+n) cap e;have gW:=(hS.step (IC W (W.drawn+1))).renew (.cells ((ys++news).toArray++Builtin.zeroCells z.cells (grownCap W (len+n) cap e-(len+n))) e (0,0)) hi ha;have Vq:(Builtin.zeroCells z.cells (grownCap W (len+n) cap e-(len+n))).toList.length=(grownCap W (len+n) cap e-(len+n))*ti.size:=by
   simp[Builtin.zeroCells,IG]
  have hc:(ys++news).toArray++Builtin.zeroCells z.cells (grownCap W (len+n) cap e-(len+n))=(ys++news++(Builtin.zeroCells z.cells (grownCap W (len+n) cap e-(len+n))).toList).toArray:=by
   apply Array.ext';simp
  rw[hc]at gW hr;exact⟨_,_,_,_,hex hr,gW,k W.heap.size _ _ hS.sizes hg Vq⟩
def BE (E:Env):Option Operand->Nat->Nat->Prop
 |none,d,l=>l=d
 |some o,_,l=>∃K i,ev E o=some (.int K i)/\i=(l:Int)
variable {a:Act}
theorem BE.val(hF:Fits E a):∀{lo:Option Operand} {J l:Nat},BE E lo J l->(lo.map a.eval=none/\l=J)\/∃K,lo.map a.eval=some (.int K (l:Int))
 |none,_,_,h=>.inl ⟨rfl,h⟩
 |some o,_,_,h=>by obtain⟨K,i,h,rfl⟩:=h;exact .inr ⟨K,by simp[hF.ev h]⟩
variable {hi:Option Operand}
theorem nck{P:Program}(hF:Fits E a)(s:Bool){n c l h:Nat}{lo:Option Operand}(hl:BE E lo 0 l)(hh:BE E hi n h)(h1:l<=h)(h2:h<=c):(Instr.sliceBounds s n c (lo.map a.eval) (hi.map a.eval) none).run P W= .ok (l,h,c) W:=by
 rcases hl.val hF with⟨e1,e2⟩|⟨K,e1⟩<;>rcases hh.val hF with⟨f1,f2⟩|⟨K',f1⟩<;>rw[e1,f1];all_goals simp_all[Instr.sliceBounds,Instr.sliceBound,asIntOf]
theorem hQ{off n c l h off':Nat}{lo:Option Operand}(hU:C.P.underlying T=some (.slice e))(hZ:nV C.P e m)(hx:ev E x=some (.slice (some ⟨b,off,none⟩) n c))(hl:BE E lo 0 l)(hh:BE E hi n h)(h1:l<=h)(h2:h<=c)(ho:off'=if c=l then off else off+l*m):RV C G L H E (.slice T x lo hi none) (.slice (some ⟨b,off',none⟩) (h-l) (c-l)):=λd ty pos aD g a W hF _=>by
 have:=nck (P:=C.P) (W:=W) hF true hl hh h1 h2;simp[execOp,hF.ev hx,Instr.sliceAt,Instr.slice,run_underlying hU,this,hZ W,O5]
 grind
theorem Dc{off n l h off':Nat}{lo:Option Operand}(hU:C.P.underlying T=some (.array n e))(hZ:nV C.P e m)(hx:ev E x=some (ptr b off))(hl:BE E lo 0 l)(hh:BE E hi n h)(h1:l<=h)(h2:h<=n)(ho:off'=if n=l then off else off+l*m):RV C G L H E (.slice T x lo hi none) (.slice (some ⟨b,off',none⟩) (h-l) (n-l)):=λd ty pos aD g a W hF _=>by
 have:=nck (P:=C.P) (W:=W) hF false hl hh h1 h2;simp[execOp,hF.ev hx,Instr.sliceAt,run_underlying hU,Instr.sureAddr,this,hZ W,O5]
 grind
theorem gZ{off n c h:Nat}(hU:C.P.underlying T=some (.slice e))(hZ:nV C.P e m)(hx:ev E x=some (.slice (some ⟨b,off,none⟩) n c))(hh:BE E hi n h)(h2:h<=c):RV C G L H E (.slice T x none hi none) (.slice (some ⟨b,off,none⟩) h c):=hQ (l:=0) hU hZ hx rfl hh (cd _) h2 zP
theorem lL{off n h:Nat}(hU:C.P.underlying T=some (.array n e))(hZ:nV C.P e m)(hx:ev E x=some (ptr b off))(hh:BE E hi n h)(h2:h<=n):RV C G L H E (.slice T x none hi none) (.slice (some ⟨b,off,none⟩) h n):=Dc (l:=0) hU hZ hx rfl hh (cd _) h2 zP
theorem Ul{fn:Fn}{fs:List Operand}{us:List Value}(hf:jt E fs=some us)(ha:jt E xs=some vs):RV C G L H E (.makeFunc fn fs.toArray xs.toArray) (.func fn us.toArray vs.toArray):=λd ty pos aD g a W hF _=>by
 have h1:(fs.toArray).map a.eval=us.toArray:=by rw[CS,MQ hF fs us hf]
 have h2:(xs.toArray).map a.eval=vs.toArray:=by rw[CS,MQ hF xs vs ha]
 simp[execOp,Instr.makeFunc,h1,h2]
theorem Um{a:Addr}(hx:ev E x=some (.pointer (some a))):RV C G L H E (.nilCheck x) (.pointer (some a)):=λd ty pos aD g a' W hF _=>by
 simp[execOp,hF.ev hx]
theorem Un{m:Int}(hx:ev E x=some (.int .i64 m))(h0: -9223372036854775807<=m)(h1:m<=9223372036854775807):RV C G L H E (.unOp .neg T x) (.int .i64 (-m)):=λd ty pos aD g a W hF _=>by
 simp[execOp,hF.ev hx,Op.unary,Op.intArith,Nu (n:= -m) aa aa]
theorem Uo{base:Option Addr}{n c t:Nat}(hU:C.P.underlying t=some (.slice e))(hx:ev E x=some (.slice base n c)):RV C G L H E (.call ⟨.builtin .cap,#[x],#[t]⟩) (.int .i64 (c:Int)):=λd ty pos aD g a W hF _=>by
 simp[execOp,hF.ev hx,resolve,invoke,builtin,Builtin.cap_,run_underlying hU,goInt]
theorem cpW{t off n len cap tx t':Nat}{J:Value}(hi:H[i]? =some (b,.cells cs t' (0,0)))(hU:C.P.underlying t=some (.slice e))(hZ:nV C.P e m)(hw:nr ops E g=some true)(hN:Nat.blt d C.N=true)(hx:ev E x=some (.slice (some ⟨b,off,none⟩) len cap))(hy:ev E y=some J)(hlen:∀w':World,(Builtin.lenOf J).run C.P w'= .ok k w')(hn:n=min k len)(hs:Rd C G L H m n J news)(hl:off+news.length<=cs.size)(h1:rK news=true)(kk:OJ C ops Q l ((d,.int .i64 (n:Int))::E) D G L (H.set i (b,.cells (setCells cs off news) t' (0,0)))):OJ C ops Q (⟨some d,.call ⟨.builtin .copy,#[x,y],#[t,tx]⟩,ty,pos,aD,g⟩::l) E D G L H:=
 rF zP hw hN λa W hF hS=>by
  have hb:=hS.own _ (cF hi);obtain⟨W',hr,hk,gp⟩:=nhd (P:=C.P) (off:=off) news 0 cs W hb aa h1;refine⟨_,W',_,_,?_,hS.put hi hk gp,kk⟩;have aq:=hs W hS;simp[execOp,hF.ev hx,hF.ev hy,resolve,invoke,builtin,Builtin.copy_,run_underlying hU]at aq ⊢;simp_all[goInt]
theorem Xu{t ln cp:Nat}{kl kc:IntKind}{ti:TypeInfo}(hU:C.P.underlying t=some (.slice e))(qC:C.P.info? e=some ti)(hz:ti.zero=some z)(h1:z.cells=#[z])(hm:ti.size=1)(hw:nr ops E g=some true)(hN:Nat.blt d C.N=true)(hx:ev E x=some (.int kl (ln:Int)))(hy:ev E y=some (.int kc (cp:Int)))(J:ln<=cp)(hb:ti.bytes*cp<=281474976710656)(aq:cp<=9223372036854775807)(k:∀(b:Nat),ah L b->cu H b->OJ C ops Q l ((d,.slice (some ⟨b,0,none⟩) ln cp)::E) D G L ((b,.cells (cf cp (λ_=>z)) e (0,0))::H)):OJ C ops Q (⟨some d,.makeSlice t x y,ty,pos,aD,g⟩::l) E D G L H:=
 rF zP hw hN λa W hF hS=>by
  have hr:=run_make (P:=C.P) W t e ti z hU qC hz kl kc ln cp (Int.natCast_nonneg _) aa (by
   grind) aa
  simp[hm]at hr;have hc:madeCells z.cells cp=cf cp (λ_=>z):=by
   apply Array.ext';rw[h1];simp[madeCells,cf,Nat.mod_one]
  rw[hc]at hr;exact⟨_,_,_,_,by simp[execOp,hF.ev hx,hF.ev hy,hr],hS.alloc _,k W.heap.size hS.sizes hS.offNew⟩
variable {ps:List (Nat×Operand)}
theorem iW{n:Nat}{vs:List (Nat×Value)}(hU:C.P.underlying T=some (.slice e))(hp:nV C.P e m)(hz:zc C.P e z)(hw:nr ops E g=some true)(hN:Nat.blt d C.N=true)(ha:M1 E ps=some vs)(J:Nat.ble (n*m) 16777216=true)(hs:vs=wR 0 (vs.map (·.2)))(hl:vs.length=n)(hm:Pu m (vs.map (·.2))=true)(k:∀(b:Nat),ah L b->cu H b->OJ C ops Q l ((d,.slice (some ⟨b,0,none⟩) n n)::E) D G L ((b,.cells (I8 (vs.map λp:Nat×Value=>p.2)++[]).toArray e (0,0))::H)):OJ C ops Q (⟨some d,.buildSlice T n ps.toArray,ty,pos,aD,g⟩::l) E D G L H:=
 rF zP hw hN λa W hF hS=>⟨_,_,_,_,npe hU hp hz (Uh hF ps vs ha) J (Ui (by
  have:=nHf m (vs.map (·.2)) 0 [] ((Array.range (n*m)).map (λj=>((if n*m=0 then #[]else z.cells)[j%(if n*m=0 then #[]else z.cells).size]!))).toList hm zP cM;rw[<-hs]at this;exact this)),hS.alloc _,by have:=k W.heap.size hS.sizes hS.offNew;grind⟩
variable {o:Obj}
theorem OJ.dropAt(hi:H[i]? =some (b,o))(ha:ah L b)(k:OJ C ops Q l E D G L (H.eraseIdx i)):OJ C ops Q l E D G L H:=λa W hN hD hF hS=>k a W hN hD hF (hS.dropAt hi ha)
theorem CJ.dropAt{c:Code}(hi:H[i]? =some (b,o))(ha:ah L b)(k:CJ C c Q E D G L (H.eraseIdx i)):CJ C c Q E D G L H:=λa W hN hD hF hS=>k a W hN hD hF (hS.dropAt hi ha)
theorem PJ.dropAt{J:Exit}(hi:H[i]? =some (b,o))(ha:ah L b)(k:PJ C Q J E D G L (H.eraseIdx i)):PJ C Q J E D G L H:=λa W hN hD hF hS=>k a W hN hD hF (hS.dropAt hi ha)
end
theorem nnj{P:Program}(W:World)(t tx ty e:TypeId)(i:TypeInfo)(z:Value)(ht:P.underlying t=some (.slice e))(a6:P.underlying tx=some (.int .i64))(hi:P.info? e=some i)(hz:i.zero=some z)(wu:z.cells=#[z])(hs:i.size=1)(hb:i.bytes=1)(n:Nat)(h0:0<n)(h1:n<=1099511627776):(Builtin.append_ #[t,tx] ty #[.slice none 0 0,.int .i64 (n:Int)]).run P W= .ok (.slice (some ⟨W.heap.size,0,none⟩) n (grownCap W n 0 e)) (W.drew.alloc (.cells (cf (grownCap W n 0 e) (λ_=>z)) e (0,0))):=by
 have hw:IntKind.i64.wrap (n:Int)=(n:Int):=Nu aa aa;have aq:¬(281474976710656<Builtin.nextslicecap n 0*i.bytes):=by
  have:=growslice_fits (need:=n) (old:=0) (bytes:=i.bytes) aa cM;omega
 have pF:=grownCap_ge W n 0 e;have J:∀k,Builtin.zeroCells z.cells k=cf k (λ_=>z):=by
  intro k;apply Array.ext';rw[wu];simp[Builtin.zeroCells,cf,Nat.mod_one]
 have aR:cf n (λ_=>z)++cf (grownCap W n 0 e-n) (λ_=>z)=cf (grownCap W n 0 e) (λ_=>z):=by
  apply Array.ext';simp only[cf,Array.toList_append];rw[List.map_const',List.map_const',List.map_const'];simp only[List.length_range];rw[List.replicate_append_replicate];congr 1;omega
 rw[<-aR];simp[Builtin.append_,run_underlying ht,run_underlying a6,Go.sizeOf,typeInfo,zeroValue,hi,hz,asInt,asIntOf,hw,hs,hb,show ¬((n:Int)<0) by omega,show ¬(281474976710656<(n:Int)) by omega,Nat.not_le.2 h0,
  show ¬(9223372036854775807<(n:Int)) by omega,Question.forced,Builtin.firstCells,newRow,grownCap,J,show n≠0 by omega]at aq ⊢
 omega
structure vg where
 b:Nat
 off:Nat
 n:Nat
 c:Nat
 m:Nat->Int
def vg.val (s:vg):Value:=.slice (some ⟨s.b,s.off,none⟩) s.n s.c
def dM (n:Nat) (m:Nat->Int):List Value:=(List.range n).map λi=>.int .u8 (m i)
def vg.l (s:vg):List Value:=dM s.n s.m
def vg.At (s:vg) (w:World):Prop:=∃cs t fr,w.heap[s.b]? =some (.cells cs t fr)/\s.off+s.n<=cs.size/\∀i,i<s.n->cs[s.off+i]? =some (.int .u8 (s.m i))
theorem Iq(n:Nat)(m:Nat->Int):(dM n m).length=n:=by simp[dM]
theorem nZg(n:Nat)(m:Nat->Int):∀u∈dM n m,u.oneCell'=true:=by
 intro u hu;obtain⟨i,_,rfl⟩:=dO.1 hu;rfl
variable {cs:Array Value}
theorem Xw{off n:Nat}{m:Nat->Int}(h:off+n<=cs.size)(hm:∀i,i<n->cs[off+i]? =some (.int .u8 (m i))):(cs.toList.drop off).take (n*1)=dM n m:=by
 apply xL
 grind [dM]
def n9:List vg->List Value
 | []=>[]
 |s::ss=>s.l++n9 ss
theorem nZq(ss:List vg)(s:vg):n9 (ss++[s])=n9 ss++s.l:=by
 induction ss<;>grind [n9]
theorem n0g(ss:List vg)(j:Nat)(h:j<ss.length):n9 (ss.take (j+1))=n9 (ss.take j)++ss[j].l:=by
 rw[aAt h,nZq]
theorem nth(ss:List vg):∀j,(n9 (ss.take j)).length<=(n9 ss).length:=by
 induction ss with
 |nil=>simp
 |cons x ss ih=>intro j;cases j<;>grind [n9]
section
variable {C:Cx} {Q:bA} {E:Env} {D:List Deferred} {G:Gh} {L:List World} {H:ae} {ops:Array Oper} {l:List Oper}
variable {d T ty f:Nat} {pos:String} {aD:Array Edge} {g:Option (Nat×Bool)} {x y:Operand}
variable {e:Nat} {z:Value}
theorem aha{n t tx:Nat}{ti:TypeInfo}(hU:C.P.underlying t=some (.slice e))(J:C.P.underlying tx=some (.int .i64))(qC:C.P.info? e=some ti)(hz:ti.zero=some z)(wu:z.cells=#[z])(hs:ti.size=1)(hb:ti.bytes=1)(hw:nr ops E g=some true)(hN:Nat.blt d C.N=true)(hx:ev E x=some (.slice none 0 0))(hy:ev E y=some (.int .i64 (n:Int)))(h0:0<n)(h1:n<=1099511627776)(k:∀(b cap:Nat),ah L b->cu H b->n<=cap->OJ C ops Q l ((d,.slice (some ⟨b,0,none⟩) n cap)::E) D G L ((b,.cells (cf cap (λ_=>z)) e (0,0))::H)):OJ C ops Q (⟨some d,.call ⟨.builtin .append,#[x,y],#[t,tx]⟩,ty,pos,aD,g⟩::l) E D G L H:=
 rF zP hw hN λa W hF hS=>by
  have hr:=nnj (P:=C.P) W t tx ty e ti z hU J qC hz wu hs hb n h0 h1;have gW:=(hS.step (IC W (W.drawn+1))).alloc (.cells (cf (grownCap W n 0 e) (λ_=>z)) e (0,0));refine⟨_,_,_,_,?_,gW,k W.heap.size _ hS.sizes hS.offNew (grownCap_ge W n 0 e)⟩;simp[execOp,hF.ev hx,hF.ev hy,resolve,invoke,builtin,hr]
variable {xs:List Operand} {vs:List Value}
theorem UM{eY:Array Nat}{α:Type}{v:α->Value}{bo:α->Nat×Obj}{Φ:α->Prop}(aF:fh C.P f)(hw:nr ops E g=some true)(hN:Nat.blt d C.N=true)(ha:jt E xs=some vs)(hc:∀W,St G L H W->Calls C.P f vs.toArray W (db W v (λx w1=>W.heap.size<=(bo x).1/\Φ x/\w1.heap[(bo x).1]? =some (bo x).2)))(k:∀x,ah L (bo x).1->cu H (bo x).1->Φ x->OJ C ops Q l ((d,v x)::E) D G L (bo x::H)):OJ C ops Q (⟨some d,.call ⟨.value (.func f),xs.toArray,eY⟩,ty,pos,aD,g⟩::l) E D G L H:=
 sZ rfl hw rfl ha zP aF λa W jY hD hF hS=>(hc W hS).mono (by
  rintro e W' ⟨x,rfl,hb,h1,h2,h3⟩;have J:cu H (bo x).1:=cu.of_mem λhm=>by
   obtain⟨p,hp,e⟩:=dO.1 hm;have:=hS.lt p hp;omega
  have BS:ah L (bo x).1:=ah.of_mem λw hw=>dS (hS.links w hw).size h1;exact k x BS J h2 (a.put (some d) (v x)) W' mV lz (hF.put _ z2)
   ((hS.step hb).adopt h3 J (λhv=>zYY)))
def sB (s:ByteArray) (i:Nat):Int:=((s.data[i]?.getD 0).toNat:Int)
theorem nep(s:ByteArray)(c i:Nat)(h:i<s.size):(bytesRow s c)[0+i]? =some (.int .u8 (sB s i)):=by
 have J:i<s.data.size:=h
 grind [bytesRow,sB]
theorem nHm(s:ByteArray)(c:Nat):s.size<=(bytesRow s c).size:=by
 unfold bytesRow;simp
variable {s:ByteArray}
theorem ND{src dst:Nat}(hs:C.P.underlying src=some .string)(hd:C.P.underlying dst=some (.slice e))(he:C.P.underlying e=some (.int .u8))(hw:nr ops E g=some true)(hN:Nat.blt d C.N=true)(hx:ev E x=some (.string s))(k:∀(b cap:Nat) (w1:World) (cs:Array Value) (fr:Nat×Nat),w1.heap[b]? =some (.cells cs e fr)->ah L b->cu H b->¬G.X b->w1.heap.size=b+1->s.size<=cap->0+s.size<=cs.size->(∀i,i<s.size->cs[0+i]? =some (.int .u8 (sB s i)))->OJ C ops Q l ((d,.slice (some ⟨b,0,none⟩) s.size cap)::E) D G (w1::L) H):OJ C ops Q (⟨some d,.convert src dst x,ty,pos,aD,g⟩::l) E D G L H:=
 rF zP hw hN λa W hF hS=>by
  have hr:=run_bytes_of_string (P:=C.P) W src dst e s hs hd he;have J:=((hS.step (IC W (W.drawn+1))).step (nrd _ (.cells (bytesRow s (grownCap W s.size 0 e)) e ((bytesRow s (grownCap W s.size 0 e)).size,(bytesRow s (grownCap W s.size 0 e)).size+1)))).snap;refine⟨_,_,_,_,?_,J,k W.heap.size _ _ _ _ (heap_alloc_new W.drew _) hS.sizes hS.offNew hS.mNew zP (grownCap_ge W s.size 0 e) (by grind [nHm]) (λi hi=>nep s _ i hi)⟩;simp[execOp,hF.ev hx,hr]
variable {ps:List (Nat×Operand)} {m:Nat}
theorem oH{n:Nat}{vs:List (Nat×Value)}(hU:C.P.underlying T=some (.array n e))(hz:zc C.P T z)(hp:nV C.P e m)(ha:M1 E ps=some vs)(hs:vs=wR 0 (vs.map (·.2)))(hl:z.cells.size=vs.length*m)(hm:Pu m (vs.map (·.2))=true):RV C G L H E (.build T ps.toArray) (.agg (I8 (vs.map (·.2))).toArray):=λd ty pos aD g a W hF _=>by
 have hf:=Ui (pl:=λi=>some (i*m,m)) (ps:=vs) (cs:=z.cells) (ds:=I8 (vs.map (·.2))) (by
  have:=nHf m (vs.map (·.2)) 0 [] z.cells.toList hm zP cM
  grind)
 have h2:(ps.toArray).map (λ(i,x)=>(i,a.eval x))=vs.toArray:=by rw[CS,Uh hF ps vs ha]
 simp[execOp,h2,Instr.build,hz W,run_underlying hU,hp W,hf]
variable {rs:List ResultVar} {b i:Nat} {fr:Nat×Nat}
theorem RS.wAw{t T ct n:Nat}(hi:H[i]? =some (b,.cells cs ct fr))(hA:fp C.P T true)(hZ:nV C.P T n)(hx:look E t=some (ptr b 0))(hv:cs.size=n)(k:RS C G L H E rs vs):RS C G L H E (.cell t T::rs) (.agg cs::vs):=by
 have:=RS.wA (C:=C) (G:=G) (L:=L) hi hA hZ hx aa k
 grind [nrg]
variable {hi:Option Operand}
theorem Xv(hU:C.P.underlying T=some (.slice e))(hZ:nV C.P e m)(hx:ev E x=some (.slice none 0 0))(hh:BE E hi 0 0):RV C G L H E (.slice T x none hi none) (.slice none 0 0):=λd ty pos aD g a W hF _=>by
 have:=nck (P:=C.P) (W:=W) hF true (lo:=none) (hi:=hi) (n:=0) (c:=0) (l:=0) (h:=0) rfl hh (aC _) (aC _);simp at this;simp[execOp,hF.ev hx,Instr.sliceAt,Instr.slice,run_underlying hU,this,hZ W]
end
end Px
namespace Px

end Px
