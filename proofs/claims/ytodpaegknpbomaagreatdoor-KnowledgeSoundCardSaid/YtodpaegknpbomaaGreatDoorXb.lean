/- Memory, operations, iterators, slices, maps. No conditions. -/
import Derived.Test.YtodpaegknpbomaaGreatDoorXa
import Derived.RecoverIn
import Derived.Laws.StructEq
import Derived.ProofKit
import Derived.LaidMore
import Derived.OpenShut
import Derived.Stop.Joined
import Derived.Carry
import Derived.Deep.Slices
import Derived.Shelf.SlSortCmp.NoneTotal
import Derived.Maps.RangeRun
import Derived.WideKeyRuns
import Derived.Sort.Grow
import Derived.Deep.Draws
set_option linter.unusedSimpArgs false
set_option linter.unusedVariables false
set_option linter.unusedSectionVars false
set_option maxRecDepth 20000
set_option maxHeartbeats 8000000
namespace Px
open Go Go.RowKit
/-! ### values of the codec -/
inductive V where
 |int (n:Int)
 |text (s:ByteArray)
 |list (l:List V)
theorem V.ind{p:V->Prop}(h1:∀n,p (.int n))(h2:∀s,p (.text s))(h3:∀l,(∀y∈l,p y)->p (.list l)):∀x,p x:=by
 intro x;exact V.rec (motive_1:=p) (motive_2:=λl=>∀y∈l,p y) h1 h2 h3 zJ (λx l hx hl y hy=>by
  rcases cd.1 hy with rfl|hy
  ·exact hx
  exact hl y hy) x
def V.kind:V->Int
 | .int _=>1
 | .text _=>2
 | .list _=>3
def num (u:Nat):List UInt8:=if h:u<128 then[UInt8.ofNat u]else UInt8.ofNat (u%128+128)::num (u/128)
termination_by u
decreasing_by omega
theorem X4{u:Nat}(h:u<128):num u=[UInt8.ofNat u]:=by rw[num,dif_pos h]
theorem nYm{u:Nat}(h:¬u<128):num u=UInt8.ofNat (u%128+128)::num (u/128):=by rw[num,dif_neg h]
theorem Kf(u:Nat):0<(num u).length:=by grind [X4,nYm]
theorem N2:∀(k u:Nat),u<128^k->0<k->(num u).length<=k:=
 by intro x;induction x<;>(intros;grind [X4,nYm])
theorem C4{u:Nat}(h:u<18446744073709551616):(num u).length<=10:=N2 10 u (qH h zA) aa
def Kd (n:Int):Nat:=if 0<=n then(2*n).toNat else(-2*n-1).toNat
mutual
def V.enc:V->List UInt8
 | .int n=>1::num (Kd n)
 | .text s=>2::(num s.size++s.data.toList)
 | .list l=>3::(num l.length++V.encL l)
def V.encL:List V->List UInt8
 | []=>[]
 |x::l=>V.enc x++V.encL l
end
mutual
def V.depth:V->Nat
 | .int _=>0
 | .text _=>0
 | .list l=>V.depthL l+1
def V.depthL:List V->Nat
 | []=>0
 |x::l=>max (V.depth x) (V.depthL l)
end
theorem V.encL_take_le(l:List V):∀i,(V.encL (l.take i)).length<=(V.encL l).length:=by
 induction l with
 |nil=>intro i;simp[V.encL]
 |cons x l ih=>intro i;cases i with
  |zero=>simp[V.encL]
  |succ i=>simp only[Zx,V.encL,cO];have:=ih i;omega
theorem V.depthL_snoc(l:List V)(x:V):V.depthL (l++[x])=max (V.depthL l) x.depth:=by
 induction l with
 |nil=>simp[V.depthL]
 |cons y l ih=>simp only[im,V.depthL,ih];omega
theorem V.depthL_take(l:List V)(i:Nat)(h:i<l.length):V.depthL (l.take (i+1))=max (V.depthL (l.take i)) (l[i]).depth:=by
 rw[Oh h,V.depthL_snoc]
mutual
def V.fine:V->Prop
 | .int n=> -9223372036854775808<=n/\n<=9223372036854775807
 | .text s=>s.size<=1000000000
 | .list l=>l.length<=1000000000/\V.depthL l<=1000000000/\V.fineL l
def V.fineL:List V->Prop
 | []=>True
 |x::l=>V.fine x/\V.fineL l
end
theorem V.fineL_mem:∀{l:List V},V.fineL l->∀x∈l,x.fine
 | [],_,x,hx=>by cases hx
 |y::l,h,x,hx=>by
  simp only[V.fineL]at h;rcases cd.1 hx with rfl|hx
  ·exact h.1
  exact V.fineL_mem h.2 x hx
theorem V.depthL_mem:∀{l:List V} (x:V),x∈l->x.depth<=V.depthL l
 | [],x,hx=>by cases hx
 |y::l,x,hx=>by
  simp only[V.depthL];rcases cd.1 hx with rfl|hx
  ·omega
  have:=V.depthL_mem (l:=l) x hx;omega
abbrev vI (n:Int):Value:=.agg #[.int .i64 1,.int .i64 n,.string ⟨#[]⟩,.slice none 0 0]
abbrev vT (s:ByteArray):Value:=.agg #[.int .i64 2,.int .i64 0,.string s,.slice none 0 0]
abbrev vL (base:Option Addr) (n cap:Nat):Value:=.agg #[.int .i64 3,.int .i64 0,.string ⟨#[]⟩,.slice base n cap]
mutual
def fu (N:Nat) (w:World):V->Value->Prop
 | .int n,v=>v=vI n
 | .text s,v=>v=vT s
 | .list l,v=>∃base cap,v=vL base l.length cap/\l.length<=cap/\(l=[]\/∃b cs t fr,base=some ⟨b,0,none⟩/\b<N/\w.heap[b]? =some (.cells cs t fr)/\gT N w cs 0 l)
def gT (N:Nat) (w:World) (cs:Array Value):Nat->List V->Prop
 |_,[]=>True
 |off,x::l=>off+4<=cs.size/\fu N w x (.agg (cut cs off 4))/\gT N w cs (off+4) l
end
theorem gT.get{N:Nat}{w:World}{cs:Array Value}:∀{l:List V} {off:Nat},gT N w cs off l->∀(i:Nat) (h:i<l.length),off+4*i+4<=cs.size/\fu N w l[i] (.agg (cut cs (off+4*i) 4))
 | [],_,_,i,h=>by simp at h
 |x::l,off,hv,i,h=>by
  simp only[gT]at hv;cases i with
  |zero=>exact⟨by omega,hv.2.1⟩
  |succ i=>
   have:=gT.get hv.2.2 i BK;rw[show off+4*(i+1)=off+4+4*i by omega];simpa using this
variable {aC:Array Edge} {es:Array MapEntry} {os:Array Obj} {cs:Array Value} {R:Ending->World->Prop} {e:Exit} {Q:Exit->Act->List Frame->World->Prop} {fn:Func} {G:Gh} {H H':ad} {bs js:List Nat} {rs:List ResultVar} {ys:List UInt8} {cap first sp us vs:List Value} {L L':List World} {N b et i j k kt m off t:Nat} {fr:Nat×Nat} {o:Obj} {fv x:Operand} {g:Option (Nat×Bool)} {a:Option Addr} {P:Program} {pos:String} {sv zv:Value} {v:Value->Value} {W w:World} {I:World->Prop}
theorem fu.up{N':Nat}{w':World}(hN:N<=N')(hw:∀k,k<N->w'.heap[k]? =w.heap[k]?):∀(x:V) (v:Value),fu N w x v->fu N' w' x v:=by
 refine V.ind ?_ ?_ ?_
 ·intro n v h;simpa only[fu]using h
 ·intro s v h;simpa only[fu]using h
 intro l ih v h;simp only[fu]at h ⊢;obtain⟨base,cap,hv,hc,hl⟩:=h;refine⟨base,cap,hv,hc,?_⟩;rcases hl with hl|⟨b,cs,t,fr,hb,hlt,bW,hs⟩
 ·exact .inl hl
 refine .inr ⟨b,cs,t,fr,hb,by omega,(hw b hlt).trans bW,?_⟩;clear hb hlt bW hc hv;generalize 0=off at *;induction l generalizing off with
 |nil=>simp only[gT]
 |cons x l ihl=>
  simp only[gT]at hs ⊢;exact⟨hs.1,ih x zJ _ hs.2.1,ihl (λy hy=>ih y (by simp[hy])) _ hs.2.2⟩
theorem fu.shape:∀{x:V} {v:Value},fu N w x v->∃n s p m c,v= .agg #[.int .i64 x.kind,.int .i64 n,.string s,.slice p m c]
 | .int n,v,h=>by simp only[fu]at h;exact⟨_,_,_,_,_,h⟩
 | .text s,v,h=>by simp only[fu]at h;exact⟨_,_,_,_,_,h⟩
 | .list l,v,h=>by simp only[fu]at h;obtain⟨_,_,h,_⟩:=h;exact⟨_,_,_,_,_,h⟩
theorem St.same(h:St G L H W)(hw:w∈L)(hN:N<=w.heap.size)(hX:∀k,k<N->¬G.X k)(hH:Over N H):∀k,k<N->W.heap[k]? =w.heap[k]? :=λk hk=>
 (h.links w hw).block k aa (λhx=>by
  rcases hx with hx|hx
  ·exact hX k hk hx
  obtain⟨p,hp,rfl⟩:=bT.1 hx;have:=hH.mem p hp;omega)
theorem St.sm(h:St G L H W)(hw:w∈L:=by first|exact A0|exact A1|exact A2|exact A3|exact A4|exact A5|exact A6|exact A7|exact A8|exact A9)(hN:N<=w.heap.size:=by assumption)(hX:∀k,k<N->¬G.X k:=by exact λ_ _ h=>h)(hH:Over N H:=by first|exact True.intro|(simp only[Over,book,im,eX,ee,jh,dx,ec,rO,wL,and_true];omega)|(simp[Over]<;>omega)):∀k,k<N->W.heap[k]? =w.heap[k]? :=h.same hw hN hX hH
section
variable {C:Cx} {Q:bC} {E:Env} {D:List Deferred} {G:Gh} {L:List World} {H:ad} {ops:Array Oper} {l:List Oper}
variable {d T U ty f:Nat} {pos:String} {aC:Array Edge} {g:Option (Nat×Bool)} {x y:Operand} {xs:List Operand} {vs:List Value} {eJ:Array Nat}
theorem Ek{s:ByteArray}(hU:C.P.underlying t=some .string)(hx:ev E x=some (.string s)):RV C G L H E (.call ⟨.builtin .len,#[x],#[t]⟩) (.int .i64 (s.size:Int)):=λd ty pos aC g a W hF _=>by
 simp[execOp,hF.ev hx,resolve,invoke,Deferred.ofValue,builtin,Builtin.len_,run_underlying hU,goInt]
theorem yT{s t:ByteArray}(hx:ev E x=some (.string s))(hy:ev E y=some (.string t)):RV C G L H E (.binOp .eql T x y U) (.bool (s.toList==t.toList)):=λd ty pos aC g a W hF _=>by
 simp[execOp,eqGuard,binOp,Op.stringOp,hF.ev hx,hF.ev hy]
theorem QG{K:IntKind}{m n:Int}{t1 t2:Nat}(hx:ev E x=some (.int K m))(hy:ev E y=some (.int K n)):RV C G L H E (.call ⟨.builtin .max,#[x,y],#[t1,t2]⟩) (.int K (max m n)):=λd ty pos aC g a W hF _=>by
 have:(if m<n then n else m)=max m n:=by omega
 simp[execOp,hF.ev hx,hF.ev hy,resolve,invoke,Deferred.ofValue,builtin,Builtin.max_,Builtin.max2,this]
end
theorem jv{α:Type}{l:List α}(h:l.length=1):∃a,l=[a]:=by
 match l,h with
 | [a],_=>exact⟨a,rfl⟩
theorem rP{α:Type}{l:List α}(h:l.length=2):∃a b,l=[a,b]:=by
 match l,h with
 | [a,b],_=>exact⟨a,b,rfl⟩
theorem py{α:Type}{l:List α}(h:l.length=3):∃a b c,l=[a,b,c]:=by
 match l,h with
 | [a,b,c],_=>exact⟨a,b,c,rfl⟩
theorem vo{α:Type}{l:List α}(h:l.length=4):∃a b c d,l=[a,b,c,d]:=by
 match l,h with
 | [a,b,c,d],_=>exact⟨a,b,c,d,rfl⟩
theorem tQ{α:Type}{l:List α}(h:l.length=5):∃a b c d e,l=[a,b,c,d,e]:=by
 match l,h with
 | [a,b,c,d,e],_=>exact⟨a,b,c,d,e,rfl⟩
section
variable {C:Cx} {Q:bC} {E:Env} {D:List Deferred} {G:Gh} {L:List World} {H:ad} {id:Nat}
theorem PJ.swp{p q:Nat×Obj}(k:PJ C Q e E D G L (p::q::H)):PJ C Q e E D G L (q::p::H):=λa W hN hD hF hS=>k a W hN hD hF (hS.perm (List.Perm.swap p q H))
end
section
variable {C:Cx} {Q:bC} {E:Env} {D:List Deferred} {G:Gh} {L:List World} {H:ad} {ops:Array Oper} {l:List Oper}
variable {d T ty f:Nat} {pos:String} {aC:Array Edge} {g:Option (Nat×Bool)} {x y:Operand} {xs:List Operand} {vs:List Value} {eJ:Array Nat}
theorem QM{e:Nat}(hx:ev E x=some (.func (.func f) first.toArray cap.toArray))(aA:eU C.P f)(hw:nr ops E g=some true)(hN:Nat.blt d C.N=true)(ha:jy E xs=some vs)(hc:∀W,St G L H W->Calls C.P f (first++vs++cap).toArray W (nXm W e ys))(k:∀b' aZ bY,ah L b'->bM H b'->¬G.X b'->dR ys aZ bY->OJ C ops Q l ((d,bV b' ys.length aZ)::E) D G L ((b',aU e ys bY)::H)):OJ C ops Q (⟨some d,.call ⟨.value x,xs.toArray,eJ⟩,ty,pos,aC,g⟩::l) E D G L H:=
 nK rfl hw hx ha zJ aA λa W jz hD hF hS=>(hc W hS).mono (by
  rintro ed W' ⟨b',aZ,bY,rfl,hb,mq,hr,fJ⟩;exact k b' aZ bY (CD hS mq) (DF hS mq) (λhx=>by have:=hS.xlt _ hx;omega) hr (a.put (some d) (bV b' ys.length aZ)) W' z8 z6 (hF.put _ z7)
   ((hS.step hb).adopt fJ (DF hS mq) (λhv=>by have:=hS.vlt _ hv;omega)))
def nRl (w:World) (e:Nat) (ys:List UInt8):Ending->World->Prop:=λed w'=>
 ∃b' aZ bY,ed= .returned (.tuple #[bV b' ys.length aZ,.int .i64 0])/\Below w.heap.size w w'/\w.heap.size<=b'/\dR ys aZ bY/\w'.heap[b']? =some (aU e ys bY)
theorem QN{u b' e aZ:Nat}{bY:List Value}{ex:Exit}(he:ex= .ret\/ex= .normal)(hr:fn.results=#[.tmp t,.tmp u])(hv:look E t=some (bV b' ys.length aZ))(hu:look E u=some (.int .i64 0))(hi:H[i]? =some (b',aU e ys bY))(hw:w∈L)(ho:Over w.heap.size H)(hk:dR ys aZ bY):PJ C (bodyPost C.P fn (nRl w e ys)) ex E [] Gh.no L H:=
 bQ he (rs:=[.tmp t,.tmp u]) hr (RS.t hv (RS.t hu RS.n)) λW hS=>⟨b',aZ,bY,rfl,hS.base hw ho,ho.mem _ (cA hi),hk,hS.own _ (cA hi)⟩
theorem nqk{e:Nat}(aA:eU C.P f)(hw:nr ops E g=some true)(hN:Nat.blt d C.N=true)(ha:jy E xs=some vs)(hc:∀W,St G L H W->Calls C.P f vs.toArray W (nRl W e ys))(k:∀b' aZ bY,ah L b'->bM H b'->¬G.X b'->dR ys aZ bY->OJ C ops Q l ((d,.tuple #[bV b' ys.length aZ,.int .i64 0])::E) D G L ((b',aU e ys bY)::H)):OJ C ops Q (⟨some d,.call ⟨.value (.func f),xs.toArray,eJ⟩,ty,pos,aC,g⟩::l) E D G L H:=
 nK rfl hw rfl ha zJ aA λa W jz hD hF hS=>(hc W hS).mono (by
  rintro ed W' ⟨b',aZ,bY,rfl,hb,mq,hr,fJ⟩;exact k b' aZ bY (CD hS mq) (DF hS mq) (λhx=>by have:=hS.xlt _ hx;omega) hr (a.put (some d) _) W' z8 z6 (hF.put _ z7)
   ((hS.step hb).adopt fJ (DF hS mq) (λhv=>by have:=hS.vlt _ hv;omega)))
theorem Yk{v:Value}(hx:ev E x=some (.func (.func f) first.toArray cap.toArray))(aA:eU C.P f)(hw:nr ops E g=some true)(hN:Nat.blt d C.N=true)(ha:jy E xs=some vs)(hc:∀W,St G L H W->Calls C.P f (first++vs++cap).toArray W (aP W v))(k:OJ C ops Q l ((d,v)::E) D G L H):OJ C ops Q (⟨some d,.call ⟨.value x,xs.toArray,eJ⟩,ty,pos,aC,g⟩::l) E D G L H:=
 nK rfl hw hx ha zJ aA λa W jz hD hF hS=>(hc W hS).mono (by
  rintro e W' ⟨rfl,hb⟩;exact k (a.put (some d) v) W' z8 z6 (hF.put _ z7) (hS.step hb))
theorem nNn{Pre:World->Prop}{Φ:Value->World->Prop}{v:Value}(hx:ev E x=some (.func (.func f) first.toArray cap.toArray))(aA:eU C.P f)(hw:nr ops E g=some true)(ha:jy E xs=some vs)(hc:∀W,St G L H W->Pre W->Calls C.P f (first++vs++cap).toArray W (aP W v))(hΦ:∀W,Φ v W):X C ops G L H E Pre ⟨some d,.call ⟨.value x,xs.toArray,eJ⟩,ty,pos,aC,g⟩ Φ:=by
 intro a W K Q jz hF hS hP hk;rw[if_pos (BB hF hw)];refine⟨λ_ _=>trivial,?_⟩;have hr:(execOp a.eval ⟨some d,.call ⟨.value x,xs.toArray,eJ⟩,ty,pos,aC,g⟩).run C.P W= .ok (.enter f (first++vs++cap).toArray) W:=by
  have h2:(xs.toArray).map a.eval=vs.toArray:=by rw[DH,NL hF xs vs ha]
  simp only[execOp,resolve,hF.ev hx,Deferred.ofValue,h2];simp[invoke,aA _ W]
 rw[Oper.semAt_eq _ _ _ zJ,hr,Oper.uponIn_enter];refine⟨by simp,NJ.2 ((hc W hS hP).mono ?_)⟩;rintro e W' ⟨rfl,hb⟩;exact hk v W' hb (hΦ W')
end
/-! ### deferred calls, and recover -/
def HN (cs:List Frame):Value×List Frame:=match recoverD cs with|some p=>p|none=>(.nilIface,cs)
theorem nun(cs:List Frame):(HN cs).2.length=cs.length:=by
 unfold HN;split
 ·rename_i p h;obtain⟨v,eG⟩:=p;exact recoverD_length h
 rfl
theorem nSp{F:Fence}{n:Nat}{a:Act}{cs:List Frame}{w':World}{id:Nat}{ops:Array Oper}{o:Oper}{rest:List Nat}(rQ:F.round=none)(hrg:List.range ops.size=0::rest)(ho:ops[0]? =some o)(hw:Region.wanted o (yielded ops a.tmps)=true)(qQ:∀f,o.about P w a.eval=some f->F.fn f)(hr:(execOp a.eval o).run P w= .ok .recover w')(h:wpOpsIn F n P ops (λe a' w'=>Q e a' (HN cs).2 w') rest (a.put o.dst (HN cs).1) w'):(Code.region id ops false).wpSIn F n P Q a cs w:=by
 intro b k hb WW hF iO;have h0:(lone (b.atR a (.inRegion ops (0::rest)::k)) cs w).fenced P F:=fenced_oper hF iO ho qQ;have hg:=stepGR_op (P:=P) (b:=b) (k:=k) (cs:=cs) (w:=w) (rest:=rest) ho hw;rw[WW,Oper.semAt_none]at hg;have dW:∀v,(b.atR a (.inRegion ops (0::rest)::k)).finish v=b.atR (a.put o.dst v) (.inRegion ops rest::k):=by
  intro v;rw[Frame.finish_atR,ho];rfl
 have hk:(b.atR a (.inRegion ops (0::rest)::k)).kind= .deferred:=hb;have iC:=tryRecover_deferred hk cs;have hlen:=nun cs;obtain⟨e,a',w'',hq,aob⟩:=wp_opsIn rest (a.put o.dst (HN cs).1) w' h b k (HN cs).2 (WW.trans rQ.symm) hF (by rw[hlen];exact iO);refine⟨e,a',(HN cs).2,w'',hlen,hq,?_⟩;have ac4:=stepR_region (P:=P) (b:=b) (a:=a) (id:=id) (ops:=ops) (k:=k) (cs:=cs) (w:=w);rw[hrg]at ac4;refine .of_steps (.head (fenced_calm hF iO rfl) ac4 (.one h0 (step_lone_go ?_))) aob;rw[hg,<-dW];unfold HN;cases pZ:recoverD cs with
 |none=>
  simp only[Frame.atR,WW]at iC ⊢;simp[stepG.apply,hr,iC,pZ]
 |some p=>
  obtain⟨v,eG⟩:=p;simp only[Frame.atR,WW]at iC ⊢;simp[stepG.apply,hr,iC,pZ]
theorem n8k(c₀:Frame)(cs:List Frame)(h:c₀.mode= .returning):HN (c₀::cs)=(.nilIface,{c₀ with mode:=.returning}::cs):=by
 simp only[HN,recoverD,h];rw[<-h]
theorem TY{f:Nat}{c:Code}(G:Gh)(H:ad)(hf:P.funcs[f]? =some fn)(hb:fn.body=some c)(hN:fn.ntmps=N)(hl:Nat.ble vs.length N=true)(hS:St G [w] H w)(h:CJ ⟨P,none,N⟩ c (bodyPostDIn (FW none) 0 P fn R) (yx 0 vs) [] G [w] H):Calls P f vs.toArray w R:=by
 rw[<-NJ (r:=none) (n:=0)];refine callsIn_of_wp_defers hf hb trivial (h _ w ?_ rfl ?_ hS)
 ·have:=eh hl;simp[hN];omega
 exact npc vs _
section
variable {P:Program} {N:Nat} {Q:bC} {E:Env} {D:List Deferred} {G:Gh} {L:List World} {H:ad} {ops:Array Oper} {l:List Oper}
variable {ty f:Nat} {pos:String} {aC:Array Edge} {g:Option (Nat×Bool)} {x:Operand}
theorem OJ.defer{eJ:Array Nat}(hw:nr ops E g=some true)(hx:ev E x=some (.func (.func f) #[] cap.toArray))(k:OJ ⟨P,none,N⟩ ops Q l E ({target:=.fn (.func f) cap.toArray,args:=#[]}::D) G L H):OJ ⟨P,none,N⟩ ops Q (⟨none,.defer ⟨.value x,#[],eJ⟩,ty,pos,aC,g⟩::l) E D G L H:=by
 intro a W jz hD hF hS;unfold wpListIn;rw[if_pos (BB hF hw)];refine⟨λ_ _=>trivial,?_⟩;have hr:(execOp a.eval ⟨none,.defer ⟨.value x,#[],eJ⟩,ty,pos,aC,g⟩).run P W= .ok (.defer {target:=.fn (.func f) cap.toArray,args:=#[]}) W:=by
  simp[execOp,resolve,hF.ev hx,Deferred.ofValue]
 dsimp only;rw[Oper.semAt_none,hr,Oper.uponIn_defer];exact k _ W jz z6 (λt v hv=>hF t v hv) hS
theorem alI{ex:Exit}(he:ex= .ret\/ex= .normal)(aA:eU P f)(hc:∀W,St G L H W->CallsDIn (FW none) 0 P f cap.toArray .returning W (λe u' w'=>u'= .returning/\(∃v,e= .returned v)/\Below W.heap.size W w'))(hr:fn.results=rs.toArray)(h:RS ⟨P,none,N⟩ G L H E rs vs)(hR:∀W,St G L H W->R (.returned (MW vs)) W):PJ ⟨P,none,N⟩ (bodyPostDIn (FW none) 0 P fn R) ex E [{target:=.fn (.func f) cap.toArray,args:=#[]}] G L H:=by
 intro a W jz hD hF hS;have key:LeavesIn (FW none) 0 P fn a.tmps R a.defers .returning W:=by
  rw[hD];refine leavesIn_cons (f:=f) (args:=cap.toArray) zJ zJ (by simp[invoke,aA _ W]) (λ_ _=>trivial) ?_;refine(hc W hS).mono ?_;rintro e u' w' ⟨rfl,⟨v,rfl⟩,hb⟩;exact⟨_,h.res hr hF (hS.step hb),hR w' (hS.step hb)⟩
 exact z4h
end
/-! ### several blocks that are lent -/
def keys (H:ad):List Nat:=H.map (·.1)
def qu (G:Gh) (L:List World):ad->Prop
 | []=>True
 |p::H=>Fr G L p.1/\qu G L H
theorem qu.mem{G:Gh}{L:List World}:∀{H:ad},qu G L H->∀p∈H,Fr G L p.1
 | [],_,p,hp=>by cases hp
 |q::H,h,p,hp=>by
  rcases cd.1 hp with rfl|hp
  ·exact h.1
  exact qu.mem h.2 p hp
theorem St.swapZ{Hz H0 Hn:ad}{W':World}(h:St G L (Hz++H0) W)(hk:aQ (λk=>k∈keys Hz) W W')(jY:qu G L Hz)(hn:∀p∈Hn,W'.heap[p.1]? =some p.2/\(p.1∈keys Hz\/W.heap.size<=p.1))(hd:lO Hn):St G L (Hn++H0) W':=by
 have hnd:=(vO (Hz++H0)).1 h.nodup;rw[gL,List.nodup_append]at hnd;obtain⟨gS,fB,fT⟩:=hnd;have IV:∀p∈H0,p.1∉keys Hz:=λp hp hm=>fT p.1 hm p.1 (bT.2 ⟨p,hp,rfl⟩) rfl;have hH0:∀p∈H0,W'.heap[p.1]? =some p.2:=λp hp=>by
  rw[hk.block p.1 (h.lt p (by simp[hp])) (IV p hp)];exact h.own p (by simp[hp])
 refine⟨?_,λk hv=>qH (h.vlt k hv) hk.size,λk hv=>qH (h.xlt k hv) hk.size,λw hw=>?_,λp hp=>?_,?_,λp hp=>?_⟩
 ·refine G.stab W W' h.ghost hk.os hk.tape hk.output hk.drawn hk.size (λk hv=>hk.block k (h.vlt k hv) λhm=>?_);obtain⟨p,hp,rfl⟩:=bT.1 hm;exact h.apart p (by simp[hp]) hv
 ·have hl:=h.links w hw;refine⟨hk.os.trans hl.os,hk.tape.trans hl.tape,hk.output.trans hl.output,eE hl.drawn hk.drawn,eE hl.size hk.size,λk hkw hx=>?_⟩;simp only[gL,aY,not_or]at hx;have hnz:k∉keys Hz:=λhm=>by
   obtain⟨p,hp,rfl⟩:=bT.1 hm;rcases jY.mem p hp with hf|hf
   ·exact hx.1 hf
   have:=hf.mem w hw;omega
  rw[hk.block k (qH hkw hl.size) hnz];refine hl.block k hkw λhy=>?_;simp only[gL,aY]at hy;rcases hy with hy|hy|hy
  ·exact hx.1 hy
  ·exact hnz hy
  exact hx.2.2 hy
 ·rcases aY.1 hp with hp|hp
  ·exact(hn p hp).1
  exact hH0 p hp
 ·rw[vO,gL,List.nodup_append];refine⟨(vO Hn).1 hd,fB,λa ha b hb e=>?_⟩;subst e;obtain⟨p,hp,rfl⟩:=bT.1 ha;obtain⟨q,hq,e⟩:=bT.1 hb;rcases(hn p hp).2 with h1|h1
  ·exact IV q hq (e▸h1)
  have:=h.lt q (by simp[hq]);omega
 rcases aY.1 hp with hp|hp
 ·intro hv;rcases(hn p hp).2 with h1|h1
  ·obtain⟨q,hq,e⟩:=bT.1 h1;exact h.apart q (by simp[hq]) (e▸hv)
  have:=h.vlt _ hv;omega
 exact h.apart p (by simp[hp])
def mK {α:Type} (w:World) (Z:List Nat) (v:α->Value) (Hn:α->ad) (Φ:α->Prop):Ending->World->Prop:=λe w'=>
 ∃x,e= .returned (v x)/\aQ (λk=>k∈Z) w w'/\Φ x/\(∀p∈Hn x,w'.heap[p.1]? =some p.2/\(p.1∈Z\/w.heap.size<=p.1))/\lO (Hn x)
theorem HH{Hz:ad}(h:∀p∈Hz,w.heap[p.1]? =some p.2)(hd:lO Hz):St (Gh.lent (λk=>k∈keys Hz)) [w] Hz w where
 ghost:=trivial
 vlt:=λ_ h=>h.elim
 xlt:=λk hk=>by
  obtain⟨p,hp,rfl⟩:=bT.1 (show k∈keys Hz from hk);exact(bA.1 (h p hp)).1
 links:=λw' hw=>by simp at hw;subst hw;exact aQ.refl _ _
 own:=h
 nodup:=hd
 apart:=λ_ _ h=>h.elim
def fK (w:World):ad->Prop
 | []=>True
 |p::H=>w.heap[p.1]? =some p.2/\fK w H
theorem fK.mem{w:World}:∀{H:ad},fK w H->∀p∈H,w.heap[p.1]? =some p.2
 | [],_,p,hp=>by cases hp
 |q::H,h,p,hp=>by
  rcases cd.1 hp with rfl|hp
  ·exact h.1
  exact fK.mem h.2 p hp
theorem EE(p:Nat×Obj):lO [p]:=by rw[vO];simp
theorem WV{p q:Nat×Obj}(h:p.1≠q.1):lO [p,q]:=by rw[vO];simp[h]
def qy (Z:List Nat) (n:Nat):ad->Prop
 | []=>True
 |p::H=>(p.1∈Z\/n<=p.1)/\qy Z n H
theorem qy.mem{Z:List Nat}{n:Nat}:∀{H:ad},qy Z n H->∀p∈H,p.1∈Z\/n<=p.1
 | [],_,p,hp=>by cases hp
 |q::H,h,p,hp=>by
  rcases cd.1 hp with rfl|hp
  ·exact h.1
  exact qy.mem h.2 p hp
section
variable {C:Cx} {Q:bC} {E:Env} {D:List Deferred} {G:Gh} {L:List World} {H:ad} {ops:Array Oper} {l:List Oper}
variable {d T ty f:Nat} {pos:String} {aC:Array Edge} {g:Option (Nat×Bool)} {x:Operand} {xs:List Operand} {vs:List Value} {eJ:Array Nat} {fn:Func}
theorem tZ{α:Type}{v:α->Value}{Hn:α->ad}{Φ:α->Prop}{Hz H0:ad}{ex:Exit}(z:α)(he:ex= .ret\/ex= .normal)(hr:fn.results=rs.toArray)(h:RS C (Gh.lent (λk=>k∈keys Hz)) L (Hn z++H0) E rs us)(hw:w∈L)(ho:qy (keys Hz) w.heap.size (Hn z++H0))(hv:MW us=v z)(hΦ:Φ z):PJ C (bodyPost C.P fn (mK w (keys Hz) v Hn Φ)) ex E [] (Gh.lent (λk=>k∈keys Hz)) L (Hn z++H0):=
 bQ he hr h λW hS=>⟨z,by rw[hv],(hS.links w hw).mono (λk hk hx=>by
  rcases hx with hx|hx
  ·exact hx
  ·obtain⟨p,hp,rfl⟩:=bT.1 hx;rcases ho.mem p hp with h|h
   ·exact h
   omega),hΦ,λp hp=>⟨hS.own p (by simp[hp]),ho.mem p (by simp[hp])⟩,by
  have:=(vO _).1 hS.nodup;rw[gL,List.nodup_append]at this;exact(vO _).2 this.1⟩
theorem CI{α:Type}{v:α->Value}{Hn:α->ad}{Φ:α->Prop}{Hz H0:ad}(hH:H=Hz++H0)(hx:ev E x=some (.func (.func f) first.toArray cap.toArray))(aA:eU C.P f)(hw:nr ops E g=some true)(hN:Nat.blt d C.N=true)(ha:jy E xs=some vs)(jY:qu G L Hz)(hc:∀W,St G L (Hz++H0) W->Calls C.P f (first++vs++cap).toArray W (mK W (keys Hz) v Hn Φ))(k:∀z,Φ z->(∀p∈Hn z,p.1∈keys Hz\/(ah L p.1/\bM H p.1))->OJ C ops Q l ((d,v z)::E) D G L (Hn z++H0)):OJ C ops Q (⟨some d,.call ⟨.value x,xs.toArray,eJ⟩,ty,pos,aC,g⟩::l) E D G L H:=by
 subst hH;exact nK rfl hw hx ha zJ aA λa W jz hD hF hS=>(hc W hS).mono (by
  rintro ed W' ⟨z,rfl,hk,hΦ,hn,hd⟩;refine k z hΦ (λp hp=>?_) (a.put (some d) (v z)) W' z8 z6 (hF.put _ z7) (hS.swapZ hk jY hn hd);rcases(hn p hp).2 with h|h
  ·exact .inl h
  exact .inr ⟨CD hS h,DF hS h⟩)
theorem CJ.prm{c:Code}(hp:H.Perm H')(k:CJ C c Q E D G L H'):CJ C c Q E D G L H:=λa W hN hD hF hS=>k a W hN hD hF (hS.perm hp)
theorem nwd{p q:Nat×Obj}(hi:H[i]? =some p)(hj:H[j]? =some q)(vf:i≠j)(k:p.1≠q.1->OJ C ops Q l E D G L H):OJ C ops Q l E D G L H:=
 λa W hN hD hF hS=>k (λe=>vf (hS.nodup i j p q hi hj e)) a W hN hD hF hS
end
/-! ### equality of plain data -/
inductive TK where|i|b|s
def QV:Value->Value->Bool
 | .int _ a,.int _ b=>a==b
 | .bool a,.bool b=>a==b
 | .string a,.string b=>a.toList==b.toList
 |_,_=>false
def U5:TK->Value->Value->Bool
 | .i,.int k _,.int k' _=>decide (k=k')
 | .b,.bool _,.bool _=>true
 | .s,.string _,.string _=>true
 |_,_,_=>false
def oT:List Value->List Value->Bool
 |x::xs,y::ys=>QV x y&&oT xs ys
 |_,_=>true
def kM:List TK->List Value->List Value->Bool
 |k::ks,x::xs,y::ys=>U5 k x y&&kM ks xs ys
 | [],[],[]=>true
 |_,_,_=>false
theorem IW{k:TK}{x y:Value}(h:U5 k x y=true):QV x x=true:=by cases k<;>cases x<;>cases y<;>simp_all[U5,QV]
theorem nBm:∀{ks:List TK} {xs ys:List Value},kM ks xs ys=true->oT xs xs=true
 | [],[],_,_=>rfl
 |k::ks,x::xs,y::ys,h=>by
  simp only[kM,mO]at h;simp only[oT,IW h.1,nBm h.2,Bool.and_self]
 |_::_,[],_,_=>rfl
 |_::_,_::_,[],h=>by simp[kM]at h
 | [],_::_,_,h=>by simp[kM]at h
theorem nUh:∀{ks:List TK} {xs ys:List Value},kM ks xs ys=true->xs.length=ks.length/\ys.length=ks.length
 | [],[],[],_=>⟨rfl,rfl⟩
 |k::ks,x::xs,y::ys,h=>by
  simp only[kM,mO]at h;have:=nUh h.2;simp[this.1,this.2]
 | [],_::_,_,h=>by simp[kM]at h
 | [],[],_::_,h=>by simp[kM]at h
 |_::_,[],_,h=>by simp[kM]at h
 |_::_,_::_,[],h=>by simp[kM]at h
theorem nDd:∀{a b c d:List Value},a.length=c.length->oT (a++b) (c++d)=(oT a c&&oT b d)
 | [],b,[],d,_=>by simp[oT]
 |x::a,b,y::c,d,h=>by
  simp only[im,oT];rw[nDd BK,Bool.and_assoc]
 | [],b,y::c,d,h=>by simp at h
 |x::a,b,[],d,h=>by simp at h
theorem n8f:∀{k1 k2:List TK} {a b c d:List Value},a.length=k1.length->c.length=k1.length->kM (k1++k2) (a++b) (c++d)=(kM k1 a c&&kM k2 b d)
 | [],k2,[],b,[],d,_,_=>by simp[kM]
 |k::k1,k2,x::a,b,y::c,d,h,h'=>by
  simp only[im,kM];rw[n8f BK (by simpa using h'),Bool.and_assoc]
 | [],k2,x::a,b,c,d,h,h'=>by simp at h
 | [],k2,[],b,y::c,d,h,h'=>by simp at h'
 |k::k1,k2,[],b,c,d,h,h'=>by simp at h
 |k::k1,k2,x::a,b,[],d,h,h'=>by simp at h'
def u3 (P:Program) (k t:Nat) (ks:List TK):Prop:=∀(d:Nat) (xs ys:List Value) (w:World),kM ks xs ys=true->(Op.equalIn (d+k) t (.agg xs.toArray) (.agg ys.toArray)).run P w= .ok (oT xs ys) w
def mP (P:Program) (k t:Nat) (ks:List TK):Prop:=∀(d:Nat) (p1 c1 q1 p2 c2 q2:List Value) (w:World),p1.length=p2.length->kM ks c1 c2=true->
 ∃a b,(part t (p1++(c1++q1)).toArray p1.length).run P w= .ok a w/\(part t (p2++(c2++q2)).toArray p1.length).run P w= .ok b w/\(Op.equalIn (d+k) t a b).run P w= .ok (oT c1 c2) w
variable {ks:List TK}
theorem u3.up{k':Nat}(h:u3 P k t ks)(hk:k<=k'):u3 P k' t ks:=λd xs ys w h1=>by
 have:=h (d+(k'-k)) xs ys w h1;rwa[show d+(k'-k)+k=d+k' by omega]at this
theorem mP.up{k':Nat}(h:mP P k t ks)(hk:k<=k'):mP P k' t ks:=λd p1 c1 q1 p2 c2 q2 w h1 h2=>by
 have:=h (d+(k'-k)) p1 c1 q1 p2 c2 q2 w h1 h2;rwa[show d+(k'-k)+k=d+k' by omega]at this
theorem mP.one{k:TK}(hA:fe P t false)(h:∀(d:Nat) (v u:Value) (w:World),U5 k v u=true->(Op.equalIn (d+1) t v u).run P w= .ok (QV v u) w):mP P 1 t [k]:=by
 intro d p1 c1 q1 p2 c2 q2 w h1 h2
 match c1,c2,h2 with
 | [v],[u],h2=>
  simp only[kM,Bool.and_true]at h2;refine⟨v,u,by simp[part,hA w],by rw[h1];simp[part,hA w],?_⟩;rw[h d v u w h2];simp[oT]
 | [],_,h2=>simp[kM]at h2
 | [_],[],h2=>simp[kM]at h2
 |_::_::_,[],h2=>simp[kM]at h2
 | [_],_::_::_,h2=>simp[kM]at h2
 |_::_::_,_::_,h2=>simp[kM]at h2
theorem mP.int{K:IntKind}(hU:P.underlying t=some (.int K))(hA:fe P t false):mP P 1 t [.i]:=mP.one hA (by
 intro d v u w h;cases v<;>cases u<;>simp only[U5,Bool.false_eq_true]at h
 rename_i k a k' b;have:k=k':=by simpa using h
 subst this;rw[run_equalIn_int w d t k K a b hU];rfl)
theorem mP.bool(hU:P.underlying t=some .bool)(hA:fe P t false):mP P 1 t [.b]:=mP.one hA (by
 intro d v u w h;cases v<;>cases u<;>simp only[U5,Bool.false_eq_true]at h
 rw[run_equalIn_bool' w d t _ _ hU];rfl)
theorem mP.agg{n:Nat}(hA:fe P t true)(hZ:nL P t n)(hn:ks.length=n)(h:u3 P k t ks):mP P k t ks:=by
 intro d p1 c1 q1 p2 c2 q2 w h1 h2;have hl:=nUh h2;have ac5:∀(p c q:List Value),c.length=n->(p++(c++q)).toArray.extract p.length (p.length+n)=c.toArray:=by
  intro p c q hc;apply Array.ext';rw[Array.toList_extract,List.extract_eq_take_drop];simp only[Nat.add_sub_cancel_left];rw[List.drop_left' rfl,<-hc,QT rfl]
 refine⟨.agg c1.toArray,.agg c2.toArray,?_,?_,h d c1 c2 w h2⟩
 ·simp only[part,Sem.run_bind,hA w,hZ w,Result.andThen,if_true,Sem.run_pure];rw[ac5 p1 c1 q1 aa]
 simp only[part,Sem.run_bind,hA w,hZ w,Result.andThen,if_true,Sem.run_pure];rw[h1,ac5 p2 c2 q2 aa]
def pP (P:Program) (k:Nat):List Field->Nat->List TK->Prop
 | [],_,ks=>ks=[]
 |f::fs,off,ks=>∃k1 k2,ks=k1++k2/\f.offset=off/\(f.name≠ "_")/\mP P k f.type k1/\pP P k fs (off+k1.length) k2
theorem pP.n:pP P k [] off []:=rfl
theorem pP.c{f:Field}{fs:List Field}{k1 k2:List TK}(ho:f.offset=off)(hn:f.name≠ "_")(h:mP P k f.type k1)(t:pP P k fs (off+k1.length) k2):pP P k (f::fs) off (k1++k2):=⟨k1,k2,rfl,ho,hn,h,t⟩
theorem nem{P:Program}{k:Nat}(d:Nat):∀(fs:List Field) (ks:List TK) (p1 c1 p2 c2:List Value) (w:World),p1.length=p2.length->pP P k fs p1.length ks->kM ks c1 c2=true->(Op.eqFields (d+k) (p1++c1).toArray (p2++c2).toArray fs).run P w= .ok (oT c1 c2) w
 | [],ks,p1,c1,p2,c2,w,_,h,hs=>by
  cases h
  match c1,c2,hs with
  | [],[],_=>simp[Op.eqFields,oT]
  |_::_,_,hs=>simp[kM]at hs
  | [],_::_,hs=>simp[kM]at hs
 |f::fs,ks,p1,c1,p2,c2,w,hp,h,hs=>by
  obtain⟨k1,k2,rfl,ho,hn,hf,ht⟩:=h;have hl:=nUh hs;simp only[cO]at hl;obtain⟨a1,b1,rfl,fX⟩:∃a b,c1=a++b/\a.length=k1.length:=⟨c1.take k1.length,c1.drop k1.length,(AV _ _).symm,by simp;omega⟩;obtain⟨a2,b2,rfl,dJ⟩:∃a b,c2=a++b/\a.length=k1.length:=⟨c2.take k1.length,c2.drop k1.length,(AV _ _).symm,by simp;omega⟩;rw[n8f fX dJ,mO]at hs;obtain⟨x,y,hx,hy,he⟩:=hf d p1 a1 b1 p2 a2 b2 w hp hs.1;have ih:=nem d fs k2 (p1++a1) b1 (p2++a2) b2 w (by simp[hp,fX,dJ]) (by rw[cO,fX];exact ht) hs.2;simp only[jh]at ih;have hx':(part f.type (p1++(a1++b1)).toArray f.offset).run P w= .ok x w:=by rw[ho];exact hx
  have hy':(part f.type (p2++(a2++b2)).toArray f.offset).run P w= .ok y w:=by rw[ho];exact hy
  rw[nDd aa];simp only[Op.eqFields,if_pos hn,Sem.run_bind,hx',hy',he,Result.andThen];cases hq:oT a1 a2 with
  |false=>simp[Sem.run]
  |true=>
   simp only[Bool.not_true,Bool.false_eq_true,if_false,Bool.true_and];exact ih
theorem u3.struct{fs:List Field}(hU:P.underlying t=some (.struct fs.toArray))(hp:P.stoodInHeld t=false)(h:pP P k fs 0 ks):u3 P (k+1) t ks:=by
 intro d xs ys w hs;have hf:P.fieldsOf t=fs.toArray:=by simp[Program.fieldsOf,hU]
 rw[<-Nat.add_assoc,run_equalIn_struct w (d+k) t xs.toArray ys.toArray (by rw[hf];exact hU) hp,hf];exact nem d fs ks [] xs [] ys w rfl h hs
def mF:Nat->List TK->List TK
 |0,_=>[]
 |n+1,ks=>ks++mF n ks
theorem u3.array{len e:Nat}(hU:P.underlying t=some (.array len e))(hZ:nL P e m)(hm:ks.length=m)(h:mP P k e ks):u3 P (k+1) t (mF len ks):=by
 intro d xs ys w hs;have key:∀(n i:Nat) (p1 c1 p2 c2:List Value),p1.length=i*m->p2.length=i*m->kM (mF n ks) c1 c2=true->
  (do
   for j in List.range' i n do
    if !(<-Op.equalIn (d+k) e (<-part e (p1++c1).toArray (j*m)) (<-part e (p2++c2).toArray (j*m)))then return false
   pure true:Sem Bool).run P w= .ok (oT c1 c2) w:=by
  intro n;induction n with
  |zero=>
   intro i p1 c1 p2 c2 _ _ hs
   match c1,c2,hs with
   | [],[],_=>simp[oT]
   |_::_,_,hs=>simp[mF,kM]at hs
   | [],_::_,hs=>simp[mF,kM]at hs
  |succ n ih=>
   intro i p1 c1 p2 c2 Gc Sn hs;have hl:=nUh hs;simp only[mF,cO]at hl;obtain⟨a1,b1,rfl,fX⟩:∃a b,c1=a++b/\a.length=ks.length:=⟨c1.take ks.length,c1.drop ks.length,(AV _ _).symm,by simp;omega⟩;obtain⟨a2,b2,rfl,dJ⟩:∃a b,c2=a++b/\a.length=ks.length:=⟨c2.take ks.length,c2.drop ks.length,(AV _ _).symm,by simp;omega⟩;simp only[mF]at hs;rw[n8f fX dJ,mO]at hs;obtain⟨x,y,hx,hy,he⟩:=h d p1 a1 b1 p2 a2 b2 w aa hs.1;rw[Gc]at hx hy;have ih':=ih (i+1) (p1++a1) b1 (p2++a2) b2 (by rw[cO,Gc,fX,hm,qh];omega) (by rw[cO,Sn,dJ,hm,qh];omega) hs.2;simp only[jh]at ih';rw[nDd aa];simp only[List.range'_succ,List.forIn_cons,Sem.run_bind,hx,hy,he,Result.andThen]at ih' ⊢;cases hq:oT a1 a2 with
   |false=>simp[Sem.run]
   |true=>
    simp only[Bool.not_true,Bool.false_eq_true,if_false,Bool.true_and,Sem.run_pure];exact ih'
 have:=key len 0 [] xs [] ys zJ zJ hs;simp only[eX]at this;rw[<-Nat.add_assoc];simp only[Op.equalIn,Sem.run_bind,run_underlying hU,Result.andThen_ok,hZ w];all_goals simp_all
section
variable {C:Cx} {E:Env} {G:Gh} {L:List World} {H:ad} {T U:Nat} {x y:Operand}
section
variable {lH bs:Array Value}(h:u3 C.P k T ks)(hk:Nat.ble k 10000=true)(hg:C.P.eqGuardType C.P.depth T=false)(hx:ev E x=some (.agg lH))(hy:ev E y=some (.agg bs))(hs:kM ks lH.toList bs.toList=true)
include lH h hk hg hx hy hs
theorem gG:RV C G L H E (.binOp .eql T x y U) (.bool (oT lH.toList bs.toList)):=λd ty pos aC g a W hF _=>by
 have h1:=h (10000-k) lH.toList bs.toList W hs;rw[show 10000-k+k=10000 by have:=eh hk;omega]at h1;simp only[Array.toArray_toList]at h1;have h2:=run_eql_struct (P:=C.P) W T lH bs;rw[h1]at h2;have h3:=run_eqGuard_agg (P:=C.P) W .eql T x y lH bs hg;simp only[execOp,hF.ev hx,hF.ev hy,Sem.run_bind,h3,h2,Result.andThen];rfl
theorem dT:RV C G L H E (.binOp .neq T x y U) (.bool (!oT lH.toList bs.toList)):=λd ty pos aC g a W hF _=>by
 have h1:=h (10000-k) lH.toList bs.toList W hs;rw[show 10000-k+k=10000 by have:=eh hk;omega]at h1;simp only[Array.toArray_toList]at h1;have h2:=run_neq_struct (P:=C.P) W T lH bs;rw[h1]at h2;have h3:=run_eqGuard_agg (P:=C.P) W .neq T x y lH bs hg;simp only[execOp,hF.ev hx,hF.ev hy,Sem.run_bind,h3,h2,Result.andThen];rfl
end
theorem n5n{T e:Nat}(hU:P.underlying T=some (.slice e))(n c:Nat)(d:Nat)(W:World):(Op.equalIn (d+1) T (.slice none n c) (.slice none 0 0)).run P W= .ok true W:=by
 simp[Op.equalIn,run_underlying hU]
theorem TU{e:Nat}(hU:C.P.underlying T=some (.slice e))(hx:ev E x=some (.slice none 0 0))(hy:ev E y=some (.slice none 0 0)):RV C G L H E (.binOp .eql T x y U) (.bool true):=λd ty pos aC g a W hF _=>by
 have h1:(eqGuard .eql T x y (.slice none 0 0) (.slice none 0 0)).run C.P W= .ok () W:=by simp[eqGuard]
 have h2:(binOp .eql T (.slice none 0 0) (.slice none 0 0)).run C.P W= .ok (.bool true) W:=by
  have e:binOp .eql T (.slice none 0 0) (.slice none 0 0)=(do pure (.bool (<-Op.equalIn (9999+1) T (.slice none 0 0) (.slice none 0 0)))):=rfl;rw[e,Sem.run_bind,n5n hU];rfl
 exact zFh
end
theorem Xp(hK:P.underlying kt=some (.int .i64))(b:Bool)(k:Int):(Instr.checkKey b 10000 kt (.int .i64 k)).run P W= .ok () W:=by
 show(Instr.checkKey b (9999+1) kt (.int .i64 k)).run P W= .ok () W;generalize 9999=n;simp[Instr.checkKey,run_underlying hK]
theorem IX{c:Nat}(h:W.heap[b]? =some (.map es c)):(getObj b).run P W= .ok (.map es c) W:=by simp[getObj,Sem.run,h]
theorem Xq{c:Nat}(o':Obj)(h:W.heap[b]? =some (.map es c)):(setObj b o').run P W= .ok () (W.putObj b o'):=by simp[setObj,Sem.run,h,World.putObj]
section
variable {C:Cx} {Q:bC} {E:Env} {D:List Deferred} {G:Gh} {L:List World} {H:ad} {ops:Array Oper} {l:List Oper}
variable {d T ty:Nat} {pos:String} {aC:Array Edge} {g:Option (Nat×Bool)} {x y z:Operand}
def bE (G:Gh) (L:List World) (H:ad) (b:Nat) (o:Obj):Prop:=∀W,St G L H W->W.heap[b]? =some o
theorem bE.own(hi:H[i]? =some (b,o)):bE G L H b o:=λ_ hS=>hS.own _ (cA hi)
theorem bE.old(hm:w∈L)(hb:w.heap[b]? =some o)(hG:¬G.X b)(hO:bM H b):bE G L H b o:=λ_ hS=>hS.old hm hb hG hO
end
def ai {α:Type} (enc:α->Array Value) (n N:Nat) (w:World) (a:Option Addr) (xs:List α):Prop:=
 xs=[]\/∃b off cs t fr,a=some ⟨b,off,none⟩/\b<N/\w.heap[b]? =some (.cells cs t fr)/\∀i (h:i<xs.length),off+i*n+n<=cs.size/\cut cs (off+i*n) n=enc xs[i]
section
variable {α:Type} {enc:α->Array Value} {n N N':Nat} {w w':World} {a:Option Addr} {xs:List α}
theorem ai.up(h:ai enc n N w a xs)(hN:N<=N')(hw:∀k,k<N->w'.heap[k]? =w.heap[k]?):ai enc n N' w' a xs:=by
 rcases h with h|⟨b,off,cs,t,fr,h1,h2,h3,h4⟩
 ·exact .inl h
 exact .inr ⟨b,off,cs,t,fr,h1,by omega,(hw b h2).trans h3,h4⟩
theorem ai.get(h:ai enc n N w a xs)(hx:0<xs.length):∃b off cs t fr,a=some ⟨b,off,none⟩/\b<N/\w.heap[b]? =some (.cells cs t fr)/\∀i (h:i<xs.length),off+i*n+n<=cs.size/\cut cs (off+i*n) n=enc xs[i]:=by
 rcases h with rfl|h
 ·simp at hx
 exact h
theorem ai.block(hb:b<N)(h:w.heap[b]? =some (.cells cs t fr))(hx:∀i (h:i<xs.length),i*n+n<=cs.size/\cut cs (i*n) n=enc xs[i]):ai enc n N w (some ⟨b,0,none⟩) xs:=
 .inr ⟨b,0,cs,t,fr,rfl,hb,h,λi hi=>by rw[mr];exact hx i hi⟩
end
theorem vD{n:Nat}{r:Array Value}(h:cut cs k n=r)(j:Nat)(hj:j<n):cs[k+j]? =r[j]? :=by grind [cut]
section
variable {α:Type} {enc:α->Array Value} {n off:Nat} {cs:Array Value} {xs:List α}
section
variable (h:∀i (h:i<xs.length),off+i*n+n<=cs.size/\cut cs (off+i*n) n=enc xs[i]){x:α}(hj:xs[j]? =some x){i:Int}(hi:i=(j:Int))
include h hj hi
theorem vh(k:Nat)(hk:k<n):cs[off+i.toNat*n+k]? =(enc x)[k]? :=by
 obtain⟨h1,h2⟩:=gW.1 hj;subst hi;rw[xU,vD (h j h1).2 k hk,h2]
theorem nJ(hn:0<n):cs[off+i.toNat*n]? =(enc x)[0]? :=by
 have:=vh h hj hi 0 hn;rwa[Nat.add_zero]at this
theorem dU:cut cs (off+i.toNat*n) n=enc x:=by grind
theorem dc:off+i.toNat*n+n<=cs.size:=by grind
end
end
def encI (x:Int):Array Value:=#[.int .i64 x]
theorem np{α:Type}{xs:List α}{x:α}(h:xs[j]? =some x):xs.take (j+1)=xs.take j++[x]:=by
 obtain⟨h1,h2⟩:=gW.1 h;rw[Oh h1,h2]
theorem ng{α:Type}(xs:List α)(j:Nat)(h:j<xs.length):∃x,xs[j]? =some x:=⟨_,lj h⟩
theorem nq{α:Type}{xs:List α}{x:α}(h:xs[j]? =some x):j<xs.length:=(gW.1 h).1
section
variable {C:Cx} {Q:bC} {fn:Func} {R:Ending->World->Prop} {E:Env} {D:List Deferred} {G:Gh} {L L':List World} {H:ad} {e:Exit}
theorem B1(h:∀w∈L',w∈L)(k:PJ C Q e E D G L' H):PJ C Q e E D G L H:=λa W hN hD hF hS=>k a W hN hD hF (hS.lessL h)
end
section
variable {C:Cx} {E:Env} {G:Gh} {L:List World} {H:ad} {T:Nat} {x y:Operand}
end
theorem RH{C:Cx}{E:Env}{T U:Nat}{y:Operand}{a b:Bool}(hU:C.P.underlying T=some .bool)(hx:ev E x=some (.bool a))(hy:ev E y=some (.bool b)):RV C G L H E (.binOp .eql T x y U) (.bool (a==b)):=λd ty pos aC g ac W hF _=>by
 have h1:(Op.equalIn (9999+1) T (.bool a) (.bool b)).run C.P W= .ok (a==b) W:=by
  generalize 9999=n;simp[Op.equalIn,run_underlying hU]
 have h2:(binOp .eql T (.bool a) (.bool b)).run C.P W= .ok (.bool (a==b)) W:=by
  have e:binOp .eql T (.bool a) (.bool b)=(do pure (.bool (<-Op.equalIn (9999+1) T (.bool a) (.bool b)))):=rfl;rw[e,Sem.run_bind,h1];rfl
 have h3:(eqGuard .eql T x y (.bool a) (.bool b)).run C.P W= .ok () W:=by simp[eqGuard]
 simp only[execOp,hF.ev hx,hF.ev hy,Sem.run_bind,h3,h2,Result.andThen];rfl
section
variable {H:Type} {enc:TypeId×Value->H} {P:Program} {w:World} {held:Bool}
end
/-! ### rows of elements: a list that grows from nil -/
/-- the cells of a list of elements -/
def iB {α:Type} (enc:α->List Value) (xs:List α):List Value:=xs.flatMap enc
theorem sT{α:Type}{enc:α->List Value}(h:∀x,(enc x).length=m)(xs:List α):(iB enc xs).length=xs.length*m:=by induction xs<;>grind [iB]
theorem OF{α:Type}(enc:α->List Value)(xs ys:List α):iB enc (xs++ys)=iB enc xs++iB enc ys:=by simp[iB]
theorem N3{α:Type}(enc:α->List Value)(x:α):iB enc [x]=enc x:=by simp[iB]
theorem ZE{α:Type}{enc:α->List Value}{m:Nat}(h:∀x,(enc x).length=m):∀(xs:List α) (sp:List Value) (i:Nat) (hi:i<xs.length),((iB enc xs++sp).drop (i*m)).take m=enc xs[i]
 | [],_,i,hi=>by simp at hi
 |x::xs,sp,0,_=>by
  simp only[iB,Vx,Nat.zero_mul,Pu,jh,List.getElem_cons_zero];rw[QT (h x)]
 |x::xs,sp,i+1,hi=>by
  have:=ZE h xs sp i (by simpa using hi);simp only[iB,Vx,jh,List.getElem_cons_succ]at *;rw[show(i+1)*m=m+i*m by rw[qh];omega,<-Wo,List.drop_left' (h x)];exact this
theorem IY{α:Type}{enc:α->List Value}(h:∀x,∀u∈enc x,u.oneCell'=true)(xs:List α):∀u∈iB enc xs,u.oneCell'=true:=by
 intro u hu;obtain⟨x,_,hx⟩:=xz.1 hu;exact h x u hx
inductive Rw where
 |nil
 |row (b cap:Nat) (sp:List Value)
def Rw.val (n:Nat):Rw->Value
 | .nil=>.slice none 0 0
 | .row b cap _=>.slice (some ⟨b,0,none⟩) n cap
theorem Rw.val_cells(n:Nat)(r:Rw):(r.val n).cells=#[r.val n]:=by cases r<;>rfl
theorem Rw.val_size(n:Nat)(r:Rw):(r.val n).cells.size=1:=by cases r<;>rfl
theorem Rw.val_one(n:Nat)(r:Rw):bD (r.val n).cells.toList=true:=by cases r<;>rfl
abbrev bj {α:Type} (enc:α->List Value) (t:Nat) (xs:List α) (sp:List Value):Obj:=.cells (iB enc xs++sp).toArray t (0,0)
def Rw.hp {α:Type} (enc:α->List Value) (t:Nat) (xs:List α):Rw->ad
 | .nil=>[]
 | .row b _ sp=>[(b,bj enc t xs sp)]
def Rw.Fit {α:Type} (m:Nat) (xs:List α):Rw->Prop
 | .nil=>xs=[]
 | .row _ cap sp=>xs.length<=cap/\sp.length=(cap-xs.length)*m
def Rw.Fr (G:Gh) (L:List World):Rw->Prop
 | .nil=>True
 | .row b _ _=>Px.Fr G L b
def Rw.ge (n:Nat):Rw->Prop
 | .nil=>True
 | .row b _ _=>n<=b
def Rw.isAt (k:Nat):Rw->Prop
 | .nil=>False
 | .row b _ _=>b=k
variable {r:Rw}
theorem Rw.Fr_at(h:r.Fr G L)(hk:r.isAt k):Px.Fr G L k:=by
 cases r with
 |nil=>exact hk.elim
 |row b cap sp=>cases hk;exact h
theorem Rw.ge_at{n:Nat}(h:r.ge n)(hk:r.isAt k):n<=k:=by
 cases r with
 |nil=>exact hk.elim
 |row b cap sp=>cases hk;exact h
def Rw.At {α:Type} (enc:α->List Value) (t:Nat) (xs:List α) (w:World):Rw->Prop
 | .nil=>True
 | .row b _ sp=>w.heap[b]? =some (bj enc t xs sp)
theorem Rw.mem_at{α:Type}{enc:α->List Value}{xs:List α}(hk:r.isAt k):k∈(r.hp enc t xs).map (·.1):=by
 cases r with
 |nil=>exact hk.elim
 |row b cap sp=>cases hk;simp[Rw.hp]
theorem Rw.off_ge{α:Type}{enc:α->List Value}{n:Nat}{xs:List α}(h:r.ge n)(hk:k<n):bM (r.hp enc t xs) k:=by
 cases r with
 |nil=>trivial
 |row b cap sp=>exact⟨by have:n<=b:=h;omega,trivial⟩
theorem Rw.ge_mono{n n':Nat}(h:r.ge n)(hn:n'<=n):r.ge n':=by
 cases r with
 |nil=>trivial
 |row b cap sp=>exact eE hn h
theorem Rw.over{α:Type}{enc:α->List Value}{n:Nat}{xs:List α}(h:r.ge n):Over n (r.hp enc t xs):=by
 cases r with
 |nil=>trivial
 |row b cap sp=>exact⟨h,trivial⟩
theorem iu:bM (H++H') k↔bM H k/\bM H' k:=by induction H<;>grind [bM]
theorem nC:Over k (H++H')↔Over k H/\Over k H':=by induction H<;>grind [Over]
theorem Fr.ge(h:Px.Fr G L b)(hX:¬G.X b)(hw:w∈L):w.heap.size<=b:=by
 rcases h with h|h
 ·exact absurd h hX
 exact h.mem w hw
theorem Rw.ge_of(h:r.Fr Gh.no L)(hw:w∈L):r.ge w.heap.size:=by
 cases r with
 |nil=>trivial
 |row b cap sp=>exact Fr.ge (G:=Gh.no) h zI hw
theorem Rw.mem_ge{α:Type}{enc:α->List Value}{n:Nat}{xs:List α}(h:r.ge n)(hk:k∈(r.hp enc t xs).map (·.1)):n<=k:=by
 cases r with
 |nil=>simp[Rw.hp]at hk
 |row b cap sp=>simp[Rw.hp]at hk;subst hk;exact h
structure jN (P:Program) (t e m:Nat):Prop where
 und:P.underlying t=some (.slice e)
 info:∃ti z,P.info? e=some ti/\ti.zero=some z/\ti.size=m/\z.cells.size=m/\ti.bytes<=100000
section
variable {C:Cx} {Q:bC} {E:Env} {D:List Deferred} {G:Gh} {L:List World} {H H0 H1:ad} {ops:Array Oper} {l:List Oper}
variable {d T ty f:Nat} {pos:String} {aC:Array Edge} {g:Option (Nat×Bool)} {x y:Operand} {xo:List Operand} {vs:List Value} {eJ:Array Nat}
variable {α:Type} {enc:α->List Value} {m:Nat}
def cD (C:Cx) (G:Gh) (L:List World) (H:ad) (enc:α->List Value) (m tx:Nat) (sv:Value) (zs:List α):Prop:=px C G L H m tx sv zs.length (iB enc zs)
theorem cD.at{tx e' c:Nat}{zs:List α}(hm:∀x,(enc x).length=m)(h1:∀x,∀u∈enc x,u.oneCell'=true)(hU:C.P.underlying tx=some (.slice e'))(hb:bE G L H b (.cells cs t fr))(hn:off+zs.length*m<=cs.size)(he:(cs.toList.drop off).take (zs.length*m)=iB enc zs):cD C G L H enc m tx (.slice (some ⟨b,off,none⟩) zs.length c) zs:=
 px.sl hU (λW hS=>by rw[nKh (hb W hS) hn];unfold cut;rw[he]) (sT hm zs) (IY h1 zs)
theorem cD.one{tx e' c:Nat}{z:α}(hm:∀x,(enc x).length=m)(h1:∀x,∀u∈enc x,u.oneCell'=true)(hU:C.P.underlying tx=some (.slice e'))(hb:bE G L H b (.cells (enc z).toArray t fr)):cD C G L H enc m tx (.slice (some ⟨b,0,none⟩) 1 c) [z]:=
 cD.at (zs:=[z]) hm h1 hU hb (by simp[hm]) (by simp only[Pu,List.length_singleton,Nat.one_mul,N3];rw[<-hm z];exact uw)
theorem kz{e tx:Nat}{xs zs:List α}(hH:H=H0++(r.hp enc e xs++H1))(hT:jN C.P t e m)(hm:∀x,(enc x).length=m)(hw:nr ops E g=some true)(hN:Nat.blt d C.N=true)(hx:ev E x=some (r.val xs.length))(hy:ev E y=some sv)(hs:cD C G L H enc m tx sv zs)(hr:r.Fit m xs)(hf:r.Fr G L)(h0:0<zs.length)(ju:xs.length+zs.length<=1000000)(k:∀(b' aZ:Nat) (bY:List Value),(r.isAt b'\/ah L b')->(Rw.row b' aZ bY).Fit m (xs++zs)->OJ C ops Q l ((d,.slice (some ⟨b',0,none⟩) (xs++zs).length aZ)::E) D G L (H0++((b',bj enc e (xs++zs) bY)::H1))):OJ C ops Q (⟨some d,.call ⟨.builtin .append,#[x,y],#[t,tx]⟩,ty,pos,aC,g⟩::l) E D G L H:=
 ru zJ hw hN λa W hF hS=>by
  obtain⟨ti,z,qY,hz,mq,AQ,rk⟩:=hT.info;have hl:(xs++zs).length=xs.length+zs.length:=cO;have hB:(xs.length+zs.length)*ti.bytes<=140737488355328:=eE (Nat.mul_le_mul ju rk) zA;cases r with
  |nil=>
   have tG:xs=[]:=hr;subst tG;rw[fO,mr]at hB;obtain⟨aZ,bY,W',gq,hQ,Az,kJ⟩:=hS.appN (P:=C.P) (ty:=ty) hT.und qY hz mq AQ (hs.src hS) h0 aa hB;refine⟨.slice (some ⟨W.heap.size,0,none⟩) zs.length aZ,W',L,H0++((W.heap.size,bj enc e ([]++zs) bY)::H1),?_,?_,?_⟩
   ·have Xj:ev E x=some (.slice none 0 0):=hx;simp[execOp,hF.ev Xj,hF.ev hy,resolve,invoke,Deferred.ofValue,builtin,gq]
   ·rw[hH]at hQ;exact hQ.perm (by simpa[Rw.hp,eX]using List.perm_middle.symm)
   exact k _ _ _ (.inr hS.sizes) ⟨by simpa using Az,by simpa using kJ⟩
  |row b cap sp=>
   obtain⟨hc,wG⟩:=hr;have hi:H[H0.length]? =some (b,.cells (iB enc xs++sp).toArray e (0,0)):=by rw[hH];simp[Rw.hp]
   obtain⟨b',aZ,bY,W',gq,hQ,eP,Az,kJ⟩:=hS.app (P:=C.P) (ty:=ty) hi hT.und qY hz mq AQ (hs.src hS) (sT hm xs) wG hc hf aa hB;have hFr:(Rw.row b cap sp).isAt b'\/ah L b':=by
    rcases eP with rfl|eP
    ·exact .inl rfl
    exact .inr (CD hS eP)
   refine⟨.slice (some ⟨b',0,none⟩) (xs.length+zs.length) aZ,W',L,_,?_,hQ,?_⟩
   ·have Xj:ev E x=some (.slice (some ⟨b,0,none⟩) xs.length cap):=hx;simp[execOp,hF.ev Xj,hF.ev hy,resolve,invoke,Deferred.ofValue,builtin,gq]
   have:=k b' aZ bY hFr ⟨by rw[hl];exact Az,by rw[hl];exact kJ⟩;rw[hl]at this;rw[hH];simpa[Rw.hp,bj,OF]using this
theorem Rw.sl{xs:List α}(hm:∀x,(enc x).length=m)(hr:r.Fit m xs)(hA:r.At enc t xs w)(hN:w.heap.size<=N):∃a cap,r.val xs.length= .slice a xs.length cap/\ai (λx=>(enc x).toArray) m N w a xs:=by
 cases r with
 |nil=>
  have tG:xs=[]:=hr;subst tG;exact⟨none,0,rfl,.inl rfl⟩
 |row b cap sp=>
  have hA':w.heap[b]? =some (bj enc t xs sp):=hA;refine⟨_,_,rfl,ai.block (qH (bA.1 hA').1 hN) hA' λi hi=>⟨?_,?_⟩⟩
  ·have h1:(i+1)*m<=xs.length*m:=w6 _ hi;rw[qh]at h1;simp only[rh,cO,sT hm];omega
  unfold cut;rw[ZE hm xs sp i hi]
def aD (w:World) (enc:α->List Value) (m t:Nat) (xs:List α) (v:Value->Value):Ending->World->Prop:=λe w'=>
 ∃r:Rw,e= .returned (v (r.val xs.length))/\Below w.heap.size w w'/\r.ge w.heap.size/\r.Fit m xs/\r.At enc t xs w'
section
variable {xs:List α}(hx:ev E fv=some (.func (.func f) first.toArray cap.toArray))(aA:eU C.P f)(hw:nr ops E g=some true)(hN:Nat.blt d C.N=true)(ha:jy E xo=some vs)
include hx aA hw hN ha
theorem Jj(hc:∀W,St G L H W->Calls C.P f (first++vs++cap).toArray W (aD W enc m t xs v))(k:∀r:Rw,r.Fr G L->r.Fit m xs->OJ C ops Q l ((d,v (r.val xs.length))::E) D G L (r.hp enc t xs++H)):OJ C ops Q (⟨some d,.call ⟨.value fv,xo.toArray,eJ⟩,ty,pos,aC,g⟩::l) E D G L H:=
 nK rfl hw hx ha zJ aA λa W jz hD hF hS=>(hc W hS).mono (by
  rintro ed W' ⟨r,rfl,hb,jI,bP,fJ⟩;refine k r ?_ bP (a.put (some d) (v (r.val xs.length))) W' z8 z6 (hF.put _ z7) ?_
  ·cases r with
   |nil=>trivial
   |row b cap sp=>exact Fr.up hS jI
  cases r with
  |nil=>exact hS.step hb
  |row b cap sp=>exact(hS.step hb).adopt fJ (DF hS jI) (λhv=>by have:=hS.vlt _ hv;have:W.heap.size<=b:=jI;omega))
theorem nH(hm:∀x,(enc x).length=m)(hc:∀W,St G L H W->Calls C.P f (first++vs++cap).toArray W (aD W enc m t xs v))(k:∀W a cp w1,St G L H W->Below W.heap.size W w1->ai (λx=>(enc x).toArray) m w1.heap.size w1 a xs->(∀b,a=some b->W.heap.size<=b.block)->OJ C ops Q l ((d,v (.slice a xs.length cp))::E) D G (w1::L) H):OJ C ops Q (⟨some d,.call ⟨.value fv,xo.toArray,eJ⟩,ty,pos,aC,g⟩::l) E D G L H:=
 nK rfl hw hx ha zJ aA λac W jz hD hF hS=>(hc W hS).mono (by
  rintro ed W' ⟨r,rfl,hb,jI,bP,fJ⟩;obtain⟨a,cp,he,aH⟩:=r.sl hm bP fJ (aj _);have:=k W a cp W' hS hb aH (by
   intro b qQ;cases r with
   |nil=>simp only[Rw.val,Value.slice.injEq]at he;rw[<-he.1]at qQ;cases qQ
   |row b' cap sp=>simp only[Rw.val,Value.slice.injEq]at he;rw[<-he.1]at qQ;cases qQ;exact jI) (ac.put (some d) (v (.slice a xs.length cp))) W' z8 z6 (hF.put _ z7) (hS.step hb).snap
  rw[he];exact this)
end
theorem nQ{xs:List α}(he:e= .ret\/e= .normal)(hr:fn.results=rs.toArray)(h:RS C Gh.no L H E rs us)(hw:w∈L)(ho:Over w.heap.size H)(hv:MW us=v (r.val xs.length))(bP:r.Fit m xs)(jI:r.ge w.heap.size)(hH:H=H0++(r.hp enc t xs++H1)):PJ C (bodyPost C.P fn (aD w enc m t xs v)) e E [] Gh.no L H:=
 bQ he hr h λW hS=>⟨r,by rw[hv],hS.base hw ho,jI,bP,by
  cases r with
  |nil=>trivial
  |row b cap sp=>exact hS.own (b,bj enc t xs sp) (by rw[hH];simp[Rw.hp])⟩
end
def az (x:Int):List Value:=[.int .i64 x]
theorem ny(x:Int):(az x).length=1:=rfl
theorem OE(x:Int):∀u∈az x,u.oneCell'=true:=by intro u hu;simp[az]at hu;subst hu;rfl
/-! ### iterators whose consumer lays blocks on the way -/
abbrev aI:=Nat->Prop
def rn (V:aI) (W1 W2:World):aI:=λk=>V k\/(W1.heap.size<=k/\k<W2.heap.size)
def uT (P:Program) (f:Nat) (cap:List Value) {α:Type} (enc:α->List Value) (Pre Fin:List α->Prop) (MI RO:aI) (W:World):Prop:=
 ∀(l:Nat) (M:aI) (I:List α->aI->World->Prop) (X:aI->World->Prop),
  (∀k,M k->k<W.heap.size/\¬MI k/\¬RO k)->
  (∀pre V,gk (λk=>(k<W.heap.size/\¬MI k)\/V k) (I pre V))->(∀V,gk (λk=>(k<W.heap.size/\¬MI k)\/V k) (X V))->
  (∀pre x V W1,Pre (pre++[x])->(∀k,V k->W.heap.size<=k/\k<W1.heap.size)->I pre V W1->SX P l (enc x).toArray W1 (λb W2=>aQ (λk=>M k\/V k) W1 W2/\(if b then I (pre++[x]) (rn V W1 W2) W2 else X (rn V W1 W2) W2)))->
  I [] (λ_=>False) W->
  Calls P f (yv l::cap).toArray W (λe W'=>(∃v,e= .returned v)/\aQ (λk=>M k\/MI k) W W'/\∃V,(∃xs,Fin xs/\I xs V W')\/X V W')
abbrev CW {α:Type} (xs:List α):List α->Prop:=(· <+:xs)
abbrev Is {α:Type} (xs:List α):List α->Prop:=(· =xs)
theorem St.yield2{G':Gh}{W':World}(h:St G L H W)(hk:aQ G.M W W')(hX:∀k,G.X k->G'.X k)(hX':∀k,G'.X k->G.X k\/(W.heap.size<=k/\k<W'.heap.size))(hV:∀k,G'.V k->G.V k\/(W.heap.size<=k/\k<W'.heap.size))(hR:G'.R W'):St G' L H W' where
 ghost:=hR
 vlt:=λk hv=>by
  rcases hV k hv with h1|h1
  ·exact qH (h.vlt k h1) hk.size
  exact h1.2
 xlt:=λk hv=>by
  rcases hX' k hv with h1|h1
  ·exact qH (h.xlt k h1) hk.size
  exact h1.2
 links:=λw hw=>((h.links w hw).mono (Y:=λk=>G'.X k\/k∈H.map (·.1)) λk _ hx=>hx.imp (hX k) id).trans (hk.mono λk _ hm=>.inl (hX k (G.subX k hm)))
 own:=λp hp=>by rw[hk.block p.1 (h.lt p hp) (λhm=>h.apart p hp (G.sub _ hm))];exact h.own p hp
 nodup:=h.nodup
 apart:=λp hp hv=>by
  rcases hV _ hv with h1|h1
  ·exact h.apart p hp h1
  have:=h.lt p hp;omega
section
variable {C:Cx} {Q:bC} {E:Env} {D:List Deferred} {G:Gh} {L:List World} {H:ad} {ops:Array Oper} {l:List Oper}
variable {d ty:Nat} {pos:String} {aC:Array Edge} {g:Option (Nat×Bool)} {x:Operand} {xs:List Operand} {vs:List Value} {eJ:Array Nat}
structure Next (G:Gh) (W W':World) (G':Gh):Prop where
 x:∀k,G.X k->G'.X k
 x':∀k,G'.X k->G.X k\/(W.heap.size<=k/\k<W'.heap.size)
 v:∀k,G'.V k->G.V k\/(W.heap.size<=k/\k<W'.heap.size)
 r:G'.R W'
theorem U6{y:Nat}(T1 T2:Gh->Prop)(hw:nr ops E g=some true)(hN:Nat.blt d C.N=true)(hx:ev E x=some (yv y))(ha:jy E xs=some vs)(hy:∀W,St G L H W->SX C.P y vs.toArray W (λb W'=>aQ G.M W W'/\∃G',(if b then T1 G' else T2 G')/\Next G W W' G'))(k1:∀G',T1 G'->OJ C ops Q l ((d,.bool true)::E) D G' L H)(k2:∀G',T2 G'->OJ C ops Q l ((d,.bool false)::E) D G' L H):OJ C ops Q (⟨some d,.call ⟨.value x,xs.toArray,eJ⟩,ty,pos,aC,g⟩::l) E D G L H:=by
 intro a W jz hD hF hS;obtain⟨fn,tmps,assign,body,gq,p5⟩:=hy W hS;unfold wpListIn;rw[if_pos (BB hF hw)];refine⟨λ_ _=>trivial,?_⟩;have hr:(execOp a.eval ⟨some d,.call ⟨.value x,xs.toArray,eJ⟩,ty,pos,aC,g⟩).run C.P W= .ok (.round y fn tmps assign body) W:=by
  have h2:(xs.toArray).map a.eval=vs.toArray:=by rw[DH,NL hF xs vs ha]
  simp only[execOp,resolve,hF.ev hx,Deferred.ofValue,h2];simp[invoke,gq]
 rw[Oper.semAt_eq _ _ _ zJ,hr,Oper.uponIn_round];refine⟨by simp,(nRo p5).mono ?_⟩;rintro e W' ⟨b,rfl,hk,G',hT,hn⟩;have bP:=λv=>hF.put (d:=d) v z7;have hQ:=hS.yield2 hk hn.x hn.x' hn.v hn.r;cases b with
 |true=>exact k1 G' hT (a.put (some d) (.bool true)) W' z8 z6 (bP _) hQ
 |false=>exact k2 G' hT (a.put (some d) (.bool false)) W' z8 z6 (bP _) hQ
end
def dD {W:World} {MI RO M:aI} (hM:∀k,M k->k<W.heap.size/\¬MI k/\¬RO k) (V:aI) {R:World->Prop} (hR:gk (λk=>(k<W.heap.size/\¬MI k)\/V k) R):Gh where
 M:=λk=>M k\/V k
 V:=λk=>(k<W.heap.size/\¬MI k)\/V k
 R:=R
 X:=λk=>M k\/V k
 sub:=λk hk=>hk.imp (λh=>⟨(hM k h).1,(hM k h).2.1⟩) id
 subX:=λ_ hk=>hk
 stab:=hR
def Gh.ext (G:Gh) (Z:aI):Gh:={G with X:=λk=>G.X k\/Z k,subX:=λk h=>.inl (G.subX k h)}
theorem Rw.Fr_ext{α:Type}{enc:α->List Value}{xs:List α}{Z:aI}(h:∀p∈r.hp enc t xs,Z p.1):r.Fr (G.ext Z) L:=by
 cases r with
 |nil=>trivial
 |row b cap sp=>exact .inl (.inr (h (b,bj enc t xs sp) oV))
theorem Oi{MI RO M:aI}(hM:∀k,M k->k<W.heap.size/\¬MI k/\¬RO k){R:World->Prop}(hR:gk (λk=>(k<W.heap.size/\¬MI k)\/(λ_=>False) k) R)(h0:R W)(ho:∀p∈H,W.heap[p.1]? =some p.2)(hd:lO H)(hm:∀p∈H,MI p.1):St (dD hM (λ_=>False) hR) [W] H W where
 ghost:=h0
 vlt:=λk hk=>by rcases hk with h|h;exact h.1;exact h.elim
 xlt:=λk hk=>by rcases hk with h|h;exact(hM k h).1;exact h.elim
 links:=λw hw=>by simp at hw;subst hw;exact aQ.refl _ _
 own:=ho
 nodup:=hd
 apart:=λp hp hv=>by rcases hv with h|h;exact h.2 (hm p hp);exact h.elim
section
variable {C:Cx} {Q:bC} {E:Env} {D:List Deferred} {L:List World} {H:ad} {ops:Array Oper} {l:List Oper}
variable {d ty:Nat} {pos:String} {aC:Array Edge} {g:Option (Nat×Bool)} {x:Operand} {xs:List Operand} {vs:List Value} {eJ:Array Nat}
variable {W0:World} {MI RO M:aI} {hM:∀k,M k->k<W0.heap.size/\¬MI k/\¬RO k}
variable {I1 X1:aI->World->Prop}
theorem BO{y:Nat}{V:aI}{hI:gk (λk=>(k<W0.heap.size/\¬MI k)\/V k) I}(lI:∀V,gk (λk=>(k<W0.heap.size/\¬MI k)\/V k) (I1 V))(gi:∀V,gk (λk=>(k<W0.heap.size/\¬MI k)\/V k) (X1 V))(hV:∀k,V k->W0.heap.size<=k)(hw0:W0∈L)(hw:nr ops E g=some true)(hN:Nat.blt d C.N=true)(hx:ev E x=some (yv y))(ha:jy E xs=some vs)(hy:∀W1,(∀k,V k->W0.heap.size<=k/\k<W1.heap.size)->I W1->SX C.P y vs.toArray W1 (λb W2=>aQ (λk=>M k\/V k) W1 W2/\(if b then I1 (rn V W1 W2) W2 else X1 (rn V W1 W2) W2)))(k1:∀V2,(∀k,V2 k->W0.heap.size<=k)->OJ C ops Q l ((d,.bool true)::E) D (dD hM V2 (lI V2)) L H)(k2:∀V2,(∀k,V2 k->W0.heap.size<=k)->OJ C ops Q l ((d,.bool false)::E) D (dD hM V2 (gi V2)) L H):OJ C ops Q (⟨some d,.call ⟨.value x,xs.toArray,eJ⟩,ty,pos,aC,g⟩::l) E D (dD hM V hI) L H:=by
 refine U6 (λG'=>∃V2,(∀k,V2 k->W0.heap.size<=k)/\G'=dD hM V2 (lI V2)) (λG'=>∃V2,(∀k,V2 k->W0.heap.size<=k)/\G'=dD hM V2 (gi V2)) hw hN hx ha (λW1 hS=>?_) (by rintro _ ⟨V2,h2,rfl⟩;exact k1 V2 h2) (by rintro _ ⟨V2,h2,rfl⟩;exact k2 V2 h2);obtain⟨fn,tmps,assign,body,gq,p5⟩:=hy W1 (λk hk=>⟨hV k hk,hS.xlt k (.inr hk)⟩) hS.ghost;have h0:W0.heap.size<=W1.heap.size:=(hS.links W0 hw0).size;have hv:∀W2 k,rn V W1 W2 k->W0.heap.size<=k:=λW2 k hk=>by
  rcases hk with hk|hk
  ·exact hV k hk
  omega
 refine⟨fn,tmps,assign,body,gq,p5.mono ?_⟩;rintro e W2 ⟨b,rfl,hk,hb⟩;refine⟨b,rfl,hk,?_⟩;have up3:∀{p:aI} (k:Nat),(p k\/rn V W1 W2 k)->(p k\/V k)\/(W1.heap.size<=k/\k<W2.heap.size):=λk h=>h.elim (λh=>.inl (.inl h)) (λh=>h.elim (λh=>.inl (.inr h)) .inr);cases b with
 |true=>exact⟨dD hM (rn V W1 W2) (lI _),⟨_,hv W2,rfl⟩,⟨λk h=>h.imp id .inl,λk h=>up3 (p:=M) k h,λk h=>up3 (p:=λk=>k<W0.heap.size/\¬MI k) k h,hb⟩⟩
 |false=>exact⟨dD hM (rn V W1 W2) (gi _),⟨_,hv W2,rfl⟩,⟨λk h=>h.imp id .inl,λk h=>up3 (p:=M) k h,λk h=>up3 (p:=λk=>k<W0.heap.size/\¬MI k) k h,hb⟩⟩
theorem BP{V:aI}{hI:gk (λk=>(k<W0.heap.size/\¬MI k)\/V k) I}{α:Type}{Fin:List α->Prop}{I':List α->aI->World->Prop}{X:aI->World->Prop}(he:e= .ret\/e= .normal)(hr:fn.results=#[])(hw:W0∈L)(hV:∀k,V k->W0.heap.size<=k)(hH:∀k,k<W0.heap.size->k∈H.map (·.1)->MI k)(h:∀A,I A->(∃xs,Fin xs/\I' xs V A)\/X V A):PJ C (bodyPost C.P fn (λe W'=>(∃v,e= .returned v)/\aQ (λk=>M k\/MI k) W0 W'/\∃V,(∃xs,Fin xs/\I' xs V W')\/X V W')) e E [] (dD hM V hI) L H:=by
 intro a W' _ hD _ hS;have key:bodyPost C.P fn (λe W'=>(∃v,e= .returned v)/\aQ (λk=>M k\/MI k) W0 W'/\∃V,(∃xs,Fin xs/\I' xs V W')\/X V W') .normal a W':=by
  refine⟨hD,.tuple #[],results_none hr _ _ _,⟨_,rfl⟩,(hS.links W0 hw).mono λk hk hx=>?_,V,h W' hS.ghost⟩;exact z9h
 exact z4h
end
/-! #### the consumer -/
section
variable {α:Type}
structure Loc (W1:World) (MI M V:aI) (G':Gh) (Hc:ad):Prop where
 v:∀k,G'.V k->(k<W1.heap.size/\¬MI k)\/V k
 x:∀k,G'.X k->M k\/V k
 h:∀p∈Hc,M p.1\/V p.1
def rI2 (W1:World) (MI M:aI) (L:List World) (Inv:List α->Gh->ad->Prop) (l:Nat) (rec:Loop) (bx:ad) (pre:List α) (V:aI) (W:World):Prop:=
 ∃G' Hc,Inv pre G' Hc/\Loc W1 MI M V G' Hc/\St G' L (book Hc l rec bx) W
def rX2 (W1:World) (MI M:aI) (L:List World) (ew:Code->Gh->ad->Prop) (l:Nat) (rec:Loop) (bx:ad) (V:aI) (W:World):Prop:=
 ∃c G' Hc,ew c G' Hc/\Loc W1 MI M V G' Hc/\St G' L (book Hc l {rec with state:=.done,pending:=some c} bx) W
def ngk (P:Program) (W1:World) (MI M:aI) (L:List World) (V:aI) (Wy:World) (Inv:List α->Gh->ad->Prop) (ew:Code->Gh->ad->Prop) (l:Nat) (rec:Loop) (bx:ad) (pre:List α):bC:=
 roundPost P l (λe W'=>∃b,e= .returned (.bool b)/\aQ (λk=>M k\/V k) Wy W'/\(if b then rI2 W1 MI M L Inv l rec bx pre (rn V Wy W') W' else rX2 W1 MI M L ew l rec bx (rn V Wy W') W'))
structure AE (G:Gh) (H:ad) (L:List World) (Dk:Nat) (W1:World) (MI M V:aI) (Wy:World) (G':Gh) (Hc:ad):Prop where
 loc:Loc W1 MI M V G' Hc
 m:∀k,M k->G.X k\/k∈H.map (·.1)\/k=Dk\/k=Dk+1
 m':∀k,k=Dk\/k=Dk+1->M k
 vge:∀k,V k->W1.heap.size<=k
 dk:Dk+1<W1.heap.size
 above:∀w∈L,w.heap.size<=Dk
theorem AE.z{Dk:Nat}{W1:World}{MI M V:aI}{Wy:World}{G':Gh}{Hc:ad}(h:AE G H L Dk W1 MI M V Wy G' Hc)(hk:k<Dk)(hX:¬G.X k)(hH:k∉H.map (·.1))(hX':¬G'.X k):¬(G'.ext (λk=>M k\/V k)).X k:=by
 rintro(hx|hx|hx)
 ·exact hX' hx
 ·rcases h.m k hx with hx|hx|hx|hx
  ·exact hX hx
  ·exact hH hx
  ·omega
  omega
 have:=h.vge k hx;have:=h.dk;omega
section
variable {C:Cx} {E:Env} {D:List Deferred} {G G' G2:Gh} {L:List World} {H Hc Hc2:ad} {W1 Wy:World} {MI M V:aI} {Inv:List α->Gh->ad->Prop} {ew:Code->Gh->ad->Prop} {l Dk:Nat} {rec ml:Loop} {pre:List α}
structure N4 (G G' G2:Gh) (H Hc Hc2:ad) (L:List World) (Wy:World):Prop where
 gx:∀k,G.X k->G2.X k
 x:∀k,G2.X k->G'.X k\/Wy.heap.size<=k
 v:∀k,G2.V k->G'.V k\/Wy.heap.size<=k
 h:∀p∈Hc2,p.1∈Hc.map (·.1)\/Wy.heap.size<=p.1
 gone:∀p∈H,p.1∈Hc2.map (·.1)\/G2.X p.1\/ah L p.1
theorem N4.ok(he:N4 G G' G2 H Hc Hc2 L Wy)(hl:AE G H L Dk W1 MI M V Wy G' Hc)(mm:l=Dk+1){W':World}{o:Loop}(hS:St (G2.ext λk=>M k\/V k) (Wy::L) (book Hc2 l o (ji Dk)) W'):aQ (λk=>M k\/V k) Wy W'/\Loc W1 MI M (rn V Wy W') G2 Hc2/\St G2 L (book Hc2 l o (ji Dk)) W':=by
 have Xr:∀p∈Hc,M p.1\/V p.1:=hl.loc.h;have ac8:∀k,k∈Hc.map (·.1)->M k\/V k:=λk hk=>by obtain⟨p,hp,rfl⟩:=bT.1 hk;exact Xr p hp
 have hb:∀k,k∈(book Hc2 l o (ji Dk)).map (·.1)↔k∈Hc2.map (·.1)\/k=Dk+1\/k=Dk:=λk=>by subst mm;simp[book]
 refine⟨(hS.links Wy A0).mono λk hk hx=>?_,⟨λk hv=>?_,λk hx=>?_,λp hp=>?_⟩,?_⟩
 ·rcases hx with(hx|hx)|hx
  ·rcases he.x k hx with h1|h1
   ·exact hl.loc.x k h1
   omega
  ·exact hx
  rcases(hb k).1 hx with hx|hx
  ·obtain⟨p,hp,rfl⟩:=bT.1 hx;rcases he.h p hp with h1|h1
   ·exact ac8 _ h1
   omega
  exact .inl (hl.m' k hx.symm)
 ·rcases he.v k hv with h1|h1
  ·exact(hl.loc.v k h1).imp id .inl
  exact .inr (.inr ⟨h1,hS.vlt k hv⟩)
 ·rcases he.x k hx with h1|h1
  ·exact(hl.loc.x k h1).imp id .inl
  exact .inr (.inr ⟨h1,hS.xlt k (.inl hx)⟩)
 ·rcases he.h p hp with h1|h1
  ·exact(ac8 _ h1).imp id .inl
  exact .inr (.inr ⟨h1,hS.lt p (by simp[book,hp])⟩)
 refine⟨hS.ghost,hS.vlt,λk hk=>hS.xlt k (.inl hk),λw hw=>(hS.links w (.tail _ hw)).mono λk hk hx=>?_,hS.own,hS.nodup,hS.apart⟩;rcases hx with(hx|hx|hx)|hx
 ·exact .inl hx
 ·rcases hl.m k hx with hx|hx|hx
  ·exact .inl (he.gx k hx)
  ·obtain⟨p,hp,rfl⟩:=bT.1 hx;rcases he.gone p hp with h1|h1|h1
   ·exact .inr ((hb _).2 (.inl h1))
   ·exact .inl h1
   have:=h1.mem w hw;omega
  exact .inr ((hb k).2 (.inr hx.symm))
 ·have:=hl.vge k hx;have:=hl.above w hw;have:=hl.dk;omega
 exact .inr hx
theorem VD{β:Type}{enc:β->List Value}{A A':ad}(hA:A'.map (·.1)=A.map (·.1)){b' c n:Nat}{xs ys:List β}(hf:r.isAt b'\/n<=b'):∀p∈(A'++((Rw.row b' c sp).hp enc t ys++[]):ad),p.1∈(A++(r.hp enc t xs++[]):ad).map (·.1)\/n<=p.1:=by grind [Rw.hp,Rw.mem_at]
theorem JX{rec:Loop}(h1:rec.state= .ready)(h2:rec.pending=none):{({rec with state:=.busy}:Loop)with state:=.ready,pending:=none}=rec:=by cases rec;simp_all
theorem JW(hl:AE G H L Dk W1 MI M V Wy G' Hc)(mm:l=Dk+1)(he:N4 G G' G2 H Hc Hc2 L Wy)(hr:{ml with state:=.ready,pending:=none}=rec)(hI:Inv pre G2 Hc2):PJ C (ngk C.P W1 MI M L V Wy Inv ew l rec (ji Dk) pre) .normal E D (G2.ext λk=>M k\/V k) (Wy::L) (book Hc2 l ml (ji Dk)):=by
 intro a W hN hD hF hS;have hQ:=hS.loop {ml with state:=.ready,pending:=none};obtain⟨h1,h2,h3⟩:=he.ok hl mm hQ;refine⟨_,W.putObj l (.loop {ml with state:=.ready,pending:=none}),run_endRound none hS.loopAt,true,rfl,h1,G2,Hc2,hI,h2,?_⟩;rw[hr]at h3 ⊢;exact h3
theorem nel{c:Code}(hl:AE G H L Dk W1 MI M V Wy G' Hc)(mm:l=Dk+1)(he':N4 G G' G2 H Hc Hc2 L Wy)(he:(e= .ret/\c= .ret)\/∃id,e= .exit id/\c= .exit id)(hr:{ml with state:=.done,pending:=some c}={rec with state:=.done,pending:=some c})(hI:ew c G2 Hc2):PJ C (ngk C.P W1 MI M L V Wy Inv ew l rec (ji Dk) pre) e E D (G2.ext λk=>M k\/V k) (Wy::L) (book Hc2 l ml (ji Dk)):=by
 intro a W hN hD hF hS;have hQ:=hS.loop {ml with state:=.done,pending:=some c};obtain⟨h1,h2,h3⟩:=he'.ok hl mm hQ;have key:∃v w',(Instr.endRound l (some c)).run C.P W= .ok v w'/\∃b,Ending.returned v= .returned (.bool b)/\aQ (λk=>M k\/V k) Wy w'/\(if b then rI2 W1 MI M L Inv l rec (ji Dk) pre (rn V Wy w') w' else rX2 W1 MI M L ew l rec (ji Dk) (rn V Wy w') w'):=by
  refine⟨_,W.putObj l (.loop {ml with state:=.done,pending:=some c}),run_endRound (some c) hS.loopAt,false,rfl,h1,c,G2,Hc2,hI,h2,?_⟩;rw[hr]at h3 ⊢;exact h3
 rcases he with⟨rfl,rfl⟩|⟨id,rfl,rfl⟩<;>exact key
end
theorem QZ{C:Cx}{Q:bC}{E:Env}{D:List Deferred}(h:∀W,St G L H W->PJ C Q e E D G L H):PJ C Q e E D G L H:=λa W hN hD hF hS=>h W hS a W hN hD hF hS
theorem VE{Hc:ad}{l Dk:Nat}{rec:Loop}(hS:St G L (book Hc l rec (ji Dk)) W):∀p∈Hc,p.1≠Dk/\p.1≠l:=by
 intro p hp;have h:=(vO _).1 hS.nodup;all_goals grind
def sC (P:Program) (f:Nat) (cap:List Value) {α:Type} (enc:α->List Value) (Pre Fin:List α->aI->World->Prop) (MI RO:aI) (W:World):Prop:=
 ∀(l:Nat) (M:aI) (I:List α->aI->World->Prop) (X:aI->World->Prop),
  (∀k,M k->k<W.heap.size/\¬MI k/\¬RO k)->
  (∀pre V,gk (λk=>(k<W.heap.size/\¬MI k)\/V k) (I pre V))->(∀V,gk (λk=>(k<W.heap.size/\¬MI k)\/V k) (X V))->
  (∀pre x V W1,Pre (pre++[x]) (λk=>M k\/V k) W1->(∀k,V k->W.heap.size<=k/\k<W1.heap.size)->I pre V W1->SX P l (enc x).toArray W1 (λb W2=>aQ (λk=>M k\/V k) W1 W2/\(if b then I (pre++[x]) (rn V W1 W2) W2 else X (rn V W1 W2) W2)))->
  I [] (λ_=>False) W->
  Calls P f (yv l::cap).toArray W (λe W'=>(∃v,e= .returned v)/\aQ (λk=>M k\/MI k) W W'/\∃V,(∃xs,Fin xs (λk=>M k\/V k) W'/\I xs V W')\/X V W')
variable {P:Program} {N:Nat} {Q:bC} {E:Env} {D:List Deferred} {G:Gh} {L:List World} {H0 H:ad} {g:Operand} {ps:Array Tmp} {assign body:Code} {f:Nat} {cap:List Value} {enc:α->List Value} {MI RO:aI}
abbrev W6 (P:Program) (N:Nat) (ps:Array Tmp) (assign body:Code) (E:Env) (G:Gh) (H:ad) (L:List World) (enc:α->List Value) (MI:aI) (Pre:List α->aI->World->Prop) (Inv:List α->Gh->ad->Prop) (ew:Code->Gh->ad->Prop):Prop:=
 ∀(pre:List α) (x:α) (G':Gh) (Hc:ad) (l Dk:Nat) (rec:Loop) (W1:World) (M V:aI) (Wy:World),rec.state= .ready->rec.pending=none->Pre (pre++[x]) (λk=>M k\/V k) Wy->Inv pre G' Hc->ah L Dk->l=Dk+1->l<Wy.heap.size->ah L Wy.heap.size->AE G H L Dk W1 MI M V Wy G' Hc->St G' L (book Hc l rec (ji Dk)) Wy->
  CJ ⟨P,some l,N⟩ assign (UT ⟨P,some l,N⟩ l body (ngk P W1 MI M L V Wy Inv ew l rec (ji Dk) (pre++[x]))) ((ps.toList.zip (enc x)).reverse++E) [] (G'.ext λk=>M k\/V k) (Wy::L) (book Hc l rec (ji Dk))
abbrev W8 (P:Program) (N:Nat) (Q:bC) (E:Env) (D:List Deferred) (L:List World) (ew:Code->Gh->ad->Prop):Prop:=∀l Dk rec c G' Hc,ah L Dk->l=Dk+1->ew c G' Hc->CJ ⟨P,none,N⟩ c Q E (qX Dk::D) G' L (book Hc l rec (ji Dk))
abbrev RgD (P:Program) (N:Nat) (Q:bC) (E:Env) (D:List Deferred) (L:List World) (Fin:List α->Prop) (Inv:List α->Gh->ad->Prop):Prop:=∀xs l Dk rec G' Hc,Fin xs->ah L Dk->l=Dk+1->Inv xs G' Hc->PJ ⟨P,none,N⟩ Q .normal E (qX Dk::D) G' L (book Hc l rec (ji Dk))
abbrev W4 (G:Gh) (L:List World) (H:ad) (RO:aI):Prop:=∀W,St G L H W->(∀k,RO k->k<W.heap.size/\k∉H.map (·.1)/\¬G.X k)
theorem CJ.rg{B:World->Prop}{Pre Fin:List α->aI->World->Prop}(eV:∀W,St G L H0 W->St G L H W/\B W/\∀k,MI k->k<W.heap.size/\ah L k/\k∉H.map (·.1)/\¬G.V k/\¬G.X k)(hg:ev E g=some (.func (.func f) #[] cap.toArray))(aA:eU P f)(qG:∀W W2,St G L H W->B W->Below W.heap.size W W2->sC P f cap enc Pre Fin MI RO W2)(pB:W4 G L H RO)(gV:∀x,(enc x).length=ps.size)(Inv:List α->Gh->ad->Prop)(ew:Code->Gh->ad->Prop)(h0:Inv [] G H)(HQ:∀p∈ps.toList,p<N)(round:W6 P N ps assign body E G H L enc MI Pre Inv ew)(done:∀xs l Dk rec G' Hc (Z:aI) (Wd:World),Fin xs Z Wd->(∀p∈book Hc l rec (ji Dk),Z p.1)->ah L Dk->l=Dk+1->Inv xs G' Hc->PJ ⟨P,none,N⟩ Q .normal E (qX Dk::D) G' (Wd::L) (book Hc l rec (ji Dk)))(stop:W8 P N Q E D L ew):CJ ⟨P,none,N⟩ (.rangeFunc g ps assign body) Q E D G L H0:=by
 intro a W hN hD hF Me;obtain⟨hS,hBW,IZ⟩:=eV W Me;refine wpIn_rangeFunc ?_;intro fn _;have mq:(W.alloc (.deferred (some []))).heap.size=W.heap.size+1:=by simp
 obtain⟨rec,pZ⟩:∃rec:Loop,rec={state:=.ready,pending:=none,fn,tmps:=a.tmps,params:=ps,assign,body,defers:=W.heap.size}:=⟨_,rfl⟩;obtain⟨W1,P5⟩:∃W1,W1=(W.alloc (.deferred (some []))).alloc (.loop rec):=⟨_,rfl⟩;have sA:St G L (book H (W.heap.size+1) rec (ji W.heap.size)) W1:=by
  have h1:=(hS.alloc (.deferred (some []))).alloc (.loop rec);rw[mq]at h1;rw[P5];exact h1.perm (List.perm_append_comm (l₁:=[_,_]) (l₂:=H))
 have hB1:Below W.heap.size W W1:=by
  rw[P5];exact((Below.refl _ _).alloc (aj _) _).alloc zJ _
 have aqE:W1.heap.size=W.heap.size+2:=by rw[P5];simp
 have he:(Instr.enterLoop fn a.tmps ps assign body (none:Option Nat)).run P W= .ok (W.heap.size+1,[qX W.heap.size]) W1:=by
  rw[P5,pZ];exact run_enterLoop_outer _ _ _ _ _
 refine⟨W.heap.size+1,[qX W.heap.size],W1,{target:=.fn (.func f) cap.toArray,args:=#[yv (W.heap.size+1)]},W1,f,(yv (W.heap.size+1)::cap).toArray,W1,he,?_,λ_ _=>trivial,?_,by simp,?_⟩
 ·simp[resolve,hF.ev hg,Deferred.ofValue];rfl
 ·simp[invoke,aA _ W1]
 refine NJ.2 ?_
 let M:aI:=λk=>G.X k\/k∈H.map (·.1)\/k=W.heap.size\/k=W.heap.size+1
 have N5:∀k,M k->k<W1.heap.size/\¬MI k/\¬RO k:=by
  rintro k (hk|hk|hk|hk)
  ·exact⟨sA.xlt k hk,λh=>(IZ k h).2.2.2.2 hk,λh=>(pB W hS k h).2.2 hk⟩
  ·exact⟨by obtain⟨p,hp,rfl⟩:=bT.1 hk;have:=hS.lt p hp;omega,λh=>(IZ k h).2.2.1 hk,λh=>(pB W hS k h).2.1 hk⟩
  ·exact zai
  exact zai
 have stab:∀{V:aI} {G':Gh} {Hc:ad} {o:Loop},Loc W1 MI M V G' Hc->gk (λk=>(k<W1.heap.size/\¬MI k)\/V k) (St G' L (book Hc (W.heap.size+1) o (ji W.heap.size))):=by
  intro V G' Hc o p6 A B hA ho ht KG Xs hs sP;refine⟨G'.stab A B hA.ghost ho ht KG Xs hs (λk hv=>sP k (p6.v k hv)),λk hv=>qH (hA.vlt k hv) hs,λk hv=>qH (hA.xlt k hv) hs,λw hw=>?_,λp hp=>?_,hA.nodup,hA.apart⟩
  ·have h1:=hA.links w hw;exact⟨ho.trans h1.os,ht.trans h1.tape,KG.trans h1.output,eE h1.drawn Xs,eE h1.size hs,λk hk hx=>(sP k (.inl ⟨qH hk (sA.links w hw).size,λhm=>by have:=(IZ k hm).2.1.mem w hw;omega⟩)).trans (h1.block k hk hx)⟩
  have hq:M p.1\/V p.1:=by
   simp only[book,aY,cd,dV,or_false]at hp;rcases hp with hp|rfl|rfl
   ·exact p6.h p hp
   ·exact .inl (.inr (.inr (.inr rfl)))
   exact .inl (.inr (.inr (.inl rfl)))
  rw[sP p.1 (hq.imp (λh=>⟨(N5 _ h).1,(N5 _ h).2.1⟩) id)];exact hA.own p hp
 have ac9:Loc W1 MI M (λ_=>False) G H:=⟨λk hv=>.inl ⟨sA.vlt k hv,λhm=>(IZ k hm).2.2.2.1 hv⟩,λk hx=>.inl (.inl hx),λp hp=>.inl (.inr (.inl (bT.2 ⟨p,hp,rfl⟩)))⟩;have ada:∀x,(ps.zip (enc x).toArray).foldl (λtmps (p:Tmp×Value)=>match p with|(t,a)=>tmps.setIfInBounds t a) a.tmps=(ps.toList.zip (enc x)).foldl (λt (p:Nat×Value)=>t.setIfInBounds p.1 p.2) a.tmps:=by
  intro x;rw[<-Array.foldl_toList,Array.toList_zip]
 have adb:=qG W W1 hS hBW hB1 (W.heap.size+1) M (rI2 W1 MI M L Inv (W.heap.size+1) rec (ji W.heap.size)) (rX2 W1 MI M L ew (W.heap.size+1) rec (ji W.heap.size)) N5
  (λpre V A B hA ho ht KG Xs hs sP=>by
   obtain⟨G',Hc,hi,p6,eV⟩:=hA;exact⟨G',Hc,hi,p6,stab p6 A B eV ho ht KG Xs hs sP⟩)
  (λV A B hA ho ht KG Xs hs sP=>by
   obtain⟨c,G',Hc,hi,p6,eV⟩:=hA;exact⟨c,G',Hc,hi,p6,stab p6 A B eV ho ht KG Xs hs sP⟩)
  (λpre x V Wy eK hV hI=>by
   obtain⟨G',Hc,hi,p6,eV⟩:=hI;have hy:=run_yield (P:=P) (args:=(enc x).toArray) eV.loopAt (by simp[gV,pZ]);refine⟨_,_,_,_,hy,roundIn_of_wpIn (F:=FW none) trivial ?_⟩;have DS:W1.heap.size<=Wy.heap.size:=by
    have h1:=eV.lt (W.heap.size+1,.loop rec) zJ;simp only at h1;omega
   have dK:AE G H L W.heap.size W1 MI M V Wy G' Hc:=⟨p6,λk hk=>hk,λk hk=>.inr (.inr hk),λk hk=>(hV k hk).1,by omega,λw hw=>(hS.links w hw).size⟩;have hS2:St (G'.ext λk=>M k\/V k) (Wy::L) (book Hc (W.heap.size+1) rec (ji W.heap.size)) Wy:=by
    refine⟨eV.ghost,eV.vlt,λk hk=>?_,λw hw=>?_,eV.own,eV.nodup,eV.apart⟩
    ·rcases hk with hk|hk|hk
     ·exact eV.xlt k hk
     ·exact qH (N5 k hk).1 DS
     exact(hV k hk).2
    rcases cd.1 hw with rfl|hw
    ·exact aQ.refl _ _
    exact(eV.links w hw).mono λk _ hk=>hk.imp .inl id
   have hr:=round pre x G' Hc (W.heap.size+1) W.heap.size rec W1 M V Wy (by rw[pZ]) (by rw[pZ]) eK hi hS.sizes rfl (bA.1 eV.loopAt).1 eV.sizes dK eV;have aoj:rec.params=ps:=by rw[pZ]
   have aok:rec.assign=assign:=by rw[pZ]
   have aol:rec.body=body:=by rw[pZ]
   have aom:rec.tmps=a.tmps:=by rw[pZ]
   rw[aok,aol,aom,aoj,ada x];have vr:=nUp (zs:=ps.toList.zip (enc x)) hF (λp hp=>by rw[hN];exact HQ p.1 (List.of_mem_zip hp).1);exact hr _ Wy (by have:=vr.1;rw[hN]at this;exact this) rfl vr.2 hS2)
  ⟨G,H,h0,ac9,sA⟩
 refine adb.mono ?_;rintro e W2 ⟨⟨v,rfl⟩,aoU,V,⟨xs,dW,hI⟩|hX⟩
 ·obtain⟨G',Hc,hi,p6,eV⟩:=hI;refine⟨rec.pending,_,run_endLoop eV.loopAt (by rw[pZ];simp),?_⟩;rw[show rec.pending=none by rw[pZ]];exact done xs _ _ _ G' Hc _ _ dW (λp hp=>by simp only[book,aY,cd,dV,or_false]at hp;rcases hp with hp|rfl|rfl;(exact p6.h p hp);(exact .inl (.inr (.inr (.inr rfl))));exact .inl (.inr (.inr (.inl rfl)))) hS.sizes rfl hi _ _ (by simpa using hN) (by simp[hD]) (λt v hv=>hF t v hv) (eV.snap.loop _)
 obtain⟨c,G',Hc,hi,p6,eV⟩:=hX;refine⟨some c,_,run_endLoop eV.loopAt zJ,?_⟩;exact stop _ _ _ c G' Hc hS.sizes rfl hi _ _ (by simpa using hN) (by simp[hD]) (λt v hv=>hF t v hv) (eV.loop _)
theorem ndm{B:World->Prop}{Pre Fin:List α->Prop}(eV:∀W,St G L H0 W->St G L H W/\B W/\∀k,MI k->k<W.heap.size/\ah L k/\k∉H.map (·.1)/\¬G.V k/\¬G.X k)(hg:ev E g=some (.func (.func f) #[] cap.toArray))(aA:eU P f)(qG:∀W W2,St G L H W->B W->Below W.heap.size W W2->uT P f cap enc Pre Fin MI RO W2)(pB:W4 G L H RO)(gV:∀x,(enc x).length=ps.size)(Inv:List α->Gh->ad->Prop)(ew:Code->Gh->ad->Prop)(h0:Inv [] G H)(HQ:∀p∈ps.toList,p<N)(round:W6 P N ps assign body E G H L enc MI (λp _ _=>Pre p) Inv ew)(done:RgD P N Q E D L Fin Inv)(stop:W8 P N Q E D L ew):CJ ⟨P,none,N⟩ (.rangeFunc g ps assign body) Q E D G L H0:=
 CJ.rg (Pre:=λp _ _=>Pre p) (Fin:=λp _ _=>Fin p) eV hg aA qG pB gV Inv ew h0 HQ round (λxs l Dk rec G' Hc _ _ h1 _ h2 h3 h4 a W k1 k2 k3 k4=>done xs l Dk rec G' Hc h1 h2 h3 h4 a W k1 k2 k3 ⟨k4.ghost,k4.vlt,k4.xlt,λw hw=>k4.links w (.tail _ hw),k4.own,k4.nodup,k4.apart⟩) stop
theorem XA{Pre Fin:List α->Prop}(hg:ev E g=some (.func (.func f) #[] cap.toArray))(aA:eU P f)(qG:∀W W2,St G L H W->Below W.heap.size W W2->uT P f cap enc Pre Fin MI RO W2)(hMI:∀W,St G L H W->(∀k,MI k->k<W.heap.size/\ah L k/\k∉H.map (·.1)/\¬G.V k/\¬G.X k))(pB:W4 G L H RO)(gV:∀x,(enc x).length=ps.size)(Inv:List α->Gh->ad->Prop)(ew:Code->Gh->ad->Prop)(h0:Inv [] G H)(HQ:∀p∈ps.toList,p<N)(round:W6 P N ps assign body E G H L enc MI (λp _ _=>Pre p) Inv ew)(done:RgD P N Q E D L Fin Inv)(stop:W8 P N Q E D L ew):CJ ⟨P,none,N⟩ (.rangeFunc g ps assign body) Q E D G L H:=
 ndm (B:=λ_=>True) (λW h=>⟨h,trivial,hMI W h⟩) hg aA (λW W2 h _ hb=>qG W W2 h hb) pB gV Inv ew h0 HQ round done stop
theorem n9o{Pre Fin:List α->Prop}(hi:H0[i]? =some (b,o))(hH:H0.eraseIdx i=H)(hb:ah L b)(hbX:¬G.X b)(hg:ev E g=some (.func (.func f) #[] cap.toArray))(aA:eU P f)(qG:∀W W2,St G L H W->W.heap[b]? =some o->Below W.heap.size W W2->uT P f cap enc Pre Fin (· =b) RO W2)(pB:W4 G L H RO)(gV:∀x,(enc x).length=ps.size)(Inv:List α->Gh->ad->Prop)(ew:Code->Gh->ad->Prop)(h0:Inv [] G H)(HQ:∀p∈ps.toList,p<N)(round:W6 P N ps assign body E G H L enc (· =b) (λp _ _=>Pre p) Inv ew)(done:RgD P N Q E D L Fin Inv)(stop:W8 P N Q E D L ew):CJ ⟨P,none,N⟩ (.rangeFunc g ps assign body) Q E D G L H0:=by
 refine ndm (B:=λW'=>W'.heap[b]? =some o) (λW hS=>?_) hg aA qG pB gV Inv ew h0 HQ round done stop;have hp:=PI H0 i _ hi;rw[hH]at hp;have sA:=hS.perm hp;have Vf:=hS.own _ (cA hi);have hnd:=(vO _).1 sA.nodup;rw[dL,List.nodup_cons]at hnd;refine⟨sA.drop hb,Vf,λk hk=>?_⟩;subst hk;exact⟨(bA.1 Vf).1,hb,hnd.1,sA.apart (k,o) zJ,hbX⟩
theorem nPp{Pre Fin:List α->aI->World->Prop}(hg:ev E g=some (.func (.func f) #[] cap.toArray))(aA:eU P f)(qG:∀W W2,St G L H W->Below W.heap.size W W2->sC P f cap enc Pre Fin MI RO W2)(hMI:∀W,St G L H W->(∀k,MI k->k<W.heap.size/\ah L k/\k∉H.map (·.1)/\¬G.V k/\¬G.X k))(pB:W4 G L H RO)(gV:∀x,(enc x).length=ps.size)(Inv:List α->Gh->ad->Prop)(ew:Code->Gh->ad->Prop)(h0:Inv [] G H)(HQ:∀p∈ps.toList,p<N)(round:W6 P N ps assign body E G H L enc MI Pre Inv ew)(done:∀xs l Dk rec G' Hc (Z:aI) (Wd:World),Fin xs Z Wd->(∀p∈book Hc l rec (ji Dk),Z p.1)->ah L Dk->l=Dk+1->Inv xs G' Hc->PJ ⟨P,none,N⟩ Q .normal E (qX Dk::D) G' (Wd::L) (book Hc l rec (ji Dk)))(stop:W8 P N Q E D L ew):CJ ⟨P,none,N⟩ (.rangeFunc g ps assign body) Q E D G L H:=
 CJ.rg (B:=λ_=>True) (λW h=>⟨h,trivial,hMI W h⟩) hg aA (λW W2 h _ hb=>qG W W2 h hb) pB gV Inv ew h0 HQ round done stop
section
variable {C:Cx} {fn:Func} {R:Ending->World->Prop} {E:Env} {G:Gh} {L:List World} {H:ad} {enc:α->List Value} {m:Nat}
theorem EG{Dk u T tt ct:Nat}{uv:Value}{xs:List α}(he:e= .ret\/e= .normal)(hr:fn.results=#[.cell t T,.tmp u])(hA:fe C.P T false)(hx:look E t=some (ptr b 0))(hu:look E u=some uv)(hm:(Dk,.deferred (some []))∈H)(hb:(b,.cells cs ct fr)∈H)(hne:b≠Dk)(hv:cs[0]? =some (r.val xs.length))(bP:r.Fit m xs)(hrh:∀p∈r.hp enc tt xs,p∈H/\p.1≠Dk)(jI:r.ge w.heap.size)(h:∀W H',St G L H' W->H'.map (·.1)=H.map (·.1)->Below w.heap.size w W):PJ C (bodyPostM (FW none) 0 C.P fn (aD w enc m tt xs (λs=>.tuple #[s,uv]))) e E [qX Dk] G L H:=
 B3 he hm λa W H' hF hS eV aW=>by
  obtain⟨i,hi⟩:=jG.1 (eV _ hb hne);refine⟨_,(RS.w (C:=C) hi hA hx hv (RS.t hu RS.n)).res hr hF hS,r,rfl,h W H' hS aW,jI,bP,?_⟩;cases r with
  |nil=>trivial
  |row b' cap sp=>
   obtain⟨h1,h2⟩:=hrh (b',bj enc tt xs sp) oV;exact hS.own _ (eV _ h1 h2)
end
end
end Px
namespace Px
open Go Go.RowKit Go.Sort
/-! ### the library's sorts, over own rows -/
theorem n1k(w:World)(os:Array Obj):aQ (λ_=>False) w (grow w os):=
 ⟨rfl,rfl,rfl,aj _,by simp[grow],λk hk _=>by simp only[grow];rw[WI hk]⟩
theorem nGg(w:World)(b:Nat)(f:Array Value->Array Value):aQ (· =b) w (mapBlock w b f):=
 ⟨rfl,rfl,rfl,aj _,by simp[mapBlock],λk _ hk=>by
  simp only[mapBlock,awq];rw[if_neg (λe=>hk e.symm)]⟩
theorem nVi(w:World)(n:Nat):aQ (λ_=>False) w (Sort.ahead w n):=⟨rfl,rfl,rfl,by simp[Sort.ahead],aj _,λ_ _ _=>rfl⟩
variable {cs:Array Value} {b t:Nat} {fr:Nat×Nat} {w:World}
theorem nFg(f:Array Value->Array Value)(h:w.heap[b]? =some (.cells cs t fr)):(mapBlock w b f).heap[b]? =some (.cells (f cs) t fr):=by
 simp only[mapBlock,awq,if_true,h];rfl
variable {sp:List Value}
theorem EH{xs:List Int}(h:w.heap[b]? =some (bj az t xs sp)):Holds (Value.int .i64) w b 0 xs.toArray:=by
 intro j hj;have yC:j<xs.length:=by simpa using hj
 refine⟨?_,by simp[World.frozen?,h]⟩;rw[Lj h,mr];have e:=ZE (enc:=az) ny xs sp j yC;rw[xR]at e;have e2:=congrArg (λl=>l[0]?) e;all_goals grind [az]
variable {os:Array Obj}
theorem Yu{n:Nat}{xs ys:List Int}(h:w.heap[b]? =some (bj az t xs sp))(hl:ys.length=xs.length):aQ (· =b) w (grow (putRow (Value.int .i64) (Sort.ahead w n) b 0 ys.toArray) os)/\(grow (putRow (Value.int .i64) (Sort.ahead w n) b 0 ys.toArray) os).heap[b]? =some (bj az t ys sp):=by
 have hlt:=(bA.1 h).1;have k1:=(nVi w n).mono (Y:=(· =b)) (λ_ _ h=>h.elim);have k2:=nGg (Sort.ahead w n) b (putCells (Value.int .i64) 0 ys.toArray);have k3:=(n1k (mapBlock (Sort.ahead w n) b (putCells (Value.int .i64) 0 ys.toArray)) os).mono (Y:=(· =b)) (λ_ _ h=>h.elim);refine⟨(k1.trans k2).trans k3,?_⟩;have h2:=nFg (w:=Sort.ahead w n) (putCells (Value.int .i64) 0 ys.toArray) (show(Sort.ahead w n).heap[b]? =_ from h);have h3:(grow (putRow (Value.int .i64) (Sort.ahead w n) b 0 ys.toArray) os).heap[b]? =(mapBlock (Sort.ahead w n) b (putCells (Value.int .i64) 0 ys.toArray)).heap[b]? :=by
  simp only[grow,putRow];rw[WI];have:=(bA.1 h2).1;exact this
 rw[h3,h2];congr 2;apply Array.ext';apply C3;intro i;have hx:(iB az xs).length=xs.length:=by rw[sT ny,xR]
 have hy:(iB az ys).length=ys.length:=by rw[sT ny,xR]
 have key:∀(zs:List Int) (i:Nat),(iB az zs)[i]? =(zs[i]?).map (Value.int .i64):=by
  intro zs;induction zs with
  |nil=>intro i;simp[iB]
  |cons z zs ih=>intro i;cases i with
   |zero=>simp[iB,az]
   |succ i=>simpa[iB,az]using ih i
 rw[OZ,OZ];simp only[putCells,Array.getElem?_mapIdx,Es,cY,true_and,mr,rh,Nat.sub_zero];by_cases hi:i<ys.length
 ·rw[TF aa,TF aa,key,key];rw[lj (show i<xs.length by omega),lj hi];simp[hi]
 rw[aur aa,aur aa,hx,hy,hl];have:¬i<xs.length:=by omega
 cases sp[i-xs.length]?<;>simp[hl,this]
variable {k:Nat}
theorem nOk{α:Type}[Inhabited α]{enc:α->List Value}(hk:∀x,(enc x).length=k)(xs:List α):flatK enc k xs.toArray=(iB enc xs).toArray:=by
 apply Array.ext';apply List.ext_getElem (by simp[flatK,sT hk]);intro i h1 h2;have hi:i<xs.length*k:=by simpa[sT hk]using h2
 have k0:0<k:=Nat.pos_of_ne_zero (λh=>by subst h;simp at hi);have hj:i/k<xs.length:=Nat.div_lt_of_lt_mul (by rw[I8];exact hi);have e:=ZE hk xs [] (i/k) hj;rw[ee]at e;have hm:i%k<k:=Nat.mod_lt _ k0;have e2:=congrArg (λl=>l[i%k]?) e;simp only[RX hm,RY]at e2;have e3:i/k*k+i%k=i:=by rw[I8];exact BN i k
 rw[e3]at e2;have e4:(iB enc xs)[i]? =some ((iB enc xs)[i]'K9):=lj _;rw[e4]at e2;have e5:(xs.toArray[i/k]!)=xs[i/k]:=by simp[hj]
 simp only[flatK,Array.getElem_map,Array.toList_map,aAq,Array.getElem_toList,Array.getElem_range];rw[e5];have h6:(enc xs[i/k])[i%k]? =some ((enc xs[i/k])[i%k]'(by rw[hk];exact hm)):=lj _;rw[h6]at e2;have e7:=Option.some.inj e2;rw[getElem!_pos (enc xs[i/k]) (i%k) (by rw[hk];exact hm),<-e7]
variable {us:List Value}
theorem U7(h:w.heap[b]? =some (.cells (us++sp).toArray t (0,0))):Holds id w b 0 us.toArray:=by
 intro j hj;have yC:j<us.length:=by simpa using hj
 refine⟨?_,by simp[World.frozen?,h]⟩;rw[Lj h,mr,Es,TF yC];simp[yC]
variable {vs:List Value}
theorem aoo{n:Nat}(h:w.heap[b]? =some (.cells (us++sp).toArray t (0,0)))(hl:vs.length=us.length):aQ (· =b) w (grow (putRow id (Sort.ahead w n) b 0 vs.toArray) os)/\(grow (putRow id (Sort.ahead w n) b 0 vs.toArray) os).heap[b]? =some (.cells (vs++sp).toArray t (0,0)):=by
 have k1:=(nVi w n).mono (Y:=(· =b)) (λ_ _ h=>h.elim);have k2:=nGg (Sort.ahead w n) b (putCells id 0 vs.toArray);have k3:=(n1k (mapBlock (Sort.ahead w n) b (putCells id 0 vs.toArray)) os).mono (Y:=(· =b)) (λ_ _ h=>h.elim);refine⟨(k1.trans k2).trans k3,?_⟩;have h2:=nFg (w:=Sort.ahead w n) (putCells id 0 vs.toArray) (show(Sort.ahead w n).heap[b]? =_ from h);have h3:(grow (putRow id (Sort.ahead w n) b 0 vs.toArray) os).heap[b]? =(mapBlock (Sort.ahead w n) b (putCells id 0 vs.toArray)).heap[b]? :=by
  simp only[grow,putRow];rw[WI];exact(bA.1 h2).1
 rw[h3,h2];congr 2;apply Array.ext';apply C3;intro i;rw[OZ,OZ];simp only[putCells,Array.getElem?_mapIdx,Es,cY,true_and,mr,rh,Nat.sub_zero];by_cases hi:i<vs.length
 ·rw[TF aa,TF aa];rw[lj (show i<us.length by omega),lj hi];simp[hi]
 rw[aur aa,aur aa,hl];have:¬i<us.length:=by omega
 cases sp[i-us.length]?<;>simp[hl,this]
theorem nlj{α:Type}[Inhabited α]{enc:α->List Value}(hk:∀x,(enc x).length=k){xs:List α}(h:w.heap[b]? =some (bj enc t xs sp)):HoldsK enc k w b 0 xs.toArray:=by
 unfold HoldsK;rw[nOk hk];exact U7 h
theorem ZJ{α:Type}[Inhabited α]{enc:α->List Value}(hk:∀x,(enc x).length=k){n:Nat}{xs ys:List α}(h:w.heap[b]? =some (bj enc t xs sp))(hl:ys.length=xs.length):aQ (· =b) w (Go.Proofs.sortWorldK enc k w b 0 n ys.toArray os)/\(Go.Proofs.sortWorldK enc k w b 0 n ys.toArray os).heap[b]? =some (bj enc t ys sp):=by
 unfold Go.Proofs.sortWorldK putRowK;rw[nOk hk];exact aoo h (by rw[sT hk,sT hk,hl])
section
variable {C:Cx} {Q:bC} {E:Env} {D:List Deferred} {G:Gh} {L:List World} {H H0 H1:ad} {ops:Array Oper} {l:List Oper}
variable {d ty f:Nat} {pos:String} {aC:Array Edge} {g:Option (Nat×Bool)} {xo:List Operand} {vs:List Value} {eJ:Array Nat}
variable {α:Type} {enc:α->List Value} {m:Nat}
variable {r:Rw}
theorem EM{xs ys:List α}(v:Rw->Value)(hH:H=H0++(r.hp enc t xs++H1))(aA:eU C.P f)(hw:nr ops E g=some true)(hN:Nat.blt d C.N=true)(ha:jy E xo=some vs)(aop:r= .nil->∀W,St G L H W->Calls C.P f vs.toArray W (λe w'=>e= .returned (v .nil)/\ys=[]/\Below W.heap.size W w'))(u2:∀b cap sp,r= .row b cap sp->∀W,St G L H W->W.heap[b]? =some (bj enc t xs sp)->Calls C.P f vs.toArray W (λe w'=>∃bY,e= .returned (v (.row b cap bY))/\aQ (· =b) W w'/\(Rw.row b cap bY).Fit m ys/\w'.heap[b]? =some (bj enc t ys bY)))(k:∀r':Rw,r'.Fit m ys->(r.Fr G L->r'.Fr G L)->(∀n,r.ge n->r'.ge n)->(∀n,r'.val n=r.val n)->OJ C ops Q l ((d,v r')::E) D G L (H0++(r'.hp enc t ys++H1))):OJ C ops Q (⟨some d,.call ⟨.value (.func f),xo.toArray,eJ⟩,ty,pos,aC,g⟩::l) E D G L H:=by
 cases r with
 |nil=>
  refine nK rfl hw rfl ha zJ aA λa W jz hD hF hS=>(aop rfl W hS).mono ?_;rintro e W' ⟨rfl,rfl,hb⟩;refine k .nil rfl id (λ_ h=>h) (λ_=>rfl) (a.put (some d) (v .nil)) W' z8 z6 (hF.put _ z7) ?_;rw[hH]at hS;exact hS.step hb
 |row b cap sp=>
  have hi:H[H0.length]? =some (b,bj enc t xs sp):=by rw[hH];simp[Rw.hp]
  refine nK rfl hw rfl ha zJ aA λa W jz hD hF hS=>(u2 b cap sp rfl W hS (hS.own _ (cA hi))).mono ?_;rintro e W' ⟨bY,rfl,hk,bP,fJ⟩;refine k (.row b cap bY) bP zI (λ_ h=>h) (λ_=>rfl) (a.put (some d) (v (.row b cap bY))) W' z8 z6 (hF.put _ z7) ?_;have:=hS.put hi hk fJ;rw[hH]at this;simpa[Rw.hp]using this
end
end Px
namespace Px
open Go Go.RowKit
/-! ### maps from numbers to values -/
section
variable {β:Type}
variable {i j:Nat}
theorem nCk{l:List Nat}(h:l.Nodup)(hi:i<l.length)(hj:j<l.length)(e:l[i]=l[j]):i=j:=by grind [List.Nodup,List.pairwise_iff_getElem]
def eT (k:Int):List (Int×β)->Nat->Option (Nat×β)
 | [],_=>none
 |p::l,i=>if p.1=k then some (i,p.2)else eT k l (i+1)
def aF (l:List (Int×β)) (k:Int):Option β:=(eT k l 0).map (·.2)
def dM (l:List (Int×β)) (k:Int) (v:β):List (Int×β):=match eT k l 0 with|some (i,_)=>l.set i (k,v)|none=>l++[(k,v)]
def ik (l:List (Int×β)) (k:Int):List (Int×β):=match eT k l 0 with|some (i,_)=>l.eraseIdx i|none=>l
theorem n6i(k:Int):∀(l:List (Int×β)) (i j:Nat),eT k l (i+j)=(eT k l i).map λp=>(p.1+j,p.2)
 | [],_,_=>rfl
 |p::l,i,j=>by
  unfold eT;split
  ·rfl
  rw[show i+j+1=i+1+j by omega];exact n6i k l (i+1) j
theorem nkf(k:Int)(l:List (Int×β)):eT k l 1=(eT k l 0).map λp=>(p.1+1,p.2):=by
 have:=n6i k l 0 1;simpa using this
theorem nrf{k:Int}:∀{l:List (Int×β)} {i:Nat} {v:β},eT k l 0=some (i,v)->l[i]? =some (k,v)
 | [],_,_,h=>by simp[eT]at h
 |p::l,i,v,h=>by
  unfold eT at h;split at h
  ·rename_i e;simp at h;obtain⟨rfl,rfl⟩:=h;subst e;simp
  rw[nkf]at h;obtain⟨q,hq,e⟩:=wv.1 h;obtain⟨j,u⟩:=q;simp at e;obtain⟨rfl,rfl⟩:=e;simpa using nrf hq
theorem nef{k:Int}:∀{l:List (Int×β)} {i:Nat},eT k l i=none↔k∉l.map (·.1):=
 by intro x;induction x<;>(intros;grind [eT])
theorem nie{l:List (Int×β)}{k:Int}:aF l k=none↔k∉l.map (·.1):=by
 unfold aF;rw[Option.map_eq_none_iff];exact nef
theorem DE(p:Int×β)(l:List (Int×β))(k:Int):aF (p::l) k=if p.1=k then some p.2 else aF l k:=by
 unfold aF;conv=>lhs;rw[eT]
 split
 ·rfl
 rw[nkf];cases eT k l 0<;>rfl
theorem I0(l l':List (Int×β))(k:Int):aF (l++l') k=(aF l k).or (aF l' k):=by induction l<;>grind [aF,eT,DE]
theorem PE(l:List (Int×β))(k:Int)(v:β)(j:Int):aF (dM l k v) j=if j=k then some v else aF l j:=by
 unfold dM;cases hi:eT k l 0 with
 |none=>
  simp only;rw[I0,DE];have h1:=nef.1 hi;by_cases e:j=k
  ·subst e;rw[nie.2 h1];simp
  rw[if_neg e,if_neg (λx=>e x.symm)];cases aF l j<;>simp[aF,eT]
 |some q=>
  obtain⟨i,u⟩:=q;simp only;induction l generalizing i with
  |nil=>simp[eT]at hi
  |cons p l ih=>
   unfold eT at hi;split at hi
   ·rename_i e;simp at hi;obtain⟨rfl,rfl⟩:=hi;simp only[dx];rw[DE,DE,e];exact zhi
   rename_i e;rw[nkf]at hi;obtain⟨q,hq,e3⟩:=wv.1 hi;obtain⟨j',u'⟩:=q;simp at e3;obtain⟨rfl,rfl⟩:=e3;simp only[ec];rw[DE,DE,ih j' hq];by_cases e2:j=k
   ·simp[e2,e]
   simp[e2]
theorem naq(l:List (Int×β))(k:Int)(v:β):(dM l k v).map (·.1)=if k∈l.map (·.1)then l.map (·.1)else l.map (·.1)++[k]:=by
 unfold dM;cases hi:eT k l 0 with
 |none=>rw[if_neg (nef.1 hi)];simp
 |some q=>
  obtain⟨i,u⟩:=q;have h1:=nrf hi;exact zbh
theorem nte{l:List (Int×β)}{k:Int}{v:β}(h:(l.map (·.1)).Nodup):((dM l k v).map (·.1)).Nodup:=by grind [naq]
theorem nji(l:List (Int×β))(k:Int):(ik l k).Sublist l:=by grind [ik]
theorem n0o{l:List (Int×β)}{k:Int}(h:(l.map (·.1)).Nodup):((ik l k).map (·.1)).Nodup:=(((nji l k).map (·.1)).nodup h)
theorem nUm{l:List (Int×β)}(h:(l.map (·.1)).Nodup)(k j:Int):aF (ik l k) j=if j=k then none else aF l j:=by
 unfold ik;cases hi:eT k l 0 with
 |none=>
  simp only;split
  ·rename_i e;subst e;exact nie.2 (nef.1 hi)
  rfl
 |some q=>
  obtain⟨i,u⟩:=q;simp only;induction l generalizing i with
  |nil=>simp[eT]at hi
  |cons p l ih=>
   obtain⟨hn,hnd⟩:=List.nodup_cons.1 h;unfold eT at hi;split at hi
   ·rename_i e;simp at hi;obtain⟨rfl,rfl⟩:=hi;simp only[rO];rw[DE,e];split
    ·rename_i e2;subst e2;subst e;exact nie.2 hn
    rename_i e2;rw[if_neg (λx=>e2 x.symm)]
   rename_i e;rw[nkf]at hi;obtain⟨q,hq,e3⟩:=wv.1 hi;obtain⟨j',u'⟩:=q;simp at e3;obtain⟨rfl,rfl⟩:=e3;simp only[wL];rw[DE,DE,ih hnd j' hq];by_cases e2:j=k
   ·subst e2;simp[e]
   simp[e2]
structure Mp where
 bs:List Nat
 c:Nat
def pg (ev:β->Value) (l:List (Int×β)) (bs:List Nat):List MapEntry:=(l.zip bs).map λp=>{key:=.int .i64 p.1.1,val:=ev p.1.2,born:=p.2}
def Mp.obj (ev:β->Value) (l:List (Int×β)) (m:Mp):Obj:=.map (pg ev l m.bs).toArray m.c
structure Mp.Ok (l:List (Int×β)) (m:Mp):Prop where
 len:m.bs.length=l.length
 lt:∀b∈m.bs,b<m.c
 nd:m.bs.Nodup
 keys:(l.map (·.1)).Nodup
variable {bs:List Nat}
theorem U8{ev:β->Value}{l:List (Int×β)}(h:bs.length=l.length)(i:Nat):(pg ev l bs)[i]? =(l[i]?).map λp=>{key:=.int .i64 p.1,val:=ev p.2,born:=bs.getD i 0}:=by grind [pg]
theorem nYi(ev:β->Value)(k:Int):∀(l:List (Int×β)) (bs:List Nat) (i:Nat),bs.length=l.length->Instr.findNow (.int .i64) (.int .i64 k) (pg ev l bs) i=some ((eT k l i).map λp=>(p.1,ev p.2))
 | [],_,_,_=>rfl
 |p::l,[],_,h=>by simp at h
 |p::l,b::bs,i,h=>by
  have ih:=nYi ev k l bs (i+1) BK;simp only[pg,List.zip_cons_cons,dL,Instr.findNow,Instr.sameNow,if_true]at ih ⊢;unfold eT;by_cases e:p.1=k
  ·rw[if_pos e,show(k==p.1)=true by simp[e]];rfl
  rw[if_neg e,show(k==p.1)=false by simp;exact λx=>e x.symm];exact ih
variable {kt:Nat} {P:Program} {W:World}
theorem n6f(hK:P.underlying kt=some (.int .i64))(ev:β->Value)(k:Int){l:List (Int×β)}(h:bs.length=l.length):(Instr.findKey kt (.int .i64 k) (pg ev l bs)).run P W= .ok ((eT k l 0).map λp=>(p.1,ev p.2)) W:=by
 simp[Instr.findKey,run_underlying hK,nYi ev k l bs 0 h]
end
section
variable {C:Cx} {Q:bC} {E:Env} {D:List Deferred} {G:Gh} {L:List World} {H:ad} {ops:Array Oper} {l:List Oper}
variable {d T ty:Nat} {pos:String} {aC:Array Edge} {g:Option (Nat×Bool)} {x y z:Operand}
variable {β:Type} {ev:β->Value} {kv:List (Int×β)} {m:Mp}
theorem Mp.nil:(Mp.mk [] 0).Ok ([]:List (Int×β)):=⟨rfl,by simp,by simp,by simp⟩
theorem Mp.nil_obj:(Mp.mk [] 0).obj ev []= .map #[] 0:=rfl
variable {b et kt:Nat} {P:Program} {zv:Value} {W:World}
theorem nZi{k:Int}(c:Bool)(hU:P.underlying T=some (.map kt et))(hK:P.underlying kt=some (.int .i64))(hz:Ay P et zv)(hm:m.Ok kv)(hb:W.heap[b]? =some (m.obj ev kv)):(Instr.lookup T (.map (some b)) (.int .i64 k) c).run P W= .ok (if c then .tuple #[((aF kv k).map ev).getD zv,.bool (aF kv k).isSome]else((aF kv k).map ev).getD zv) W:=by
 have eP:W.heap[b]? =some (.map (pg ev kv m.bs).toArray m.c):=hb;have h1:=n6f (P:=P) (W:=W) hK ev k hm.len;have e:aF kv k=(eT k kv 0).map (·.2):=rfl;cases hi:eT k kv 0 with
 |none=>
  rw[hi]at h1;have e1:aF kv k=none:=by rw[e,hi];rfl
  cases c<;>simp[Instr.lookup,run_underlying hU,IX eP,Xp hK,h1,hz W,e1]
 |some q=>
  rw[hi]at h1;have e1:aF kv k=some q.2:=by rw[e,hi];rfl
  cases c<;>simp[Instr.lookup,run_underlying hU,IX eP,Xp hK,h1,e1]
section
variable {k:Int}(hU:C.P.underlying T=some (.map kt et))(hK:C.P.underlying kt=some (.int .i64))(hz:Ay C.P et zv)(hm:m.Ok kv)(hb:bE G L H b (m.obj ev kv))(hx:Px.ev E x=some (.map (some b)))(hy:Px.ev E y=some (.int .i64 k))
include hU hK hz hm hb hx hy
theorem rj:RV C G L H E (.lookup T x y true) (.tuple #[((aF kv k).map ev).getD zv,.bool (aF kv k).isSome]):=λd ty pos aC g a W hF hS=>by
 have:=nZi (W:=W) (k:=k) true hU hK hz hm (hb W hS);simp[execOp,hF.ev hx,hF.ev hy,this]
theorem oe:RV C G L H E (.lookup T x y false) (((aF kv k).map ev).getD zv):=λd ty pos aC g a W hF hS=>by
 have:=nZi (W:=W) (k:=k) false hU hK hz hm (hb W hS);simp[execOp,hF.ev hx,hF.ev hy,this]
end
variable {i:Nat}
theorem OG{k:Int}{v:β}(hi:H[i]? =some (b,m.obj ev kv))(hm:m.Ok kv)(hU:C.P.underlying T=some (.map kt et))(hK:C.P.underlying kt=some (.int .i64))(hw:nr ops E g=some true)(hx:Px.ev E x=some (.map (some b)))(hy:Px.ev E y=some (.int .i64 k))(hz:Px.ev E z=some (ev v))(kk:∀m':Mp,m'.Ok (dM kv k v)->OJ C ops Q l E D G L (H.set i (b,m'.obj ev (dM kv k v)))):OJ C ops Q (⟨none,.mapUpdate T x y z,ty,pos,aC,g⟩::l) E D G L H:=by
 have h1:=λW:World=>n6f (P:=C.P) (W:=W) hK ev k hm.len;cases hk:eT k kv 0 with
 |none=>
  have e:dM kv k v=kv++[(k,v)]:=by unfold dM;rw[hk]
  have iR:(Mp.mk (m.bs++[m.c]) (m.c+1)).Ok (dM kv k v):=by
   refine⟨by rw[e];simp[hm.len],λb hb=>?_,?_,nte hm.keys⟩
   ·exact z2h
   exact zOh
  refine NK rfl zJ hw (λa W hF hS=>?_) (kk _ iR);have hb:=hS.own _ (cA hi);have hlt:b<W.heap.size:=(bA.1 hb).1;have eP:W.heap[b]? =some (.map (pg ev kv m.bs).toArray m.c):=hb;refine⟨.skip,_,.inl rfl,?_,hS.put hi (JN W b _) (World.putObj_heap_same hlt)⟩;have h2:=h1 W;rw[hk]at h2;have e2:((pg ev kv m.bs).toArray.push {key:=.int .i64 k,val:=ev v,born:=m.c})=(pg ev (dM kv k v) (m.bs++[m.c])).toArray:=by
   rw[e];apply Array.ext';simp only[pg,Array.toList_push];rw[List.zip_append hm.len.symm];simp
  simp[execOp,hF.ev hx,hF.ev hy,hF.ev hz,Instr.mapUpdate,run_underlying hU,IX eP,Xp hK,h2,Xq _ eP,e2,Mp.obj]
 |some q=>
  obtain⟨j,u⟩:=q;have e:dM kv k v=kv.set j (k,v):=by unfold dM;rw[hk]
  have iR:m.Ok (dM kv k v):=⟨by rw[e];simp[hm.len],hm.lt,hm.nd,nte hm.keys⟩;refine NK rfl zJ hw (λa W hF hS=>?_) (kk _ iR);have hb:=hS.own _ (cA hi);have hlt:b<W.heap.size:=(bA.1 hb).1;have eP:W.heap[b]? =some (.map (pg ev kv m.bs).toArray m.c):=hb;refine⟨.skip,_,.inl rfl,?_,hS.put hi (JN W b _) (World.putObj_heap_same hlt)⟩;have h2:=h1 W;rw[hk]at h2;have h3:=nrf hk;have h4:=U8 (ev:=ev) hm.len j;rw[h3]at h4;have NO:((((pg ev kv m.bs).toArray[j]?).map (·.key)).getD (.int .i64 k))= .int .i64 k:=by simp[h4]
  have hs:Instr.sameBits 10000 (.int .i64 k) (.int .i64 k)=true:=by
   show Instr.sameBits (9999+1) _ _=true;generalize 9999=n;simp[Instr.sameBits]
  have e2:((pg ev kv m.bs).toArray.modify j λen=>{en with key:=.int .i64 k,val:=ev v})=(pg ev (dM kv k v) m.bs).toArray:=by
   rw[e];apply Array.ext';apply C3;intro i';simp only[Array.toList_modify,List.getElem?_modify];rw[U8 hm.len,U8 (by simp[hm.len]),axr];exact zii
  simp only[execOp,hF.ev hx,hF.ev hy,hF.ev hz,Instr.mapUpdate,Sem.run_bind,run_underlying hU,Result.andThen,IX eP,Xp hK,h2,Ky,NO,Instr.keyThatStays,hs,if_true,Sem.run_pure,Xq _ eP,e2];rfl
theorem YA{kt':Nat}{k:Int}{d:Option Nat}(hd:d=none)(hi:H[i]? =some (b,m.obj ev kv))(hm:m.Ok kv)(hU:C.P.underlying T=some (.map kt et))(hK:C.P.underlying kt=some (.int .i64))(hw:nr ops E g=some true)(hx:Px.ev E x=some (.map (some b)))(hy:Px.ev E y=some (.int .i64 k))(kk:∀m':Mp,m'.Ok (ik kv k)->OJ C ops Q l E D G L (H.set i (b,m'.obj ev (ik kv k)))):OJ C ops Q (⟨d,.call ⟨.builtin .delete,#[x,y],#[T,kt']⟩,ty,pos,aC,g⟩::l) E D G L H:=by
 subst hd;have h1:=λW:World=>n6f (P:=C.P) (W:=W) hK ev k hm.len;cases hk:eT k kv 0 with
 |none=>
  have e:ik kv k=kv:=by unfold ik;rw[hk]
  have iR:m.Ok (ik kv k):=by rw[e];exact hm
  refine NK rfl zJ hw (λa W hF hS=>?_) (kk _ iR);have hb:=hS.own _ (cA hi);have hlt:b<W.heap.size:=(bA.1 hb).1;have eP:W.heap[b]? =some (.map (pg ev kv m.bs).toArray m.c):=hb;refine⟨.value (.tuple #[]),_,.inr ⟨_,rfl⟩,?_,hS.put hi (JN W b _) (World.putObj_heap_same hlt)⟩;have h2:=h1 W;rw[hk]at h2;simp[execOp,hF.ev hx,hF.ev hy,resolve,invoke,Deferred.ofValue,builtin,Builtin.delete_,run_underlying hU,IX eP,Xp hK,h2,Xq _ eP,e,Mp.obj]
 |some q=>
  obtain⟨j,u⟩:=q;have e:ik kv k=kv.eraseIdx j:=by unfold ik;rw[hk]
  have hj:=(gW.1 (nrf hk)).1;have iR:(Mp.mk (m.bs.eraseIdx j) m.c).Ok (ik kv k):=by
   refine⟨by rw[e,List.length_eraseIdx_of_lt hj,List.length_eraseIdx_of_lt (by rw[hm.len];exact hj),hm.len],λb hb=>hm.lt b (List.mem_of_mem_eraseIdx hb),(List.eraseIdx_sublist _ _).nodup hm.nd,n0o hm.keys⟩
  refine NK rfl zJ hw (λa W hF hS=>?_) (kk _ iR);have hb:=hS.own _ (cA hi);have hlt:b<W.heap.size:=(bA.1 hb).1;have eP:W.heap[b]? =some (.map (pg ev kv m.bs).toArray m.c):=hb;refine⟨.value (.tuple #[]),_,.inr ⟨_,rfl⟩,?_,hS.put hi (JN W b _) (World.putObj_heap_same hlt)⟩;have h2:=h1 W;rw[hk]at h2;have hz:∀(l:List (Int×β)) (bs:List Nat) (j:Nat),(l.zip bs).eraseIdx j=(l.eraseIdx j).zip (bs.eraseIdx j):=by
   intro l;induction l with
   |nil=>intro bs j;simp
   |cons p l ih=>
    intro bs j;cases bs with
    |nil=>simp
    |cons b bs=>cases j with
     |zero=>simp
     |succ j=>simp[ih]
  have e2:(pg ev kv m.bs).eraseIdx j=pg ev (ik kv k) (m.bs.eraseIdx j):=by
   rw[e];simp only[pg];rw[<-hz,ChangeMaps.map_eraseIdx]
  simp[execOp,hF.ev hx,hF.ev hy,resolve,invoke,Deferred.ofValue,builtin,Builtin.delete_,run_underlying hU,IX eP,Xp hK,h2,Xq _ eP,e2,Mp.obj]
def Mp.it (b:Nat) (m:Mp) (js:List Nat):Obj:=.mapIter (some b) m.c (js.map λj=>m.bs.getD j 0).toArray m.c
theorem ahC(hU:C.P.underlying T=some (.map kt et))(hb:bE G L H b (m.obj ev kv))(hw:nr ops E g=some true)(hN:Nat.blt d C.N=true)(hx:Px.ev E x=some (.map (some b)))(k:∀rb:Nat,ah L rb->bM H rb->OJ C ops Q l ((d,ptr rb 0)::E) D G L ((rb,m.it b [])::H)):OJ C ops Q (⟨some d,.range T x,ty,pos,aC,g⟩::l) E D G L H:=
 ru zJ hw hN λa W hF hS=>by
  have eP:W.heap[b]? =some (.map (pg ev kv m.bs).toArray m.c):=hb W hS;refine⟨_,_,_,_,?_,hS.alloc (m.it b []),k W.heap.size hS.sizes hS.offNew⟩;have:=run_range_map (P:=C.P) W T kt et b _ _ hU eP;simp[execOp,hF.ev hx,this,Mp.it]
theorem YE(hU:C.P.underlying T=some (.map kt et))(hw:nr ops E g=some true)(hN:Nat.blt d C.N=true)(hx:Px.ev E x=some (.map none))(k:∀rb:Nat,ah L rb->bM H rb->OJ C ops Q l ((d,ptr rb 0)::E) D G L ((rb,.mapIter none 0 #[] 0)::H)):OJ C ops Q (⟨some d,.range T x,ty,pos,aC,g⟩::l) E D G L H:=
 ru zJ hw hN λa W hF hS=>by
  refine⟨_,_,_,_,?_,hS.alloc (.mapIter none 0 #[] 0),k W.heap.size hS.sizes hS.offNew⟩;have:=run_range_nilMap (P:=C.P) W T kt et hU;simp[execOp,hF.ev hx,this]
theorem Q8{rb:Nat}(hi:H[i]? =some (rb,.mapIter none 0 #[] 0))(hw:nr ops E g=some true)(hN:Nat.blt d C.N=true)(hx:Px.ev E x=some (ptr rb 0))(k:OJ C ops Q l ((d,.tuple #[.bool false])::E) D G L H):OJ C ops Q (⟨some d,.next x false,ty,pos,aC,g⟩::l) E D G L H:=
 ru zJ hw hN λa W hF hS=>by
  have hr:=hS.own _ (cA hi);refine⟨_,W,L,H,?_,hS,k⟩;simp[execOp,hF.ev hx,Instr.next,getObj,Sem.run,hr]
variable {js:List Nat}
theorem YD{rb:Nat}(hi:H[i]? =some (rb,m.it b js))(hm:m.Ok kv)(hb:bE G L H b (m.obj ev kv))(qd:∀j∈js,j<kv.length)(hw:nr ops E g=some true)(hN:Nat.blt d C.N=true)(hx:Px.ev E x=some (ptr rb 0))(k1:(∀j,j<kv.length->j∈js)->OJ C ops Q l ((d,.tuple #[.bool false])::E) D G L H)(k2:∀(j:Nat) (p:Int×β),kv[j]? =some p->j∉js->OJ C ops Q l ((d,.tuple #[.bool true,.int .i64 p.1,ev p.2])::E) D G L (H.set i (rb,m.it b (js++[j])))):OJ C ops Q (⟨some d,.next x false,ty,pos,aC,g⟩::l) E D G L H:=
 ru zJ hw hN λa W hF hS=>by
  have hr:W.heap[rb]? =some (.mapIter (some b) m.c (js.map λj=>m.bs.getD j 0).toArray m.c):=hS.own _ (cA hi);have eP:W.heap[b]? =some (.map (pg ev kv m.bs).toArray m.c):=hb W hS;have hlt:rb<W.heap.size:=(bA.1 hr).1;have I2:∀e∈(pg ev kv m.bs).toArray.toList,e.born<m.c:=by
   intro e he;obtain⟨j,hj⟩:=jG.1 he;simp only at hj;rw[U8 hm.len]at hj;exact zuh
  have Xr:∀j,j<kv.length->((js.map λj=>m.bs.getD j 0).toArray.contains (m.bs.getD j 0)=true↔j∈js):=by
   exact zBg
  have hex:∀{v W'},(Instr.next (.pointer (some ⟨rb,0,none⟩)) false ty).run C.P W= .ok v W'->(execOp a.eval ⟨some d,.next x false,ty,pos,aC,g⟩).run C.P W= .ok (.value v) W':=by
   intro v W' hh;simp[execOp,hF.ev hx,hh]
  rcases run_next_at (P:=C.P) W ty rb b m.c m.c _ _ m.c hr eP I2 (aj _)with⟨h0,gq⟩|⟨e,he,W1,P5,gq⟩
  ·refine⟨_,W,L,H,hex gq,hS,k1 λj hj=>?_⟩;apply(Xr j hj).1;apply Decidable.byContradiction;intro hn;have fJ:=U8 (ev:=ev) hm.len j;rw[lj hj]at fJ;have kL:=cA fJ;have:(leftOf (pg ev kv m.bs).toArray (js.map λj=>m.bs.getD j 0).toArray)=#[]:=Array.eq_empty_of_size_eq_zero h0;exact zmh
  unfold leftOf at he;rw[Array.toList_filter,uK]at he;obtain⟨cK,bX⟩:=he;obtain⟨j,hj⟩:=jG.1 cK;simp only at hj;rw[U8 hm.len]at hj;obtain⟨p,hp,rfl⟩:=wv.1 hj;have BT:=(gW.1 hp).1;have hn:j∉js:=λh=>by
   exact zyh
  have sA:St G L H W1:=by
   rcases P5 with rfl|rfl
   ·exact hS
   exact hS.step (EJ W _)
  have U9:rb<W1.heap.size:=(bA.1 (sA.own _ (cA hi))).1;have CS:=sA.put hi (JN W1 rb (m.it b (js++[j]))) (World.putObj_heap_same U9);refine⟨_,_,L,_,hex gq,?_,k2 j p hp hn⟩;have e1:ChangeMaps.setBlock W1 rb (.mapIter (some b) m.c ((js.map λj=>m.bs.getD j 0).toArray.push (m.bs.getD j 0)) m.c)=W1.putObj rb (m.it b (js++[j])):=by
   simp[ChangeMaps.setBlock,World.putObj,Mp.it]
  rw[e1];exact CS
variable {j:Nat}
theorem Q7{rb:Nat}{p:Int×β}(hi:H[i]? =some (rb,m.it b (js++[j])))(hm:m.Ok kv)(hb:bE G L H b (m.obj ev kv))(hp:kv[j]? =some p)(hx:Px.ev E x=some (ptr rb 0)):RV C G L H E (.entry x) (.tuple #[.int .i64 p.1,ev p.2]):=λd ty pos aC g a W hF hS=>by
 have hr:W.heap[rb]? =some (.mapIter (some b) m.c (((js++[j]).map λj=>m.bs.getD j 0).toArray) m.c):=hS.own _ (cA hi);have eP:W.heap[b]? =some (.map (pg ev kv m.bs).toArray m.c):=hb W hS;have fJ:=U8 (ev:=ev) hm.len j;rw[hp]at fJ;have hnd:((pg ev kv m.bs).toArray.toList.map (·.born)).Nodup:=by
  have:(pg ev kv m.bs).toArray.toList.map (·.born)=m.bs:=by
   simp only[pg,List.map_map];rw[show((λx:MapEntry=>x.born)∘λp:(Int×β)×Nat=>({key:=.int .i64 p.1.1,val:=ev p.1.2,born:=p.2}:MapEntry))=Prod.snd from rfl];rw[List.map_snd_zip];exact Nat.le_of_eq hm.len
  rw[this];exact hm.nd
 exact zCh
theorem KO(ev:β->Value)(hw:nr ops E g=some true)(hN:Nat.blt d C.N=true)(k:∀(b:Nat),ah L b->bM H b->OJ C ops Q l ((d,.map (some b))::E) D G L ((b,(Mp.mk [] 0).obj ev [])::H)):OJ C ops Q (⟨some d,.makeMap T none,ty,pos,aC,g⟩::l) E D G L H:=
 ru zJ hw hN λa W _ hS=>⟨.map (some W.heap.size),W.alloc ((Mp.mk [] 0).obj ev []),_,_,by simp[execOp,Instr.makeMap,Mp.nil_obj],hS.alloc _,k W.heap.size hS.sizes hS.offNew⟩
end
section
variable {C:Cx} {Q:bC} {E:Env} {D:List Deferred} {G:Gh} {L:List World} {H H0 H1:ad} {ops:Array Oper} {l:List Oper}
variable {d ty f:Nat} {pos:String} {aC:Array Edge} {g:Option (Nat×Bool)} {xo:List Operand} {vs:List Value} {eJ:Array Nat}
variable {β:Type} {ev:β->Value} {kv:List (Int×β)}
def ER (w:World) (ev:β->Value) (kv:List (Int×β)) (v:Value->Value):Ending->World->Prop:=λe w'=>
 ∃(b:Nat) (m:Mp),e= .returned (v (.map (some b)))/\Below w.heap.size w w'/\w.heap.size<=b/\m.Ok kv/\w'.heap[b]? =some (m.obj ev kv)
variable {v:Value->Value}
theorem nXi(aA:eU C.P f)(hw:nr ops E g=some true)(hN:Nat.blt d C.N=true)(ha:jy E xo=some vs)(hc:∀W,St G L H W->Calls C.P f vs.toArray W (ER W ev kv v))(k:∀(b:Nat) (m:Mp),ah L b->bM H b->m.Ok kv->OJ C ops Q l ((d,v (.map (some b)))::E) D G L ((b,m.obj ev kv)::H)):OJ C ops Q (⟨some d,.call ⟨.value (.func f),xo.toArray,eJ⟩,ty,pos,aC,g⟩::l) E D G L H:=
 nK rfl hw rfl ha zJ aA λa W jz hD hF hS=>(hc W hS).mono (by
  rintro ed W' ⟨b,m,rfl,hb,jI,hm,fJ⟩;exact k b m (CD hS jI) (DF hS jI) hm (a.put (some d) (v (.map (some b)))) W' z8 z6 (hF.put _ z7) ((hS.step hb).adopt fJ (DF hS jI) (λhv=>by have:=hS.vlt _ hv;omega)))
variable {e:Exit} {fn:Func} {rs:List ResultVar} {us:List Value} {b i:Nat} {w:World}
theorem Yy{m:Mp}(he:e= .ret\/e= .normal)(hr:fn.results=rs.toArray)(h:RS C Gh.no L H E rs us)(hw:w∈L)(ho:Over w.heap.size H)(hv:MW us=v (.map (some b)))(hm:m.Ok kv)(hi:H[i]? =some (b,m.obj ev kv)):PJ C (bodyPost C.P fn (ER w ev kv v)) e E [] Gh.no L H:=
 bQ he hr h λW hS=>⟨b,m,by rw[hv],hS.base hw ho,ho.mem _ (cA hi),hm,hS.own _ (cA hi)⟩
variable {m t:Nat}
theorem VI{α:Type}{enc:α->List Value}{Fin:List α->Prop}(aA:eU C.P f)(hw:nr ops E g=some true)(hN:Nat.blt d C.N=true)(ha:jy E xo=some vs)(hc:∀W,St G L H W->Calls C.P f vs.toArray W (λe w'=>∃xs,Fin xs/\aD W enc m t xs v e w'))(k:∀(xs:List α) (r:Rw),Fin xs->r.Fr G L->r.Fit m xs->OJ C ops Q l ((d,v (r.val xs.length))::E) D G L (r.hp enc t xs++H)):OJ C ops Q (⟨some d,.call ⟨.value (.func f),xo.toArray,eJ⟩,ty,pos,aC,g⟩::l) E D G L H:=
 nK rfl hw rfl ha zJ aA λa W jz hD hF hS=>(hc W hS).mono (by
  rintro ed W' ⟨xs,dW,r,rfl,hb,jI,bP,fJ⟩;refine k xs r dW ?_ bP (a.put (some d) (v (r.val xs.length))) W' z8 z6 (hF.put _ z7) ?_
  ·cases r with
   |nil=>trivial
   |row b cap sp=>exact Fr.up hS jI
  cases r with
  |nil=>exact hS.step hb
  |row b cap sp=>exact(hS.step hb).adopt fJ (DF hS jI) (λhv=>by have:=hS.vlt _ hv;have:W.heap.size<=b:=jI;omega))
variable {cap first:List Value} {o:Obj} {x:Operand}
theorem nqj{γ:Type}{v:γ->Value}{ob:γ->Obj}{Φ:γ->Prop}(hi:H[i]? =some (b,o))(hx:Px.ev E x=some (.func (.func f) first.toArray cap.toArray))(aA:eU C.P f)(hw:nr ops E g=some true)(hN:Nat.blt d C.N=true)(ha:jy E xo=some vs)(hc:∀W,St G L H W->W.heap[b]? =some o->Calls C.P f (first++vs++cap).toArray W (λe w'=>∃y,e= .returned (v y)/\aQ (· =b) W w'/\Φ y/\w'.heap[b]? =some (ob y)))(k:∀y,Φ y->OJ C ops Q l ((d,v y)::E) D G L (H.set i (b,ob y))):OJ C ops Q (⟨some d,.call ⟨.value x,xo.toArray,eJ⟩,ty,pos,aC,g⟩::l) E D G L H:=
 nK rfl hw hx ha zJ aA λa W jz hD hF hS=>(hc W hS (hS.own _ (cA hi))).mono (by
  rintro ed W' ⟨y,rfl,hk,hP,fJ⟩;exact k y hP (a.put (some d) (v y)) W' z8 z6 (hF.put _ z7) (hS.put hi hk fJ))
variable {N:Nat} {a:Option Addr}
theorem ai.blk{α:Type}{enc:α->Array Value}{n N':Nat}{w':World}{xs:List α}(h:ai enc n N w a xs)(hw:∀b off,a=some ⟨b,off,none⟩->b<N->b<N'/\w'.heap[b]? =w.heap[b]?):ai enc n N' w' a xs:=by
 rcases h with h|⟨b,off,cs,t,fr,h1,h2,h3,h4⟩
 ·exact .inl h
 obtain⟨g1,g2⟩:=hw b off h1 h2;exact .inr ⟨b,off,cs,t,fr,h1,g1,g2.trans h3,h4⟩
def OK {α:Type} (w:World) (ev:β->Value) (kv:List (Int×β)) (enc:α->List Value) (n:Nat) (ds:List α) (v:Value->Value->Value):Ending->World->Prop:=λe w'=>
 ∃(b:Nat) (m:Mp) (a:Option Addr) (cp:Nat),e= .returned (v (.map (some b)) (.slice a ds.length cp))/\Below w.heap.size w w'/\w.heap.size<=b/\m.Ok kv/\w'.heap[b]? =some (m.obj ev kv)/\ai (λx=>(enc x).toArray) n w'.heap.size w' a ds/\∀q,a=some q->w.heap.size<=q.block/\q.block≠b
theorem nEi{α:Type}{enc:α->List Value}{n:Nat}{ds:List α}{v:Value->Value->Value}(aA:eU C.P f)(hw:nr ops E g=some true)(hN:Nat.blt d C.N=true)(ha:jy E xo=some vs)(hc:∀W,St G L H W->Calls C.P f vs.toArray W (OK W ev kv enc n ds v))(k:∀(b:Nat) (m:Mp) (a:Option Addr) (cp:Nat) (W w1:World),St G L H W->Below W.heap.size W w1->W.heap.size<=b->b<w1.heap.size->ah L b->bM H b->m.Ok kv->ai (λx=>(enc x).toArray) n w1.heap.size w1 a ds->(∀q,a=some q->W.heap.size<=q.block/\q.block≠b)->OJ C ops Q l ((d,v (.map (some b)) (.slice a ds.length cp))::E) D G (w1::L) ((b,m.obj ev kv)::H)):OJ C ops Q (⟨some d,.call ⟨.value (.func f),xo.toArray,eJ⟩,ty,pos,aC,g⟩::l) E D G L H:=
 nK rfl hw rfl ha zJ aA λac W jz hD hF hS=>(hc W hS).mono (by
  rintro ed W' ⟨b,m,a,cp,rfl,hb,jI,hm,fJ,aH,hne⟩;refine k b m a cp W W' hS hb jI (bA.1 fJ).1 (CD hS jI) (DF hS jI) hm aH hne (ac.put (some d) (v (.map (some b)) (.slice a ds.length cp))) W' z8 z6 (hF.put _ z7) ?_;exact((hS.step hb).snap.adopt fJ (DF hS jI) (λhv=>by have:=hS.vlt _ hv;omega)))
variable {H':ad}
theorem OJ.perm(hp:H.Perm H')(k:OJ C ops Q l E D G L H'):OJ C ops Q l E D G L H:=λa W hN hD hF hS=>k a W hN hD hF (hS.perm hp)
theorem PJ.perm(hp:H.Perm H')(k:PJ C Q e E D G L H'):PJ C Q e E D G L H:=λa W hN hD hF hS=>k a W hN hD hF (hS.perm hp)
variable {fv:Operand}
theorem VL{α:Type}{enc:α->List Value}{xs:List α}(hx:Px.ev E fv=some (.func (.func f) first.toArray cap.toArray))(aA:eU C.P f)(hw:nr ops E g=some true)(hN:Nat.blt d C.N=true)(ha:jy E xo=some vs)(hc:∀W,St G L H W->Calls C.P f (first++vs++cap).toArray W (aD W enc m t xs v))(k:∀r:Rw,r.Fr G L->r.Fit m xs->OJ C ops Q l ((d,v (r.val xs.length))::E) D G L (H++(r.hp enc t xs++[]))):OJ C ops Q (⟨some d,.call ⟨.value fv,xo.toArray,eJ⟩,ty,pos,aC,g⟩::l) E D G L H:=
 Jj hx aA hw hN ha hc λr h1 h2=>OJ.perm Zt (k r h1 h2)
end
/-! ### loops whose rounds lay marks; ranges inside of iterators -/
section
variable {C:Cx} {Q:bC} {E:Env} {D:List Deferred} {G:Gh} {L:List World} {H:ad}
def I3 {α:Type} (C:Cx) (Di:α->List Deferred) (Ei:α->Env) (Hi:α->ad) (Li:α->List World) (Gi:α->Gh) (ok:α->Prop) (μ:α->Nat) (x:α):Act->World->Prop:=λa W=>
 ∃x',ok x'/\μ x'<μ x/\a.tmps.size=C.N/\a.defers=Di x'/\Fits (Ei x') a/\St (Gi x') (Li x') (Hi x') W
theorem CJ.loopD{α:Type}{c:Code}(Di:α->List Deferred)(Ei:α->Env)(Hi:α->ad)(Li:α->List World)(Gi:α->Gh)(ok:α->Prop)(μ:α->Nat)(x0:α)(h0:ok x0)(hE:Sub (Ei x0) E)(hH:Hi x0=H)(hG:Gi x0=G)(hL:∀w∈Li x0,w∈L)(hDi:Di x0=D)(round:∀x,ok x->CJ C c (Exit.then (I3 C Di Ei Hi Li Gi ok μ x) Q) (Ei x) (Di x) (Gi x) (Li x) (Hi x)):CJ C (.loop c) Q E D G L H:=by
 intro a W hN hD hF hS;subst hH;subst hG;subst hDi
 let Inv:Act->World->Nat->Prop:=λa W m=>∃x,μ x=m/\ok x/\a.tmps.size=C.N/\a.defers=Di x/\Fits (Ei x) a/\St (Gi x) (Li x) (Hi x) W
 refine wpIn_loop (λa W=>∃m,Inv a W m) (λa W=>UO (Inv a W)) ⟨_,x0,rfl,h0,hN,hD,hE.fits hF,hS.lessL hL⟩ ?_;exact zog
theorem nnp{α:Type}{Di:α->List Deferred}{Ei:α->Env}{Hi:α->ad}{Li:α->List World}{Gi:α->Gh}{ok:α->Prop}{μ:α->Nat}{x:α}(x':α)(h0:ok x')(hlt:μ x'<μ x)(hE:Sub (Ei x') E)(hH:Hi x'=H)(hG:Gi x'=G)(hL:∀w∈Li x',w∈L)(hDi:Di x'=D):PJ C (Exit.then (I3 C Di Ei Hi Li Gi ok μ x) Q) .normal E D G L H:=by
 intro a W hN hD hF hS;subst hH;subst hG;subst hDi;exact⟨x',h0,hlt,hN,hD,hE.fits hF,hS.lessL hL⟩
abbrev Mk:=Nat×Loop×Nat
def tH (ms:List Mk):ad:=ms.flatMap λq=>[(q.1,.loop q.2.1),(q.2.2,.deferred (some []))]
def mkD (ms:List Mk):List Deferred:=ms.map λq=>qX q.2.2
theorem nKm(l Dk:Nat)(rec:Loop)(ms:List Mk)(H:ad):(book (H++tH ms) l rec (ji Dk)).Perm (H++tH ((l,rec,Dk)::ms)):=by
 simp only[book,tH,Vx,jh];refine List.Perm.append_left H ?_;exact List.perm_append_comm
variable {ms:List Mk}
theorem N6:∀k∈ms.map (·.2.2),(k,.deferred (some []))∈tH ms:=by
 intro k hk;obtain⟨q,hq,rfl⟩:=bT.1 hk;exact xz.2 ⟨q,hq,by simp⟩
theorem Va(ms:List Mk):mkD ms=(ms.map (·.2.2)).map qX:=by simp[mkD]
def B9 (n:Nat) (ms:List Mk):Prop:=∀q∈ms,n<=q.1/\n<=q.2.2
theorem YW{n:Nat}(h:B9 n ms):∀p∈tH ms,n<=p.1:=by
 intro p hp;obtain⟨q,hq,hp⟩:=xz.1 hp;have:=h q hq;all_goals grind
variable {k:Nat}
theorem nTn{n:Nat}(h:B9 n ms)(hk:k<n):bM (tH ms) k:=bM.of_mem λhm=>by
 obtain⟨p,hp,e⟩:=bT.1 hm;have:=YW h p hp;omega
variable {W:World}
theorem nQp(hS:St G L (H++tH ms) W):(ms.map (·.2.2)).Nodup:=by
 have h:=(vO _).1 hS.nodup;rw[gL,List.nodup_append]at h;have h2:=h.2.1;clear h hS;induction ms with
 |nil=>simp
 |cons q ms ih=>
  simp only[tH,Vx,im,eX,dL,List.nodup_cons]at h2 ⊢;refine⟨λhm=>?_,ih h2.2.2⟩;obtain⟨q',hq',e⟩:=bT.1 hm;refine h2.2.1 (bT.2 ⟨(q'.2.2,.deferred (some [])),xz.2 ⟨q',hq',by simp⟩,e⟩)
variable {e:Exit} {fn:Func} {I:World->Prop}
theorem YU{W0:World}{MI RO M:aI}{hM:∀k,M k->k<W0.heap.size/\¬MI k/\¬RO k}{V:aI}{hI:gk (λk=>(k<W0.heap.size/\¬MI k)\/V k) I}{α:Type}{Fin:List α->Prop}{I':List α->aI->World->Prop}{X:aI->World->Prop}{H0:ad}(he:e= .ret\/e= .normal)(hr:fn.results=#[])(hw:W0∈L)(hV:∀k,V k->W0.heap.size<=k)(hH:∀k,k<W0.heap.size->k∈(H0++tH ms).map (·.1)->MI k)(h:∀A,I A->(∃xs,Fin xs/\I' xs V A)\/X V A):PJ C (bodyPostM (FW none) 0 C.P fn (λe W'=>(∃v,e= .returned v)/\aQ (λk=>M k\/MI k) W0 W'/\∃V,(∃xs,Fin xs/\I' xs V W')\/X V W')) e E (mkD ms) (dD hM V hI) L (H0++tH ms):=by
 intro a W hN hD hF hS;have key:LeavesInM (FW none) 0 C.P fn a.tmps (λe W'=>(∃v,e= .returned v)/\aQ (λk=>M k\/MI k) W0 W'/\∃V,(∃xs,Fin xs/\I' xs V W')\/X V W') a.defers .returning W:=
  n1g (Ds:=ms.map (·.2.2)) (by rw[hD,Va]) hS (λk hk=>aY.2 (.inr (N6 k hk))) (nQp hS) (λW' H' hQ _ aW=>by
   refine⟨_,results_none hr _ _ _,⟨_,rfl⟩,(hQ.links W0 hw).mono λk hk hx=>?_,V,h W' hQ.ghost⟩;rcases hx with(hx|hx)|hx
   ·exact .inl hx
   ·have:=hV k hx;omega
   rw[aW]at hx;exact .inr (hH k hk hx))
 exact z4h
end
section
variable {C:Cx} {Q:bC} {E:Env} {D:List Deferred} {L:List World} {H:ad} {ops:Array Oper} {l:List Oper}
variable {d ty:Nat} {pos:String} {aC:Array Edge} {g:Option (Nat×Bool)} {x:Operand} {xs:List Operand} {vs:List Value} {eJ:Array Nat}
variable {W0:World} {MI RO M:aI} {hM:∀k,M k->k<W0.heap.size/\¬MI k/\¬RO k}
variable {I1 X1:aI->World->Prop} {I:World->Prop}
theorem YX{y:Nat}(Z:aI)(T:Gh->Gh)(hT:∀G,(T G).M=G.M/\(T G).V=G.V/\(T G).R=G.R/\(T G).X=λk=>G.X k\/Z k){V:aI}{hI:gk (λk=>(k<W0.heap.size/\¬MI k)\/V k) I}(lI:∀V,gk (λk=>(k<W0.heap.size/\¬MI k)\/V k) (I1 V))(gi:∀V,gk (λk=>(k<W0.heap.size/\¬MI k)\/V k) (X1 V))(hV:∀k,V k->W0.heap.size<=k)(hw:nr ops E g=some true)(hN:Nat.blt d C.N=true)(hx:ev E x=some (yv y))(ha:jy E xs=some vs)(hy:∀W1,(∀k,V k->W0.heap.size<=k/\k<W1.heap.size)->I W1->SX C.P y vs.toArray W1 (λb W2=>aQ (λk=>M k\/V k) W1 W2/\(if b then I1 (rn V W1 W2) W2 else X1 (rn V W1 W2) W2)))(k1:∀V2,(∀k,V k->V2 k)->(∀w∈L,∀k,V2 k->V k\/w.heap.size<=k)->OJ C ops Q l ((d,.bool true)::E) D (T (dD hM V2 (lI V2))) L H)(k2:∀V2,(∀k,V k->V2 k)->(∀w∈L,∀k,V2 k->V k\/w.heap.size<=k)->OJ C ops Q l ((d,.bool false)::E) D (T (dD hM V2 (gi V2))) L H):OJ C ops Q (⟨some d,.call ⟨.value x,xs.toArray,eJ⟩,ty,pos,aC,g⟩::l) E D (T (dD hM V hI)) L H:=by
 refine U6 (λG'=>∃V2,(∀k,V k->V2 k)/\(∀w∈L,∀k,V2 k->V k\/w.heap.size<=k)/\G'=T (dD hM V2 (lI V2))) (λG'=>∃V2,(∀k,V k->V2 k)/\(∀w∈L,∀k,V2 k->V k\/w.heap.size<=k)/\G'=T (dD hM V2 (gi V2))) hw hN hx ha (λW1 hS=>?_) (by rintro _ ⟨V2,h2,h3,rfl⟩;exact k1 V2 h2 h3) (by rintro _ ⟨V2,h2,h3,rfl⟩;exact k2 V2 h2 h3);have hxl:∀k,V k->k<W1.heap.size:=λk hk=>hS.xlt k (by rw[(hT _).2.2.2];exact .inl (.inr hk));have hgh:I W1:=by have:=hS.ghost;rw[(hT _).2.2.1]at this;exact this
 obtain⟨fn,tmps,assign,body,gq,p5⟩:=hy W1 (λk hk=>⟨hV k hk,hxl k hk⟩) hgh;exact zfg
theorem Zh(G:Gh):(id G).M=G.M/\(id G).V=G.V/\(id G).R=G.R/\(id G).X=λk=>G.X k\/(λ_=>False) k:=⟨rfl,rfl,rfl,by funext k;simp⟩
theorem YY(Z:aI)(G:Gh):(G.ext Z).M=G.M/\(G.ext Z).V=G.V/\(G.ext Z).R=G.R/\(G.ext Z).X=λk=>G.X k\/Z k:=⟨rfl,rfl,rfl,rfl⟩
end
/-! ### blocks that stay as_ they are, from here to the end -/
def dF (F:ad):Gh where
 M:=λ_=>False
 V:=λk=>k∈F.map (·.1)
 R:=λW=>∀p∈F,W.heap[p.1]? =some p.2
 X:=λ_=>False
 sub:=λ_ h=>h.elim
 subX:=λ_ h=>h
 stab:=λA B h _ _ _ _ _ hv p hp=>(hv p.1 (bT.2 ⟨p,hp,rfl⟩)).trans (h p hp)
section
variable {L:List World} {H:ad} {W:World} {F:ad}
theorem St.fz0(h:St Gh.no L H W):St (dF []) L H W:=
 {ghost:=λp hp=>by simp at hp,vlt:=λk hk=>by simp[dF]at hk,xlt:=λk hk=>hk.elim,links:=h.links,own:=h.own,nodup:=h.nodup,apart:=λp _ hv=>by simp[dF]at hv}
theorem St.unfz(h:St (dF F) L H W):St Gh.no L H W:=
 {ghost:=trivial,vlt:=λk hk=>hk.elim,xlt:=λk hk=>hk.elim,links:=h.links,own:=h.own,nodup:=h.nodup,apart:=λp _ hv=>hv.elim}
theorem St.fzAt(h:St (dF F) L H W):∀p∈F,W.heap[p.1]? =some p.2:=h.ghost
theorem Lm(w:World):St (dF []) [w] [] w:=(JU w).fz0
theorem St.fz{A:ad}(h:St (dF F) L (A++H) W)(ha:∀p∈A,ah L p.1):St (dF (A++F)) L H W:=by
 have hd:=(vO _).1 h.nodup;rw[gL,List.nodup_append]at hd;refine⟨λp hp=>?_,λk hk=>?_,λk hk=>hk.elim,λw hw=>?_,λp hp=>h.own p (aY.2 (.inr hp)),(vO _).2 hd.2.1,λp hp hv=>?_⟩
 ·rcases aY.1 hp with hp|hp
  ·exact h.own p (aY.2 (.inl hp))
  exact h.ghost p hp
 ·obtain⟨p,hp,rfl⟩:=bT.1 hk;rcases aY.1 hp with hp|hp
  ·exact h.lt p (aY.2 (.inl hp))
  exact h.vlt p.1 (bT.2 ⟨p,hp,rfl⟩)
 ·refine(h.links w hw).mono λk hk hx=>?_;rcases hx with hx|hx
  ·exact hx.elim
  rw[gL]at hx;rcases aY.1 hx with hx|hx
  ·obtain⟨p,hp,rfl⟩:=bT.1 hx;have:=(ha p hp).mem w hw;omega
  exact .inr hx
 obtain⟨q,hq,e⟩:=bT.1 hv;rcases aY.1 hq with hq|hq
 ·exact hd.2.2 q.1 (bT.2 ⟨q,hq,rfl⟩) p.1 (bT.2 ⟨p,hp,rfl⟩) e
 exact h.apart p (aY.2 (.inr hp)) (bT.2 ⟨q,hq,e⟩)
end
section
variable {C:Cx} {Q:bC} {E:Env} {D:List Deferred} {L:List World} {H H' F:ad} {ops:Array Oper} {l:List Oper}
theorem CJ.fz{c:Code}(A:ad)(hp:H.Perm (A++H'))(ha:∀p∈A,ah L p.1)(k:CJ C c Q E D (dF (A++F)) L H'):CJ C c Q E D (dF F) L H:=λa W hN hD hF hS=>k a W hN hD hF ((hS.perm hp).fz ha)
variable {e:Exit}
theorem PJ.fz(A:ad)(hp:H.Perm (A++H'))(ha:∀p∈A,ah L p.1)(k:PJ C Q e E D (dF (A++F)) L H'):PJ C Q e E D (dF F) L H:=λa W hN hD hF hS=>k a W hN hD hF ((hS.perm hp).fz ha)
variable {t:Nat} {r:Rw}
theorem Rw.fz_above{α:Type}{enc:α->List Value}{xs:List α}(h:r.Fr (dF F) L):∀p∈r.hp enc t xs,ah L p.1:=by
 intro p hp;cases r with
 |nil=>simp[Rw.hp]at hp
 |row b cap sp=>
  simp[Rw.hp]at hp;subst hp;exact h.elim (λh=>h.elim) id
variable {w:World}
theorem Rw.ge_fz(h:r.Fr (dF F) L)(hw:w∈L):r.ge w.heap.size:=by
 cases r with
 |nil=>trivial
 |row b cap sp=>exact(h.elim (λh=>h.elim) id:ah L b).mem w hw
variable {m:Nat}
theorem Rw.row_of{α:Type}{xs:List α}(h:r.Fit m xs)(hx:0<xs.length):∃b cap sp,r= .row b cap sp:=by
 cases r with
 |nil=>have:xs=[]:=h;subst this;simp at hx
 |row b cap sp=>exact⟨b,cap,sp,rfl⟩
variable {b:Nat}
theorem ah.not(h:ah L b)(hw:w∈L):w.heap.size<=b:=h.mem w hw
end
section
variable {C:Cx} {Q:bC} {E:Env} {D:List Deferred} {G:Gh} {L:List World} {H H0 H1:ad} {ops:Array Oper} {l:List Oper}
variable {d ty:Nat} {pos:String} {aC:Array Edge} {g:Option (Nat×Bool)} {x y:Operand} {α:Type} {enc:α->List Value} {m:Nat}
variable {a:Option Addr}
theorem Rd.zero{size c:Nat}:Rd C G L H size 0 (.slice a 0 c) []:=λW _=>by
 cases a with
 |none=>rfl
 |some a=>simp[Builtin.firstCells,loadCells,loadCellsFrom]
theorem n7f{cs:Array Value}{off:Nat}:∀(xs:List α),(∀x,(enc x).length=m)->(∀i (h:i<xs.length),off+i*m+m<=cs.size/\cut cs (off+i*m) m=(enc xs[i]).toArray)->(cs.toList.drop off).take (xs.length*m)=iB enc xs
 | [],_,_=>by simp[iB]
 |x::xs,hm,h=>by
  have ih:=n7f (cs:=cs) (off:=off+m) xs hm (λi hi=>by
   have:=h (i+1) (by simpa using hi);rw[show off+(i+1)*m=off+m+i*m by rw[qh];omega]at this;simpa using this)
  obtain⟨h1,h2⟩:=h 0 zJ;simp only[Nat.zero_mul,Nat.add_zero,List.getElem_cons_zero]at h1 h2;have h3:(cs.toList.drop off).take m=enc x:=by
   unfold cut at h2;have:=congrArg Array.toList h2;simpa using this
  have e:(x::xs).length*m=m+xs.length*m:=by rw[dO,qh];omega
  rw[e,List.take_add,Wo,h3,ih];rfl
variable {N:Nat} {w:World}
theorem cD.sl{tx e' c:Nat}{xs:List α}(hm:∀x,(enc x).length=m)(h1:∀x,∀u∈enc x,u.oneCell'=true)(hU:C.P.underlying tx=some (.slice e'))(hw:w∈L)(h:ai (λx=>(enc x).toArray) m N w a xs)(ho:∀b,b<N->¬G.X b/\bM H b):cD C G L H enc m tx (.slice a xs.length c) xs:=by
 rcases h with h|⟨b,off,cs,t,fr,e1,e2,e3,e4⟩
 ·subst h;exact zGh
 subst e1;have hl:off+xs.length*m<=cs.size\/xs=[]:=by
  exact zWg
 rcases hl with hl|h0
 ·exact cD.at hm h1 hU (bE.old hw e3 (ho b e2).1 (ho b e2).2) hl (n7f xs hm e4)
 subst h0;exact zGh
variable {sp:List Value} {b t:Nat} {sv:Value}
theorem apR{cap:Nat}{e tx:Nat}{xs zs:List α}(hH:H=H0++((b,bj enc e xs sp)::H1))(hT:jN C.P t e m)(hm:∀x,(enc x).length=m)(hw:nr ops E g=some true)(hN:Nat.blt d C.N=true)(hx:ev E x=some (.slice (some ⟨b,0,none⟩) xs.length cap))(hy:ev E y=some sv)(hs:cD C G L H enc m tx sv zs)(hr:(Rw.row b cap sp).Fit m xs)(hf:Fr G L b)(ju:xs.length+zs.length<=2000000)(k:∀(b' aZ:Nat) (bY:List Value),(b=b'\/ah L b')->(Rw.row b' aZ bY).Fit m (xs++zs)->OJ C ops Q l ((d,.slice (some ⟨b',0,none⟩) (xs++zs).length aZ)::E) D G L (H0++((b',bj enc e (xs++zs) bY)::H1))):OJ C ops Q (⟨some d,.call ⟨.builtin .append,#[x,y],#[t,tx]⟩,ty,pos,aC,g⟩::l) E D G L H:=
 ru zJ hw hN λa W hF hS=>by
  obtain⟨ti,z,qY,hz,mq,AQ,rk⟩:=hT.info;have hl:(xs++zs).length=xs.length+zs.length:=cO;have hB:(xs.length+zs.length)*ti.bytes<=140737488355328:=eE (Nat.mul_le_mul ju rk) zA;obtain⟨hc,wG⟩:=hr;have hi:H[H0.length]? =some (b,.cells (iB enc xs++sp).toArray e (0,0)):=by rw[hH];simp[bj]
  obtain⟨b',aZ,bY,W',gq,hQ,eP,Az,kJ⟩:=hS.app (P:=C.P) (ty:=ty) hi hT.und qY hz mq AQ (hs.src hS) (sT hm xs) wG hc hf aa hB;refine⟨.slice (some ⟨b',0,none⟩) (xs.length+zs.length) aZ,W',L,_,?_,hQ,?_⟩
  ·simp[execOp,hF.ev hx,hF.ev hy,resolve,invoke,Deferred.ofValue,builtin,gq]
  have:=k b' aZ bY (eP.imp Eq.symm (λh=>CD hS h)) ⟨by rw[hl];exact Az,by rw[hl];exact kJ⟩;rw[hl]at this;rw[hH];simpa[bj,OF]using this
variable {P:Program}
theorem N7{T e:Nat}(hU:P.underlying T=some (.slice e))(q:Addr)(n c d:Nat)(W:World):(Op.equalIn (d+1) T (.slice (some q) n c) (.slice none 0 0)).run P W= .ok false W:=by
 simp[Op.equalIn,run_underlying hU]
theorem vw{T U e n c:Nat}{q:Addr}(hU:C.P.underlying T=some (.slice e))(hx:ev E x=some (.slice (some q) n c))(hy:ev E y=some (.slice none 0 0)):RV C G L H E (.binOp .eql T x y U) (.bool false):=λd ty pos aC g a W hF _=>by
 have h1:(eqGuard .eql T x y (.slice (some q) n c) (.slice none 0 0)).run C.P W= .ok () W:=by simp[eqGuard]
 have h2:(binOp .eql T (.slice (some q) n c) (.slice none 0 0)).run C.P W= .ok (.bool false) W:=by
  have e:binOp .eql T (.slice (some q) n c) (.slice none 0 0)=(do pure (.bool (<-Op.equalIn (9999+1) T (.slice (some q) n c) (.slice none 0 0)))):=rfl;rw[e,Sem.run_bind,N7 hU];rfl
 exact zFh
theorem vt{T U e n c:Nat}(hU:C.P.underlying T=some (.slice e))(hx:ev E x=some (.slice none n c))(hy:ev E y=some (.slice none 0 0)):RV C G L H E (.binOp .eql T x y U) (.bool true):=λd ty pos aC g a W hF _=>by
 have h1:(eqGuard .eql T x y (.slice none n c) (.slice none 0 0)).run C.P W= .ok () W:=by simp[eqGuard]
 have h2:(binOp .eql T (.slice none n c) (.slice none 0 0)).run C.P W= .ok (.bool true) W:=by
  have e:binOp .eql T (.slice none n c) (.slice none 0 0)=(do pure (.bool (<-Op.equalIn (9999+1) T (.slice none n c) (.slice none 0 0)))):=rfl;rw[e,Sem.run_bind,n5n hU];rfl
 exact zFh
end
theorem nvl(pre old Fl new:List Value)(h:old.length=new.length):setCells (pre++(old++Fl)).toArray pre.length new=(pre++(new++Fl)).toArray:=by grind [nZ,nFd]
section
variable {C:Cx} {Q:bC} {E:Env} {D:List Deferred} {G:Gh} {L:List World} {H H0 H1:ad} {ops:Array Oper} {l:List Oper}
variable {d T ty:Nat} {pos:String} {aC:Array Edge} {g:Option (Nat×Bool)} {x y:Operand} {α:Type} {enc:α->List Value} {m:Nat}
variable {j:Nat}
theorem N8{cur:List α}{z:α}(hm:∀x,(enc x).length=m)(hj:j<cur.length)(sp:List Value):setCells (iB enc cur++sp).toArray (j*m) (enc z)=(iB enc (cur.set j z)++sp).toArray:=by
 have e:cur=cur.take j++(cur[j]::cur.drop (j+1)):=by rw[List.getElem_cons_drop,AV]
 all_goals grind [iB,OF,sT,nvl]
variable {sp:List Value} {b i off t:Nat}
theorem Lr{cur:List α}{z:α}{v:Value}(hi:H[i]? =some (b,bj enc t cur sp))(hm:∀x,(enc x).length=m)(h1:∀x,∀u∈enc x,u.oneCell'=true)(hZ:nL C.P T m)(hw:nr ops E g=some true)(hx:ev E x=some (ptr b off))(hy:ev E y=some v)(ho:off=j*m)(hj:j<cur.length)(hv:v.cells=(enc z).toArray)(h1c:bD (enc z)=true)(k:OJ C ops Q l E D G L (H.set i (b,bj enc t (cur.set j z) sp))):OJ C ops Q (⟨none,.store T x y,ty,pos,aC,g⟩::l) E D G L H:=by
 subst ho;refine kT (off:=j*m) hi hZ hw hx hy (by rw[hv];simp[hm]) ?_ (by rw[hv];exact h1c) ?_
 ·have h2:(j+1)*m<=cur.length*m:=w6 _ hj;rw[qh]at h2;simp only[rh,cO,sT hm];omega
 rw[hv];rw[N8 hm hj];exact k
variable {zv:Value}
theorem AW{tx c':Nat}{ys zs:List α}(hi:H[i]? =some (b,bj enc t (ys++zs) sp))(hm:∀x,(enc x).length=m)(hU:C.P.underlying tx=some (.slice T))(hZ:Ay C.P T zv)(uy:zv.cells.size=m)(gS:bD (Builtin.zeroCells zv.cells zs.length).toList=true)(hw:nr ops E g=some true)(hx:ev E x=some (.slice (some ⟨b,off,none⟩) zs.length c'))(ho:zs=[]\/off=ys.length*m)(k:∀bY:List Value,bY.length=zs.length*m+sp.length->OJ C ops Q l E D G L (H.set i (b,bj enc t ys bY))):OJ C ops Q (⟨none,.call ⟨.builtin .clear,#[x],#[tx]⟩,ty,pos,aC,g⟩::l) E D G L H:=by
 by_cases h0:zs=[]
 ·subst h0;have hk:=k sp zJ;rw[ee]at hi;have hH:H.set i (b,bj enc t ys sp)=H:=by
   apply C3;intro n;by_cases e:i=n
   ·subst e;rw[amq (gW.1 hi).1,hi]
   rw[UK e]
  rw[hH]at hk;exact NK rfl zJ hw (λa W hF hS=>⟨.value (.tuple #[]),W,.inr ⟨_,rfl⟩,by simp[execOp,hF.ev hx,resolve,invoke,builtin,Builtin.clear_,run_underlying hU],hS⟩) hk
 have xI:=ho.resolve_left h0;subst xI;have B7:(Builtin.zeroCells zv.cells zs.length).toList.length=zs.length*m:=by simp[Builtin.zeroCells,uy]
 have f1:iB enc (ys++zs)++sp=iB enc ys++(iB enc zs++sp):=by rw[OF,jh]
 have hl:(iB enc ys).length=ys.length*m:=sT hm ys;refine NK (H':=H.set i (b,bj enc t ys ((Builtin.zeroCells zv.cells zs.length).toList++sp))) rfl zJ hw (λa W hF hS=>?_) (k _ (by rw[cO,B7]));have hb:=hS.own _ (cA hi);obtain⟨W',hr,hk,eP⟩:=nRc (P:=C.P) (off:=ys.length*m) (Builtin.zeroCells zv.cells zs.length).toList 0 _ W hb (by
  rw[B7];simp only[rh,cO,sT hm,OF];omega) gS
 rw[Nat.add_zero,f1,<-hl,nvl _ _ _ _ (by rw[B7,sT hm])]at eP;refine⟨.value (.tuple #[]),W',.inr ⟨_,rfl⟩,?_,hS.put hi hk eP⟩;obtain⟨q,hq⟩:∃q,zs.length=q+1:=⟨zs.length-1,by have:=azr.2 h0;omega⟩;rw[hq]at hx hr;simp[execOp,hF.ev hx,resolve,invoke,builtin,Builtin.clear_,run_underlying hU,hZ W,hr]
end
end Px

namespace Px
open Go Go.RowKit
/-! ### maps from keys of any type to values -/
/-- keys that are arrays or structs -/
structure xh {K:Type} [DecidableEq K] (P:Program) (kt:Nat) (ek:K->Value):Prop where
 und:∃kd,P.underlying kt=some kd/\∀k v,Instr.sameNow kd (ek k) v=none
 chk:∀(b:Bool) (k:K) {W:World},(Instr.checkKey b 10000 kt (ek k)).run P W= .ok () W
 eq:∀(k k':K) {W:World},(Op.equal kt (ek k) (ek k')).run P W= .ok (decide (k=k')) W
 bits:∀k,Instr.sameBits 10000 (ek k) (ek k)=true
section
variable {K:Type} [DecidableEq K] {ek:K->Value} {β:Type}
def fp (k:K):List (K×β)->Nat->Option (Nat×β)
 | [],_=>none
 |p::l,i=>if p.1=k then some (i,p.2)else fp k l (i+1)
def gN (l:List (K×β)) (k:K):Option β:=(fp k l 0).map (·.2)
def fZ (l:List (K×β)) (k:K) (v:β):List (K×β):=match fp k l 0 with|some (i,_)=>l.set i (k,v)|none=>l++[(k,v)]
theorem nKi(k:K):∀(l:List (K×β)) (i j:Nat),fp k l (i+j)=(fp k l i).map λp=>(p.1+j,p.2)
 | [],_,_=>rfl
 |p::l,i,j=>by
  unfold fp;split
  ·rfl
  rw[show i+j+1=i+1+j by omega];exact nKi k l (i+1) j
theorem nlh(k:K)(l:List (K×β)):fp k l 1=(fp k l 0).map λp=>(p.1+1,p.2):=by
 have:=nKi k l 0 1;simpa using this
theorem WC{k:K}:∀{l:List (K×β)} {i:Nat} {v:β},fp k l 0=some (i,v)->l[i]? =some (k,v)
 | [],_,_,h=>by simp[fp]at h
 |p::l,i,v,h=>by
  unfold fp at h;split at h
  ·rename_i e;simp at h;obtain⟨rfl,rfl⟩:=h;subst e;simp
  rw[nlh]at h;obtain⟨q,hq,e⟩:=wv.1 h;obtain⟨j,u⟩:=q;simp at e;obtain⟨rfl,rfl⟩:=e;simpa using WC hq
theorem nof{k:K}:∀{l:List (K×β)} {i:Nat},fp k l i=none↔k∉l.map (·.1):=
 by intro x;induction x<;>(intros;grind [fp])
theorem nUg{l:List (K×β)}{k:K}:gN l k=none↔k∉l.map (·.1):=by
 unfold gN;rw[Option.map_eq_none_iff];exact nof
theorem Xt(p:K×β)(l:List (K×β))(k:K):gN (p::l) k=if p.1=k then some p.2 else gN l k:=by
 unfold gN;conv=>lhs;rw[fp]
 split
 ·rfl
 rw[nlh];cases fp k l 0<;>rfl
theorem I4(l l':List (K×β))(k:K):gN (l++l') k=(gN l k).or (gN l' k):=by induction l<;>grind [gN,fp,Xt]
theorem Hu(l:List (K×β))(k:K)(v:β)(j:K):gN (fZ l k v) j=if j=k then some v else gN l j:=by
 unfold fZ;cases hi:fp k l 0 with
 |none=>
  simp only;rw[I4,Xt];have h1:=nof.1 hi;by_cases e:j=k
  ·subst e;rw[nUg.2 h1];simp
  rw[if_neg e,if_neg (λx=>e x.symm)];cases gN l j<;>simp[gN,fp]
 |some q=>
  obtain⟨i,u⟩:=q;simp only;induction l generalizing i with
  |nil=>simp[fp]at hi
  |cons p l ih=>
   unfold fp at hi;split at hi
   ·rename_i e;simp at hi;obtain⟨rfl,rfl⟩:=hi;simp only[dx];rw[Xt,Xt,e];exact zhi
   rename_i e;rw[nlh]at hi;obtain⟨q,hq,e3⟩:=wv.1 hi;obtain⟨j',u'⟩:=q;simp at e3;obtain⟨rfl,rfl⟩:=e3;simp only[ec];rw[Xt,Xt,ih j' hq];by_cases e2:j=k
   ·simp[e2,e]
   simp[e2]
theorem nvk(l:List (K×β))(k:K)(v:β):(fZ l k v).map (·.1)=if k∈l.map (·.1)then l.map (·.1)else l.map (·.1)++[k]:=by
 unfold fZ;cases hi:fp k l 0 with
 |none=>rw[if_neg (nof.1 hi)];simp
 |some q=>
  obtain⟨i,u⟩:=q;have h1:=WC hi;exact zbh
theorem npg{l:List (K×β)}{k:K}{v:β}(h:(l.map (·.1)).Nodup):((fZ l k v).map (·.1)).Nodup:=by grind [nvk]
structure Mq where
 bs:List Nat
 c:Nat
def mU (ek:K->Value) (ev:β->Value) (l:List (K×β)) (bs:List Nat):List MapEntry:=(l.zip bs).map λp=>{key:=ek p.1.1,val:=ev p.1.2,born:=p.2}
def Mq.obj (ek:K->Value) (ev:β->Value) (l:List (K×β)) (m:Mq):Obj:=.map (mU ek ev l m.bs).toArray m.c
structure Mq.Ok (l:List (K×β)) (m:Mq):Prop where
 len:m.bs.length=l.length
 lt:∀b∈m.bs,b<m.c
 nd:m.bs.Nodup
 keys:(l.map (·.1)).Nodup
variable {bs:List Nat}
theorem N9{ev:β->Value}{l:List (K×β)}(h:bs.length=l.length):(mU ek ev l bs).length=l.length:=by simp[mU,h]
theorem Vb{ev:β->Value}{l:List (K×β)}(h:bs.length=l.length)(i:Nat):(mU ek ev l bs)[i]? =(l[i]?).map λp=>{key:=ek p.1,val:=ev p.2,born:=bs.getD i 0}:=by grind [mU]
theorem nFi{P:Program}{kt:Nat}(hK:xh P kt ek)(ev:β->Value)(k:K)(W:World):∀(l:List (K×β)) (bs:List Nat) (i:Nat),bs.length=l.length->(Instr.findAsking kt (ek k) (mU ek ev l bs) i).run P W= .ok ((fp k l i).map λp=>(p.1,ev p.2)) W
 | [],_,_,_=>by simp[mU,Instr.findAsking,fp]
 |p::l,[],_,h=>by simp at h
 |p::l,b::bs,i,h=>by
  have ih:=nFi hK ev k W l bs (i+1) BK;simp only[mU,List.zip_cons_cons,dL,Instr.findAsking,Sem.run_bind,hK.eq,Result.andThen]at ih ⊢;unfold fp;by_cases e:p.1=k
  ·rw[if_pos e,if_pos (by simp[e])];simp
  rw[if_neg e,if_neg (by simp;exact λx=>e x.symm)];exact ih
variable {kt:Nat} {P:Program} {W:World}
theorem nMi(hK:xh P kt ek)(ev:β->Value)(k:K){l:List (K×β)}(h:bs.length=l.length):(Instr.findKey kt (ek k) (mU ek ev l bs)).run P W= .ok ((fp k l 0).map λp=>(p.1,ev p.2)) W:=by
 obtain⟨kd,hU,hn⟩:=hK.und;cases l with
 |nil=>simp[Instr.findKey,run_underlying hU,mU,Instr.findNow,fp]
 |cons p l=>
  cases bs with
  |nil=>simp at h
  |cons b bs=>
   have h1:=nFi hK ev k W (p::l) (b::bs) 0 h;have h2:Instr.findNow kd (ek k) (mU ek ev (p::l) (b::bs)) 0=none:=by
    simp only[mU,List.zip_cons_cons,dL,Instr.findNow,hn]
   simp only[Instr.findKey,Sem.run_bind,run_underlying hU,Result.andThen,h2,h1]
end
section
variable {C:Cx} {Q:bC} {E:Env} {D:List Deferred} {G:Gh} {L:List World} {H:ad} {ops:Array Oper} {l:List Oper}
variable {d T ty:Nat} {pos:String} {aC:Array Edge} {g:Option (Nat×Bool)} {x y z:Operand}
variable {K:Type} [DecidableEq K] {ek:K->Value} {β:Type} {ev:β->Value} {kv:List (K×β)} {m:Mq}
theorem Mq.nil:(Mq.mk [] 0).Ok ([]:List (K×β)):=⟨rfl,by simp,by simp,by simp⟩
theorem Mq.nil_obj:(Mq.mk [] 0).obj ek ev []= .map #[] 0:=rfl
variable {b et kt:Nat} {P:Program} {zv:Value} {W:World}
theorem nyn{k:K}(c:Bool)(hU:P.underlying T=some (.map kt et))(hK:xh P kt ek)(hz:Ay P et zv)(hm:m.Ok kv)(hb:W.heap[b]? =some (m.obj ek ev kv)):(Instr.lookup T (.map (some b)) (ek k) c).run P W= .ok (if c then .tuple #[((gN kv k).map ev).getD zv,.bool (gN kv k).isSome]else((gN kv k).map ev).getD zv) W:=by
 have eP:W.heap[b]? =some (.map (mU ek ev kv m.bs).toArray m.c):=hb;have h1:=nMi (P:=P) (W:=W) hK ev k hm.len;have e:gN kv k=(fp k kv 0).map (·.2):=rfl;cases hi:fp k kv 0 with
 |none=>
  rw[hi]at h1;have e1:gN kv k=none:=by rw[e,hi];rfl
  cases c<;>simp[Instr.lookup,run_underlying hU,IX eP,hK.chk,h1,hz W,e1]
 |some q=>
  rw[hi]at h1;have e1:gN kv k=some q.2:=by rw[e,hi];rfl
  cases c<;>simp[Instr.lookup,run_underlying hU,IX eP,hK.chk,h1,e1]
theorem rl{k:K}(hU:C.P.underlying T=some (.map kt et))(hK:xh C.P kt ek)(hz:Ay C.P et zv)(hm:m.Ok kv)(hb:bE G L H b (m.obj ek ev kv))(hx:Px.ev E x=some (.map (some b)))(hy:Px.ev E y=some (ek k)):RV C G L H E (.lookup T x y false) (((gN kv k).map ev).getD zv):=λd ty pos aC g a W hF hS=>by
 have:=nyn (W:=W) (k:=k) false hU hK hz hm (hb W hS);simp[execOp,hF.ev hx,hF.ev hy,this]
variable {t:Nat}
theorem Bk(hU:C.P.underlying t=some (.map kt et))(hm:m.Ok kv)(hb:bE G L H b (m.obj ek ev kv))(hx:Px.ev E x=some (.map (some b))):RV C G L H E (.call ⟨.builtin .len,#[x],#[t]⟩) (.int .i64 (kv.length:Int)):=λd ty pos aC g a W hF hS=>by
 have eP:W.heap[b]? =some (.map (mU ek ev kv m.bs).toArray m.c):=hb W hS;simp[execOp,hF.ev hx,resolve,invoke,Deferred.ofValue,builtin,Builtin.len_,run_underlying hU,goInt,IX eP,N9 hm.len]
variable {i:Nat}
theorem Z2{k:K}{v:β}(hi:H[i]? =some (b,m.obj ek ev kv))(hm:m.Ok kv)(hU:C.P.underlying T=some (.map kt et))(hK:xh C.P kt ek)(hw:nr ops E g=some true)(hx:Px.ev E x=some (.map (some b)))(hy:Px.ev E y=some (ek k))(hz:Px.ev E z=some (ev v))(kk:∀m':Mq,m'.Ok (fZ kv k v)->OJ C ops Q l E D G L (H.set i (b,m'.obj ek ev (fZ kv k v)))):OJ C ops Q (⟨none,.mapUpdate T x y z,ty,pos,aC,g⟩::l) E D G L H:=by
 have h1:=λW:World=>nMi (P:=C.P) (W:=W) hK ev k hm.len;cases hk:fp k kv 0 with
 |none=>
  have e:fZ kv k v=kv++[(k,v)]:=by unfold fZ;rw[hk]
  have iR:(Mq.mk (m.bs++[m.c]) (m.c+1)).Ok (fZ kv k v):=by
   refine⟨by rw[e];simp[hm.len],λb hb=>?_,?_,npg hm.keys⟩
   ·exact z2h
   exact zOh
  refine NK rfl zJ hw (λa W hF hS=>?_) (kk _ iR);have hb:=hS.own _ (cA hi);have hlt:b<W.heap.size:=(bA.1 hb).1;have eP:W.heap[b]? =some (.map (mU ek ev kv m.bs).toArray m.c):=hb;refine⟨.skip,_,.inl rfl,?_,hS.put hi (JN W b _) (World.putObj_heap_same hlt)⟩;have h2:=h1 W;rw[hk]at h2;have e2:((mU ek ev kv m.bs).toArray.push {key:=ek k,val:=ev v,born:=m.c})=(mU ek ev (fZ kv k v) (m.bs++[m.c])).toArray:=by
   rw[e];apply Array.ext';simp only[mU,Array.toList_push];rw[List.zip_append hm.len.symm];simp
  simp[execOp,hF.ev hx,hF.ev hy,hF.ev hz,Instr.mapUpdate,run_underlying hU,IX eP,hK.chk,h2,Xq _ eP,e2,Mq.obj]
 |some q=>
  obtain⟨j,u⟩:=q;have e:fZ kv k v=kv.set j (k,v):=by unfold fZ;rw[hk]
  have iR:m.Ok (fZ kv k v):=⟨by rw[e];simp[hm.len],hm.lt,hm.nd,npg hm.keys⟩;refine NK rfl zJ hw (λa W hF hS=>?_) (kk _ iR);have hb:=hS.own _ (cA hi);have hlt:b<W.heap.size:=(bA.1 hb).1;have eP:W.heap[b]? =some (.map (mU ek ev kv m.bs).toArray m.c):=hb;refine⟨.skip,_,.inl rfl,?_,hS.put hi (JN W b _) (World.putObj_heap_same hlt)⟩;have h2:=h1 W;rw[hk]at h2;have h3:=WC hk;have h4:=Vb (ek:=ek) (ev:=ev) hm.len j;rw[h3]at h4;have NO:((((mU ek ev kv m.bs).toArray[j]?).map (·.key)).getD (ek k))=ek k:=by simp[h4]
  have hs:Instr.sameBits 10000 (ek k) (ek k)=true:=hK.bits k;have e2:((mU ek ev kv m.bs).toArray.modify j λen=>{en with key:=ek k,val:=ev v})=(mU ek ev (fZ kv k v) m.bs).toArray:=by
   rw[e];apply Array.ext';apply C3;intro i';simp only[Array.toList_modify,List.getElem?_modify];rw[Vb hm.len,Vb (by simp[hm.len]),axr];exact zii
  simp only[execOp,hF.ev hx,hF.ev hy,hF.ev hz,Instr.mapUpdate,Sem.run_bind,run_underlying hU,Result.andThen,IX eP,hK.chk,h2,Ky,NO,Instr.keyThatStays,hs,if_true,Sem.run_pure,Xq _ eP,e2];rfl
theorem LH(ek:K->Value)(ev:β->Value)(hw:nr ops E g=some true)(hN:Nat.blt d C.N=true)(k:∀(b:Nat),ah L b->bM H b->OJ C ops Q l ((d,.map (some b))::E) D G L ((b,(Mq.mk [] 0).obj ek ev [])::H)):OJ C ops Q (⟨some d,.makeMap T none,ty,pos,aC,g⟩::l) E D G L H:=
 ru zJ hw hN λa W _ hS=>⟨.map (some W.heap.size),W.alloc ((Mq.mk [] 0).obj ek ev []),_,_,by simp[execOp,Instr.makeMap,Mq.nil_obj],hS.alloc _,k W.heap.size hS.sizes hS.offNew⟩
end
/-! ### digests, as_ keys of maps -/
abbrev Dk:={l:List Int // l.length=32}
def vz (k:Dk):Value:=.agg (k.1.map (Value.int .u8)).toArray
theorem WB:∀lH bs:List Int,lH.length=bs.length->oT (lH.map (Value.int .u8)) (bs.map (Value.int .u8))=decide (lH=bs)
 | [],[],_=>rfl
 |a::lH,b::bs,h=>by
  simp only[dL,oT,QV,WB lH bs BK];by_cases h1:a=b<;>by_cases h2:lH=bs<;>simp[h1,h2]
 | [],_::_,h=>by simp at h
 |_::_,[],h=>by simp at h
theorem n5f:∀(n:Nat) (lH bs:List Int),lH.length=n->bs.length=n->kM (mF n [.i]) (lH.map (Value.int .u8)) (bs.map (Value.int .u8))=true
 |0,[],[],_,_=>rfl
 |n+1,a::lH,b::bs,h,h'=>by
  have:=n5f n lH bs BK (by simpa using h');simp only[mF,im,eX,dL,kM,U5,this];simp
 |0,_::_,_,h,_=>by simp at h
 |0,[],_::_,_,h=>by simp at h
 |n+1,[],_,h,_=>by simp at h
 |n+1,_::_,[],_,h=>by simp at h
variable {t:Nat} {P:Program}
theorem Oa{len e:Nat}{k:IntKind}(hU:P.underlying t=some (.array len e))(hE:P.underlying e=some (.int k))(hZ:nL P e 1)(hA:fe P e false)(em:Bool)(cs:List Value)(hl:cs.length=len)(W:World):(Instr.checkKey em 10000 t (.agg cs.toArray)).run P W= .ok () W:=by
 show(Instr.checkKey em (9998+1+1) t (.agg cs.toArray)).run P W= .ok () W;generalize 9998=n;exact zmg
theorem nyk(n:Nat):∀lH:List Int,((lH.map (Value.int .u8)).zip (lH.map (Value.int .u8))).all (λp=>Instr.sameBits n p.1 p.2)=true
 | []=>rfl
 |a::lH=>by
  have:=nyk n lH;simp only[dL,List.zip_cons_cons,List.all_cons,this,Bool.and_true];cases n<;>simp[Instr.sameBits]
theorem Z1{e:Nat}(hU:P.underlying t=some (.array 32 e))(hE:P.underlying e=some (.int .u8))(hZ:nL P e 1)(hA:fe P e false):xh P t vz where
 und:=⟨_,hU,λk v=>by cases v<;>rfl⟩
 chk:=λb k W=>Oa hU hE hZ hA b _ (by simp[k.2]) W
 eq:=λk k' W=>by
  have h:=u3.array hU hZ (ks:=[.i]) rfl (mP.int hE hA) 9998 (k.1.map (Value.int .u8)) (k'.1.map (Value.int .u8)) W (n5f 32 _ _ k.2 k'.2);have e:decide (k=k')=decide (k.1=k'.1):=by simp only[Subtype.ext_iff]
  rw[e,<-WB _ _ (by rw[k.2,k'.2])];exact h
 bits:=λk=>by
  show Instr.sameBits (9999+1) (vz k) (vz k)=true;generalize 9999=n;simp only[vz,Instr.sameBits,beq_self_eq_true,Bool.true_and];exact nyk n k.1
/-! ### slices whose blocks are frozen -/
def iK {α:Type} (enc:α->Array Value) (n:Nat) (F:ad) (a:Option Addr) (xs:List α):Prop:=
 xs=[]\/∃b off cs t fr,a=some ⟨b,off,none⟩/\(b,Obj.cells cs t fr)∈F/\∀i (h:i<xs.length),off+i*n+n<=cs.size/\cut cs (off+i*n) n=enc xs[i]
section
variable {α:Type} {enc:α->Array Value} {n N K:Nat} {w W:World} {a:Option Addr} {xs:List α} {F F':ad} {L:List World} {H:ad}
theorem iK.mono(h:iK enc n F a xs)(hF:∀p∈F,p∈F'):iK enc n F' a xs:=by
 rcases h with h|⟨b,off,cs,t,fr,h1,h2,h3⟩
 ·exact .inl h
 exact .inr ⟨b,off,cs,t,fr,h1,hF _ h2,h3⟩
theorem iK.at(h:iK enc n F a xs)(hW:∀p∈F,p.1<N/\W.heap[p.1]? =some p.2):ai enc n N W a xs:=by
 rcases h with h|⟨b,off,cs,t,fr,h1,h2,h3⟩
 ·exact .inl h
 exact .inr ⟨b,off,cs,t,fr,h1,(hW _ h2).1,(hW _ h2).2,h3⟩
theorem ai.fs(h:ai enc n N w a xs)(hn:∀q,a=some q->K<=q.block):∃F,(∀p∈F,K<=p.1/\w.heap[p.1]? =some p.2)/\iK enc n F a xs:=by
 rcases h with h|⟨b,off,cs,t,fr,h1,h2,h3,h4⟩
 ·exact⟨[],by simp,.inl h⟩
 refine⟨[(b,.cells cs t fr)],λp hp=>?_,.inr ⟨b,off,cs,t,fr,h1,by simp,h4⟩⟩;simp only[gh]at hp;subst hp;exact⟨hn _ h1,h3⟩
theorem iK.ge(h:iK enc n F a xs)(hF:∀p∈F,K<=p.1):∀q,a=some q->xs=[]\/K<=q.block:=by
 intro q hq;rcases h with h|⟨b,off,cs,t,fr,h1,h2,h3⟩;all_goals grind
theorem St.fzLies(h:St (dF F) L H W):∀p∈F,p.1<W.heap.size/\W.heap[p.1]? =some p.2:=λp hp=>⟨(bA.1 (h.ghost p hp)).1,h.ghost p hp⟩
theorem St.fzAdd{W':World}(h:St (dF F) L H W)(hb:Below W.heap.size W W')(hF:∀p∈F',W.heap.size<=p.1/\W'.heap[p.1]? =some p.2):St (dF (F'++F)) L H W':=by
 have h1:=h.step hb;refine⟨λp hp=>?_,λk hk=>?_,λk hk=>hk.elim,h1.links,h1.own,h1.nodup,λp hp hv=>?_⟩
 ·rcases aY.1 hp with hp|hp
  ·exact(hF p hp).2
  exact h1.ghost p hp
 ·obtain⟨p,hp,rfl⟩:=bT.1 hk;rcases aY.1 hp with hp|hp
  ·exact(bA.1 (hF p hp).2).1
  exact h1.vlt p.1 (bT.2 ⟨p,hp,rfl⟩)
 obtain⟨q,hq,e⟩:=bT.1 hv;rcases aY.1 hq with hq|hq
 ·have:=(hF q hq).1;have:=h.lt p hp;omega
 exact h1.apart p hp (bT.2 ⟨q,hq,e⟩)
end
section
variable {C:Cx} {Q:bC} {E:Env} {D:List Deferred} {L:List World} {H F:ad} {ops:Array Oper} {l:List Oper}
variable {d ty f:Nat} {pos:String} {aC:Array Edge} {g:Option (Nat×Bool)} {xo:List Operand} {vs:List Value} {eJ:Array Nat}
theorem Pd{γ:Type}{v:γ->Value}{Φ:ad->γ->Prop}(aA:eU C.P f)(hw:nr ops E g=some true)(hN:Nat.blt d C.N=true)(ha:jy E xo=some vs)(hc:∀W,St (dF F) L H W->Calls C.P f vs.toArray W (λe w'=>∃x F',e= .returned (v x)/\Below W.heap.size W w'/\(∀p∈F',W.heap.size<=p.1/\w'.heap[p.1]? =some p.2)/\Φ F' x))(k:∀x F',Φ F' x->(∀p∈F',ah L p.1)->OJ C ops Q l ((d,v x)::E) D (dF (F'++F)) L H):OJ C ops Q (⟨some d,.call ⟨.value (.func f),xo.toArray,eJ⟩,ty,pos,aC,g⟩::l) E D (dF F) L H:=
 nK rfl hw rfl ha zJ aA λa W jz hD hF hS=>(hc W hS).mono (by
  rintro ed W' ⟨x,F',rfl,hb,wD,hx⟩;exact k x F' hx (λp hp=>CD hS (wD p hp).1) (a.put (some d) (v x)) W' z8 z6 (hF.put _ z7) (hS.fzAdd hb wD))
variable {G:Gh} {m:Nat} {v:Value->Value}
theorem MB{α:Type}{enc:α->List Value}{Φ:World->World->List α->Prop}(aA:eU C.P f)(hw:nr ops E g=some true)(hN:Nat.blt d C.N=true)(ha:jy E xo=some vs)(hm:∀x,(enc x).length=m)(hc:∀W,St G L H W->Calls C.P f vs.toArray W (λe w'=>∃xs,Φ W w' xs/\aD W enc m t xs v e w'))(k:∀W (xs:List α) a cp w1,St G L H W->Below W.heap.size W w1->Φ W w1 xs->ai (λx=>(enc x).toArray) m w1.heap.size w1 a xs->(∀b,a=some b->W.heap.size<=b.block)->OJ C ops Q l ((d,v (.slice a xs.length cp))::E) D G (w1::L) H):OJ C ops Q (⟨some d,.call ⟨.value (.func f),xo.toArray,eJ⟩,ty,pos,aC,g⟩::l) E D G L H:=
 nK rfl hw rfl ha zJ aA λac W jz hD hF hS=>(hc W hS).mono (by
  rintro ed W' ⟨xs,hΦ,r,rfl,hb,jI,bP,fJ⟩;obtain⟨a,cp,he,aH⟩:=r.sl hm bP fJ (aj _);have:=k W xs a cp W' hS hb hΦ aH (by
   intro b qQ;cases r with
   |nil=>simp only[Rw.val,Value.slice.injEq]at he;rw[<-he.1]at qQ;cases qQ
   |row b' cap sp=>simp only[Rw.val,Value.slice.injEq]at he;rw[<-he.1]at qQ;cases qQ;exact jI) (ac.put (some d) (v (.slice a xs.length cp))) W' z8 z6 (hF.put _ z7) (hS.step hb).snap
  rw[he];exact this)
end
/-! ### walks that say the world exactly -/
section
variable (C:Cx)
def PX (Q:bC) (e:Exit) (E:Env) (T:World->Prop):Prop:=∀a W,a.tmps.size=C.N->a.defers=[]->Fits E a->T W->Q e a W
def CX (c:Code) (Q:bC) (E:Env) (T:World->Prop):Prop:=∀a W,a.tmps.size=C.N->a.defers=[]->Fits E a->T W->c.wpIn (FW C.r) 0 C.P Q a W
def OX (ops:Array Oper) (Q:bC) (l:List Oper) (E:Env) (T:World->Prop):Prop:=∀a W,a.tmps.size=C.N->a.defers=[]->Fits E a->T W->wpListIn (FW C.r) 0 C.P ops Q l a W
end
section
variable {C:Cx} {Q:bC} {E E':Env} {T:World->Prop} {ops:Array Oper} {l:List Oper}
theorem CX.region{id:Nat}(h:OX C l.toArray Q l E T):CX C (.region id l.toArray false) Q E T:=λa W hN hD hF hS=>wpIn_region_lit (h a W hN hD hF hS)
theorem CX.seq{x y:Code}(h:CX C x (Exit.then (y.wpIn (FW C.r) 0 C.P Q) Q) E T):CX C (.seq x y) Q E T:=λa W hN hD hF hS=>wpIn_seq (h a W hN hD hF hS)
theorem CX.block{id:Nat}{c:Code}(h:CX C c (Exit.inBlock id Q) E T):CX C (.block id c) Q E T:=λa W hN hD hF hS=>wpIn_block (h a W hN hD hF hS)
theorem CX.skip(h:PX C Q .normal E T):CX C .skip Q E T:=λa W hN hD hF hS=>wpIn_skip (h a W hN hD hF hS)
theorem CX.ret(h:PX C Q .ret E T):CX C .ret Q E T:=λa W hN hD hF hS=>wpIn_ret (h a W hN hD hF hS)
theorem CX.exit{id:Nat}(h:PX C Q (.exit id) E T):CX C (.exit id) Q E T:=λa W hN hD hF hS=>wpIn_exit (h a W hN hD hF hS)
theorem PX.next{y:Code}(h:CX C y Q E T):PX C (Exit.then (y.wpIn (FW C.r) 0 C.P Q) Q) .normal E T:=h
theorem OX.done(h:PX C Q .normal E T):OX C ops Q [] E T:=h
theorem CX.condT{c:Operand}{x y:Code}(hc:ev E c=some (.bool true))(h:CX C x Q E T):CX C (.cond c x y) Q E T:=λa W hN hD hF hS=>wpIn_cond_true (hF.ev hc) (h a W hN hD hF hS)
theorem CX.condF{c:Operand}{x y:Code}(hc:ev E c=some (.bool false))(h:CX C y Q E T):CX C (.cond c x y) Q E T:=λa W hN hD hF hS=>wpIn_cond_false (hF.ev hc) (h a W hN hD hF hS)
theorem PX.retThen{R:Act->World->Prop}(h:PX C Q .ret E T):PX C (Exit.then R Q) .ret E T:=h
theorem PX.exThen{R:Act->World->Prop}{id:Nat}(h:PX C Q (.exit id) E T):PX C (Exit.then R Q) (.exit id) E T:=h
theorem PX.retBlock{id:Nat}(h:PX C Q .ret E T):PX C (Exit.inBlock id Q) .ret E T:=h
theorem PX.norBlock{id:Nat}(h:PX C Q .normal E T):PX C (Exit.inBlock id Q) .normal E T:=h
theorem PX.exHit{id:Nat}(h:PX C Q .normal E T):PX C (Exit.inBlock id Q) (.exit id) E T:=λa W hN hD hF hS=>by
 simp only[Exit.inBlock];have:=h a W hN hD hF hS;simpa using this
theorem OX.fix(h:∀W1,T W1->OX C ops Q l E (· =W1)):OX C ops Q l E T:=λa W hN hD hF hS=>h W hS a W hN hD hF rfl
variable {aC:Array Edge} {L:List World} {g:Option (Nat×Bool)} {pos:String}
theorem qn{o:Op}{d ty:Nat}{v:Value}(hT:∀W,T W->St Gh.no L [] W)(hnd:JM o=true)(hw:nr ops E g=some true)(hN:Nat.blt d C.N=true)(h:RV C Gh.no L [] E o v)(k:OX C ops Q l ((d,v)::E) T):OX C ops Q (⟨some d,o,ty,pos,aC,g⟩::l) E T:=by
 intro a W jz hD hF hS;have hr:=h d ty pos aC g a W hF (hT W hS);unfold wpListIn;rw[if_pos (BB hF hw)];refine⟨λ_ _=>trivial,?_⟩;rw[Oper.semAt_eq _ _ _ (IG hnd),hr,Oper.uponIn_value];exact k (a.put (some d) v) W z8 z6 (hF.put _ z7) hS
variable {x:Operand}
theorem aac{d ty:Nat}{v:Value}(hw:nr ops E g=some true)(hN:Nat.blt d C.N=true)(hx:ev E x=some v)(k:∀W,T W->OX C ops Q l ((d,ptr W.heap.size 0)::E) (· =W.alloc (.cells v.cells t (0,0)))):OX C ops Q (⟨some d,.box t x,ty,pos,aC,g⟩::l) E T:=by
 intro a W jz hD hF hS;have hr:(execOp a.eval ⟨some d,.box t x,ty,pos,aC,g⟩).run C.P W= .ok (.value (ptr W.heap.size 0)) (W.alloc (.cells v.cells t (0,0))):=nTj (hF.ev hx);unfold wpListIn;rw[if_pos (BB hF hw)];refine⟨λ_ _=>trivial,?_⟩;rw[Oper.semAt_eq _ _ _ zJ,hr,Oper.uponIn_value];exact k W hS (a.put (some d) (ptr W.heap.size 0)) _ z8 z6 (hF.put _ z7) rfl
variable {cap first vs:List Value}
theorem Sv{d f ty:Nat}{xs:List Operand}{eJ:Array Nat}{v:Value}{T':World->Prop}(hx:ev E x=some (.func (.func f) first.toArray cap.toArray))(aA:eU C.P f)(hw:nr ops E g=some true)(hN:Nat.blt d C.N=true)(ha:jy E xs=some vs)(hc:∀W,T W->Calls C.P f (first++vs++cap).toArray W (λe w'=>e= .returned v/\T' w'))(k:OX C ops Q l ((d,v)::E) T'):OX C ops Q (⟨some d,.call ⟨.value x,xs.toArray,eJ⟩,ty,pos,aC,g⟩::l) E T:=by
 intro a W jz hD hF hS;unfold wpListIn;rw[if_pos (BB hF hw)];refine⟨λ_ _=>trivial,?_⟩;have hr:(execOp a.eval ⟨some d,.call ⟨.value x,xs.toArray,eJ⟩,ty,pos,aC,g⟩).run C.P W= .ok (.enter f (first++vs++cap).toArray) W:=by
  have h2:(xs.toArray).map a.eval=vs.toArray:=by rw[DH,NL hF xs vs ha]
  simp only[execOp,resolve,hF.ev hx,Deferred.ofValue,h2];have h3:=aA (first++vs++cap).toArray W;simp only[jh]at h3 ⊢;simp[invoke,h3]
 rw[Oper.semAt_eq _ _ _ zJ,hr,Oper.uponIn_enter];refine⟨by simp,NJ.2 ((hc W hS).mono ?_)⟩;rintro e W' ⟨rfl,h⟩;exact k (a.put (some d) v) W' z8 z6 (hF.put _ z7) h
def P6 {α:Type} (C:Cx) (Ei:α->Env) (Ti:α->World->Prop) (ok:α->Prop) (μ:α->Nat) (x:α):Act->World->Prop:=λa W=>
 ∃x',ok x'/\μ x'<μ x/\a.tmps.size=C.N/\a.defers=[]/\Fits (Ei x') a/\Ti x' W
theorem CX.loop{α:Type}{c:Code}(Ei:α->Env)(Ti:α->World->Prop)(ok:α->Prop)(μ:α->Nat)(x0:α)(h0:ok x0)(hE:Sub (Ei x0) E)(hT:∀W,T W->Ti x0 W)(round:∀x,ok x->CX C c (Exit.then (P6 C Ei Ti ok μ x) Q) (Ei x) (Ti x)):CX C (.loop c) Q E T:=by
 intro a W hN hD hF hS
 let Inv:Act->World->Nat->Prop:=λa W m=>∃x,μ x=m/\ok x/\a.tmps.size=C.N/\a.defers=[]/\Fits (Ei x) a/\Ti x W
 refine wpIn_loop (λa W=>∃m,Inv a W m) (λa W=>UO (Inv a W)) ⟨_,x0,rfl,h0,hN,hD,hE.fits hF,hT W hS⟩ ?_;exact zog
theorem PX.again{α:Type}{Ei:α->Env}{Ti:α->World->Prop}{ok:α->Prop}{μ:α->Nat}{x:α}(x':α)(h0:ok x')(hlt:μ x'<μ x)(hE:Sub (Ei x') E)(hT:∀W,T W->Ti x' W):PX C (Exit.then (P6 C Ei Ti ok μ x) Q) .normal E T:=λa W hN hD hF hS=>⟨x',h0,hlt,hN,hD,hE.fits hF,hT W hS⟩
variable {R:Ending->World->Prop} {e:Exit} {fn:Func}
theorem AZ{v:Value}(he:e= .ret\/e= .normal)(hr:fn.results=#[.tmp t])(hv:look E t=some v)(h:∀W,T W->R (.returned v) W):PX C (bodyPost C.P fn R) e E T:=by
 intro a W hN hD hF hS;have:bodyPost C.P fn R .ret a W:=⟨hD,v,by rw[results_tmp hr];exact congrArg (λu=>Result.ok u W) (hF t v hv),h W hS⟩;rcases he with rfl|rfl<;>exact this
end
variable {R:Ending->World->Prop} {fn:Func} {vs:List Value} {N:Nat} {w:World}
theorem F5{f:Nat}{c:Code}(hf:P.funcs[f]? =some fn)(hb:fn.body=some c)(hN:fn.ntmps=N)(hl:Nat.ble vs.length N=true)(h:CX ⟨P,none,N⟩ c (bodyPost P fn R) (yx 0 vs) (· =w)):Calls P f vs.toArray w R:=by
 rw[<-NJ (r:=none) (n:=0)];refine callsIn_of_wp hf hb trivial (h _ w ?_ rfl ?_ rfl)
 ·have:=eh hl;simp[hN];omega
 exact npc vs _
def Gz (w0:World) (W:World):Prop:=∃q os,W=Sort.grow (w0.drewN q) os
theorem Gz.refl(w:World):Gz w w:=⟨0,#[],by simp[Sort.grow,World.drewN]⟩
theorem Gz.trans{a b c:World}(h:Gz a b)(k:Gz b c):Gz a c:=by
 obtain⟨q,os,rfl⟩:=h;obtain⟨q',Aa,rfl⟩:=k;exact⟨q+q',os++Aa,by simp[Sort.grow,World.drewN,Nat.add_assoc]⟩
theorem Gz.alloc(w:World)(o:Obj):Gz w (w.alloc o):=⟨0,#[o],by rw[Sort.alloc_eq_grow];simp[Sort.grow,World.drewN]⟩
variable {W:World}
theorem Gz.below(h:Gz w W):Below w.heap.size w W:=by
 obtain⟨q,os,rfl⟩:=h;refine⟨rfl,rfl,rfl,by simp[Sort.grow,World.drewN],?_,λk hk=>?_⟩
 ·simp[Sort.grow,World.drewN]
 simp only[Sort.grow,World.drewN];rw[WI hk]
variable {L:List World}
theorem O7(h:∀w∈L,Below w.heap.size w W):St Gh.no L [] W:=
 ⟨trivial,λ_ h=>h.elim,λ_ h=>h.elim,λw' hw=>(aQ.of_below (X:=λk=>Gh.no.X k\/k∈([]:ad).map (·.1)) (h w' hw)),λ_ h=>by simp at h,λ_ _ _ _ h=>by simp at h,λ_ h=>by simp at h⟩
end Px

namespace Px
open Go Go.RowKit
/-! ### ranging over maps with any keys -/
section
variable {C:Cx} {Q:bC} {E:Env} {D:List Deferred} {G:Gh} {L:List World} {H:ad} {ops:Array Oper} {l:List Oper}
variable {d T ty:Nat} {pos:String} {aC:Array Edge} {g:Option (Nat×Bool)} {x y z:Operand}
variable {K:Type} [DecidableEq K] {ek:K->Value} {β:Type} {ev:β->Value} {kv:List (K×β)} {m:Mq}
def Mq.it (b:Nat) (m:Mq) (js:List Nat):Obj:=.mapIter (some b) m.c (js.map λj=>m.bs.getD j 0).toArray m.c
variable {b et kt:Nat}
theorem ajQ(hU:C.P.underlying T=some (.map kt et))(hb:bE G L H b (m.obj ek ev kv))(hw:nr ops E g=some true)(hN:Nat.blt d C.N=true)(hx:Px.ev E x=some (.map (some b)))(k:∀rb:Nat,ah L rb->bM H rb->OJ C ops Q l ((d,ptr rb 0)::E) D G L ((rb,m.it b [])::H)):OJ C ops Q (⟨some d,.range T x,ty,pos,aC,g⟩::l) E D G L H:=
 ru zJ hw hN λa W hF hS=>by
  have eP:W.heap[b]? =some (.map (mU ek ev kv m.bs).toArray m.c):=hb W hS;refine⟨_,_,_,_,?_,hS.alloc (m.it b []),k W.heap.size hS.sizes hS.offNew⟩;have:=run_range_map (P:=C.P) W T kt et b _ _ hU eP;simp[execOp,hF.ev hx,this,Mq.it]
variable {js:List Nat} {i:Nat}
theorem aav{rb:Nat}(hi:H[i]? =some (rb,m.it b js))(hm:m.Ok kv)(hb:bE G L H b (m.obj ek ev kv))(qd:∀j∈js,j<kv.length)(hw:nr ops E g=some true)(hN:Nat.blt d C.N=true)(hx:Px.ev E x=some (ptr rb 0))(k1:(∀j,j<kv.length->j∈js)->OJ C ops Q l ((d,.tuple #[.bool false])::E) D G L H)(k2:∀(j:Nat) (p:K×β),kv[j]? =some p->j∉js->OJ C ops Q l ((d,.tuple #[.bool true,ek p.1,ev p.2])::E) D G L (H.set i (rb,m.it b (js++[j])))):OJ C ops Q (⟨some d,.next x false,ty,pos,aC,g⟩::l) E D G L H:=
 ru zJ hw hN λa W hF hS=>by
  have hr:W.heap[rb]? =some (.mapIter (some b) m.c (js.map λj=>m.bs.getD j 0).toArray m.c):=hS.own _ (cA hi);have eP:W.heap[b]? =some (.map (mU ek ev kv m.bs).toArray m.c):=hb W hS;have hlt:rb<W.heap.size:=(bA.1 hr).1;have I2:∀e∈(mU ek ev kv m.bs).toArray.toList,e.born<m.c:=by
   intro e he;obtain⟨j,hj⟩:=jG.1 he;simp only at hj;rw[Vb hm.len]at hj;exact zuh
  have Xr:∀j,j<kv.length->((js.map λj=>m.bs.getD j 0).toArray.contains (m.bs.getD j 0)=true↔j∈js):=by
   exact zBg
  have hex:∀{v W'},(Instr.next (.pointer (some ⟨rb,0,none⟩)) false ty).run C.P W= .ok v W'->(execOp a.eval ⟨some d,.next x false,ty,pos,aC,g⟩).run C.P W= .ok (.value v) W':=by
   intro v W' hh;simp[execOp,hF.ev hx,hh]
  rcases run_next_at (P:=C.P) W ty rb b m.c m.c _ _ m.c hr eP I2 (aj _)with⟨h0,gq⟩|⟨e,he,W1,P5,gq⟩
  ·refine⟨_,W,L,H,hex gq,hS,k1 λj hj=>?_⟩;apply(Xr j hj).1;apply Decidable.byContradiction;intro hn;have fJ:=Vb (ek:=ek) (ev:=ev) hm.len j;rw[lj hj]at fJ;have kL:=cA fJ;have:(leftOf (mU ek ev kv m.bs).toArray (js.map λj=>m.bs.getD j 0).toArray)=#[]:=Array.eq_empty_of_size_eq_zero h0;exact zmh
  unfold leftOf at he;rw[Array.toList_filter,uK]at he;obtain⟨cK,bX⟩:=he;obtain⟨j,hj⟩:=jG.1 cK;simp only at hj;rw[Vb hm.len]at hj;obtain⟨p,hp,rfl⟩:=wv.1 hj;have BT:=(gW.1 hp).1;have hn:j∉js:=λh=>by
   exact zyh
  have sA:St G L H W1:=by
   rcases P5 with rfl|rfl
   ·exact hS
   exact hS.step (EJ W _)
  have U9:rb<W1.heap.size:=(bA.1 (sA.own _ (cA hi))).1;have CS:=sA.put hi (JN W1 rb (m.it b (js++[j]))) (World.putObj_heap_same U9);refine⟨_,_,L,_,hex gq,?_,k2 j p hp hn⟩;have e1:ChangeMaps.setBlock W1 rb (.mapIter (some b) m.c ((js.map λj=>m.bs.getD j 0).toArray.push (m.bs.getD j 0)) m.c)=W1.putObj rb (m.it b (js++[j])):=by
   simp[ChangeMaps.setBlock,World.putObj,Mq.it]
  rw[e1];exact CS
variable {j:Nat}
theorem SN{rb:Nat}{p:K×β}(hi:H[i]? =some (rb,m.it b (js++[j])))(hm:m.Ok kv)(hb:bE G L H b (m.obj ek ev kv))(hp:kv[j]? =some p)(hx:Px.ev E x=some (ptr rb 0)):RV C G L H E (.entry x) (.tuple #[ek p.1,ev p.2]):=λd ty pos aC g a W hF hS=>by
 have hr:W.heap[rb]? =some (.mapIter (some b) m.c (((js++[j]).map λj=>m.bs.getD j 0).toArray) m.c):=hS.own _ (cA hi);have eP:W.heap[b]? =some (.map (mU ek ev kv m.bs).toArray m.c):=hb W hS;have fJ:=Vb (ek:=ek) (ev:=ev) hm.len j;rw[hp]at fJ;have hnd:((mU ek ev kv m.bs).toArray.toList.map (·.born)).Nodup:=by
  have:(mU ek ev kv m.bs).toArray.toList.map (·.born)=m.bs:=by
   simp only[mU,List.map_map];rw[show((λx:MapEntry=>x.born)∘λp:(K×β)×Nat=>({key:=ek p.1.1,val:=ev p.1.2,born:=p.2}:MapEntry))=Prod.snd from rfl];rw[List.map_snd_zip];exact Nat.le_of_eq hm.len
  rw[this];exact hm.nd
 exact zCh
end
variable {t:Nat} {P:Program}
/-! ### keys of maps that are structs -/
theorem Gw{len e n:Nat}{k:IntKind}(hU:P.underlying t=some (.array len e))(hE:P.underlying e=some (.int k))(hZ:nL P e 1)(hA:fe P e false)(em:Bool)(cs:List Value)(hl:cs.length=len)(W:World):(Instr.checkKey em (n+1+1) t (.agg cs.toArray)).run P W= .ok () W:=by
 exact zmg
variable {cs:Array Value} {W:World}
theorem SE{n:Nat}{fs:List Field}{em:Bool}(hU:P.underlying t=some (.struct fs.toArray))(h:∀f∈fs,f.name≠ "_"/\∃v,(part f.type cs f.offset).run P W= .ok v W/\(Instr.checkKey em n f.type v).run P W= .ok () W):(Instr.checkKey em (n+1) t (.agg cs)).run P W= .ok () W:=by
 rw[Instr.checkKey];simp only[Sem.run_bind,run_underlying hU,Result.andThen_ok];rw[<-Array.forIn_toList,show fs.toArray.toList=fs by simp];clear hU;induction fs with
 |nil=>simp
 |cons f L ih=>
  obtain⟨hn,v,p1,p2⟩:=h f zJ;simp only[List.forIn_cons,Sem.run_bind,hn,ne_eq,not_false_eq_true,if_true,Result.andThen_ok,p1,p2,Sem.run_pure];exact ih (λy hy=>h y (by simp[hy]))
theorem nnk{n:Nat}{k:IntKind}{em:Bool}{v:Value}(hU:P.underlying t=some (.int k)):(Instr.checkKey em (n+1) t v).run P W= .ok () W:=by simp[Instr.checkKey,run_underlying hU]
variable {off:Nat}
theorem nWl{v:Value}(hA:fe P t false)(hv:cs[off]? =some v):(part t cs off).run P W= .ok v W:=by
 obtain⟨h1,h2⟩:=bA.1 hv;simp[part,hA W,h1,h2]
theorem SF{n:Nat}(hA:fe P t true)(hZ:nL P t n):(part t cs off).run P W= .ok (.agg (cut cs off n)) W:=by
 simp only[part,Sem.run_bind,hA W,hZ W,Result.andThen,if_true,Sem.run_pure,nyf]
theorem Gx(n:Nat)(k:IntKind)(a:Int):Instr.sameBits n (.int k a) (.int k a)=true:=by cases n<;>simp[Instr.sameBits]
/-! ### append behind a part of a row that is given up (a queue) -/
section
variable {G:Gh} {L:List World} {H:ad} {W:World}
variable {sp:List Value} {b i m:Nat} {sv:Value}
theorem St.appO{e n len cap tx ty:Nat}{ti:TypeInfo}{z:Value}{pre ys news:List Value}(hS:St G L H W)(hi:H[i]? =some (b,.cells (pre++(ys++sp)).toArray e (0,0)))(hU:P.underlying t=some (.slice e))(qY:P.info? e=some ti)(hz:ti.zero=some z)(hm:ti.size=m)(uy:z.cells.size=m)(qZ:Src P m tx sv n news W)(hlen:ys.length=len*m)(wG:sp.length=(cap-len)*m)(Jf:len<=cap)(ha:Fr G L b)(h63:len+n<=9223372036854775807)(mM:(len+n)*ti.bytes<=140737488355328):∃b' aZ CU bY W',(Builtin.append_ #[t,tx] ty #[.slice (some ⟨b,pre.length,none⟩) len cap,sv]).run P W= .ok (.slice (some ⟨b',CU.length,none⟩) (len+n) aZ) W'/\St G L (H.set i (b',.cells (CU++(ys++news++bY)).toArray e (0,0))) W'/\((b'=b/\CU=pre)\/(W.heap.size<=b'/\CU=[]))/\len+n<=aZ/\bY.length=(aZ-(len+n))*m:=by
 subst hm;have hb:=hS.own _ (cA hi);have wZ:=qZ.newsLen;by_cases iO:len+n<=cap
 ·have hle:(len+n)*ti.size<=cap*ti.size:=w6 _ iO;have mq:(pre++(ys++sp)).toArray.size=pre.length+cap*ti.size:=by
   simp only[rh,cO,hlen,wG];rw[<-qh];congr 2;omega
  rw[qh]at hle;have hr:=run_append_room_src (P:=P) W t tx ty e ti hU qY b pre.length len cap sv n news qZ iO
   (λj hj=>by rw[Lj hb];rw[a8q aa];rfl)
   (λj hj=>by simp[World.frozen?,hb])
  obtain⟨h1,h2⟩:=n7c b news (pre.length+len*ti.size) W _ _ hb;have kJ:(sp.drop (n*ti.size)).length=(cap-(len+n))*ti.size:=by
   rw[B8,wG,<-Nat.sub_mul];congr 1;omega
  have hc:setCells (pre++(ys++sp)).toArray (pre.length+len*ti.size) news=(pre++(ys++news++sp.drop (n*ti.size))).toArray:=by
   apply Array.ext';rw[nZ,<-hlen,<-cO];show jV (pre++(ys++sp)) (pre++ys).length news=_;have aow:n*ti.size<=sp.length:=by rw[wG,<-wZ,wZ];exact w6 _ aa
   conv=>lhs;rw[<-jh,<-AV (n*ti.size) sp]
   rw[nFd _ _ _ _ (by rw[jM];omega)];simp[jh]
  rw[hc]at h2;exact⟨_,_,_,_,_,hr,hS.put hi h1 h2,.inl ⟨rfl,rfl⟩,iO,kJ⟩
 have hold:(Builtin.firstCells ti.size len (.slice (some ⟨b,pre.length,none⟩) len cap)).run P W.drew= .ok ys.toArray W.drew:=by
  have eP:W.drew.heap[b]? =some (.cells (pre++(ys++sp)).toArray e (0,0)):=hb;rw[nKh eP (by simp only[rh,cO,hlen];omega)];unfold cut;rw[List.drop_left' rfl,<-hlen,QT rfl]
 have hr:=run_append_grow_src (P:=P) W t tx ty e ti z hU qY hz (some ⟨b,pre.length,none⟩) len cap ys hold sv n news qZ aa aa (growslice_fits aa mM);have hg:=grownCap_ge W (len+n) cap e;have hQ:=(hS.step (EJ W (W.drawn+1))).renewF (.cells ((ys++news).toArray++Builtin.zeroCells z.cells (grownCap W (len+n) cap e-(len+n))) e (0,0)) hi ha;have B7:(Builtin.zeroCells z.cells (grownCap W (len+n) cap e-(len+n))).toList.length=(grownCap W (len+n) cap e-(len+n))*ti.size:=by
  simp[Builtin.zeroCells,uy]
 have hc:(ys++news).toArray++Builtin.zeroCells z.cells (grownCap W (len+n) cap e-(len+n))=([]++(ys++news++(Builtin.zeroCells z.cells (grownCap W (len+n) cap e-(len+n))).toList)).toArray:=by
  apply Array.ext';simp
 rw[hc]at hQ hr;exact⟨_,_,[],_,_,hr,hQ,.inr ⟨aj _,rfl⟩,hg,B7⟩
end
section
variable {C:Cx} {Q:bC} {E:Env} {D:List Deferred} {G:Gh} {L:List World} {H H0 H1:ad} {ops:Array Oper} {l:List Oper}
variable {d ty:Nat} {pos:String} {aC:Array Edge} {g:Option (Nat×Bool)} {x y:Operand} {α:Type} {enc:α->List Value} {m:Nat}
variable {sp:List Value} {b:Nat} {sv:Value}
theorem apO{cap:Nat}{e tx:Nat}{ps xs zs:List α}(hH:H=H0++((b,bj enc e (ps++xs) sp)::H1))(hT:jN C.P t e m)(hm:∀x,(enc x).length=m)(hw:nr ops E g=some true)(hN:Nat.blt d C.N=true)(hx:ev E x=some (.slice (some ⟨b,off,none⟩) xs.length cap))(ho:off=ps.length*m)(hy:ev E y=some sv)(hs:cD C G L H enc m tx sv zs)(hc:xs.length<=cap)(wG:sp.length=(cap-xs.length)*m)(hf:Fr G L b)(ju:xs.length+zs.length<=1000000)(k:∀(b' aZ:Nat) (P7:List α) (bY:List Value),(b=b'\/ah L b')->(xs++zs).length<=aZ->bY.length=(aZ-(xs++zs).length)*m->OJ C ops Q l ((d,.slice (some ⟨b',P7.length*m,none⟩) (xs++zs).length aZ)::E) D G L (H0++((b',bj enc e (P7++(xs++zs)) bY)::H1))):OJ C ops Q (⟨some d,.call ⟨.builtin .append,#[x,y],#[t,tx]⟩,ty,pos,aC,g⟩::l) E D G L H:=
 ru zJ hw hN λa W hF hS=>by
  obtain⟨ti,z,qY,hz,mq,AQ,rk⟩:=hT.info;have hl:(xs++zs).length=xs.length+zs.length:=cO;have hB:(xs.length+zs.length)*ti.bytes<=140737488355328:=eE (Nat.mul_le_mul ju rk) zA;have hp:(iB enc ps).length=ps.length*m:=sT hm ps;have hi:H[H0.length]? =some (b,.cells (iB enc ps++(iB enc xs++sp)).toArray e (0,0)):=by rw[hH];simp[bj,OF]
  obtain⟨b',aZ,CU,bY,W',gq,hQ,eP,Az,kJ⟩:=hS.appO (P:=C.P) (ty:=ty) hi hT.und qY hz mq AQ (hs.src hS) (sT hm xs) wG hc hf aa hB;subst ho;rw[hp]at gq;obtain⟨P7,rfl⟩:∃P7:List α,CU=iB enc P7:=by
   rcases eP with⟨_,e1⟩|⟨_,e1⟩
   ·exact⟨ps,e1⟩
   exact⟨[],e1⟩
  rw[sT hm P7]at gq;refine⟨.slice (some ⟨b',P7.length*m,none⟩) (xs.length+zs.length) aZ,W',L,_,?_,hQ,?_⟩
  ·simp[execOp,hF.ev hx,hF.ev hy,resolve,invoke,Deferred.ofValue,builtin,gq]
  have:=k b' aZ P7 bY (eP.imp (λh=>h.1.symm) (λh=>CD hS h.1)) (by rw[hl];exact Az) (by rw[hl];exact kJ);rw[hl]at this;rw[hH];simpa[bj,OF]using this
end
section
variable {C:Cx} {Q:bC} {E:Env} {D:List Deferred} {L:List World} {H:ad} {ops:Array Oper} {l:List Oper}
variable {d ty:Nat} {pos:String} {aC:Array Edge} {g:Option (Nat×Bool)} {x:Operand} {xs:List Operand} {vs:List Value} {eJ:Array Nat}
variable {W0:World} {MI RO M:aI} {hM:∀k,M k->k<W0.heap.size/\¬MI k/\¬RO k}
variable {I1 X1:aI->World->Prop} {I:World->Prop}
theorem aaK{y:Nat}(Z:aI)(T:Gh->Gh)(hT:∀G,(T G).M=G.M/\(T G).V=G.V/\(T G).R=G.R/\(T G).X=λk=>G.X k\/Z k){V:aI}{hI:gk (λk=>(k<W0.heap.size/\¬MI k)\/V k) I}(lI:∀V,gk (λk=>(k<W0.heap.size/\¬MI k)\/V k) (I1 V))(gi:∀V,gk (λk=>(k<W0.heap.size/\¬MI k)\/V k) (X1 V))(hV:∀k,V k->W0.heap.size<=k)(hw:nr ops E g=some true)(hN:Nat.blt d C.N=true)(hx:ev E x=some (yv y))(ha:jy E xs=some vs)(hy:∀W1,St (T (dD hM V hI)) L H W1->(∀k,V k->W0.heap.size<=k/\k<W1.heap.size)->I W1->SX C.P y vs.toArray W1 (λb W2=>aQ (λk=>M k\/V k) W1 W2/\(if b then I1 (rn V W1 W2) W2 else X1 (rn V W1 W2) W2)))(k1:∀V2,(∀k,V k->V2 k)->(∀w∈L,∀k,V2 k->V k\/w.heap.size<=k)->OJ C ops Q l ((d,.bool true)::E) D (T (dD hM V2 (lI V2))) L H)(k2:∀V2,(∀k,V k->V2 k)->(∀w∈L,∀k,V2 k->V k\/w.heap.size<=k)->OJ C ops Q l ((d,.bool false)::E) D (T (dD hM V2 (gi V2))) L H):OJ C ops Q (⟨some d,.call ⟨.value x,xs.toArray,eJ⟩,ty,pos,aC,g⟩::l) E D (T (dD hM V hI)) L H:=by
 refine U6 (λG'=>∃V2,(∀k,V k->V2 k)/\(∀w∈L,∀k,V2 k->V k\/w.heap.size<=k)/\G'=T (dD hM V2 (lI V2))) (λG'=>∃V2,(∀k,V k->V2 k)/\(∀w∈L,∀k,V2 k->V k\/w.heap.size<=k)/\G'=T (dD hM V2 (gi V2))) hw hN hx ha (λW1 hS=>?_) (by rintro _ ⟨V2,h2,h3,rfl⟩;exact k1 V2 h2 h3) (by rintro _ ⟨V2,h2,h3,rfl⟩;exact k2 V2 h2 h3);have hxl:∀k,V k->k<W1.heap.size:=λk hk=>hS.xlt k (by rw[(hT _).2.2.2];exact .inl (.inr hk));have hgh:I W1:=by have:=hS.ghost;rw[(hT _).2.2.1]at this;exact this
 obtain⟨fn,tmps,assign,body,gq,p5⟩:=hy W1 hS (λk hk=>⟨hV k hk,hxl k hk⟩) hgh;exact zfg
variable {e:Exit} {fn:Func}
theorem n5c{V:aI}{hI:gk (λk=>(k<W0.heap.size/\¬MI k)\/V k) I}{α:Type}{Fin:List α->aI->World->Prop}{I':List α->aI->World->Prop}{X:aI->World->Prop}(he:e= .ret\/e= .normal)(hr:fn.results=#[])(hw:W0∈L)(hV:∀k,V k->W0.heap.size<=k)(hH:∀k,k<W0.heap.size->k∈H.map (·.1)->MI k)(h:∀A,St (dD hM V hI) L H A->I A->(∃xs,Fin xs (λk=>M k\/V k) A/\I' xs V A)\/X V A):PJ C (bodyPost C.P fn (λe W'=>(∃v,e= .returned v)/\aQ (λk=>M k\/MI k) W0 W'/\∃V,(∃xs,Fin xs (λk=>M k\/V k) W'/\I' xs V W')\/X V W')) e E [] (dD hM V hI) L H:=by
 intro a W' _ hD _ hS;have key:bodyPost C.P fn (λe W'=>(∃v,e= .returned v)/\aQ (λk=>M k\/MI k) W0 W'/\∃V,(∃xs,Fin xs (λk=>M k\/V k) W'/\I' xs V W')\/X V W') .normal a W':=by
  refine⟨hD,.tuple #[],results_none hr _ _ _,⟨_,rfl⟩,(hS.links W0 hw).mono λk hk hx=>?_,V,h W' hS hS.ghost⟩;exact z9h
 exact z4h
end
section
variable {α:Type}
end
end Px


namespace Px
open Go Go.RowKit
/-! ### yield is called in another function -/
/-- what a function leaves that calls yield once -/
def YR (M V:aI) (I1 X1:aI->World->Prop) (W:World):Ending->World->Prop:=λe W2=>
 ∃(b:Bool) (V2:aI),e= .returned (.bool b)/\(∀k,V k->V2 k)/\(∀k,V2 k->V k\/(W.heap.size<=k/\k<W2.heap.size))/\aQ (λk=>M k\/V k) W W2/\(if b then I1 V2 W2 else X1 V2 W2)
section
variable {C:Cx} {Q:bC} {E:Env} {D:List Deferred} {L:List World} {H:ad} {ops:Array Oper} {l:List Oper}
variable {d ty f:Nat} {pos:String} {aC:Array Edge} {g:Option (Nat×Bool)} {x:Operand} {xs:List Operand} {vs first cap:List Value} {eJ:Array Nat}
variable {W0:World} {MI RO M:aI} {hM:∀k,M k->k<W0.heap.size/\¬MI k/\¬RO k}
variable {I1 X1:aI->World->Prop} {I:World->Prop}
theorem S5{V:aI}{hI:gk (λk=>(k<W0.heap.size/\¬MI k)\/V k) I}(lI:∀V,gk (λk=>(k<W0.heap.size/\¬MI k)\/V k) (I1 V))(gi:∀V,gk (λk=>(k<W0.heap.size/\¬MI k)\/V k) (X1 V))(hx:ev E x=some (.func (.func f) first.toArray cap.toArray))(aA:eU C.P f)(hw:nr ops E g=some true)(hN:Nat.blt d C.N=true)(ha:jy E xs=some vs)(hc:∀W,St (dD hM V hI) L H W->Calls C.P f (first++vs++cap).toArray W (YR M V I1 X1 W))(k1:∀V2,(∀k,V k->V2 k)->(∀w∈L,∀k,V2 k->V k\/w.heap.size<=k)->OJ C ops Q l ((d,.bool true)::E) D (dD hM V2 (lI V2)) L H)(k2:∀V2,(∀k,V k->V2 k)->(∀w∈L,∀k,V2 k->V k\/w.heap.size<=k)->OJ C ops Q l ((d,.bool false)::E) D (dD hM V2 (gi V2)) L H):OJ C ops Q (⟨some d,.call ⟨.value x,xs.toArray,eJ⟩,ty,pos,aC,g⟩::l) E D (dD hM V hI) L H:=
 nK rfl hw hx ha zJ aA λa W jz hD hF hS=>(hc W hS).mono (by
  rintro e W2 ⟨b,V2,rfl,h1,h2,hk,hb⟩;have h3:∀w∈L,∀k,V2 k->V k\/w.heap.size<=k:=λw hw k hk=>(h2 k hk).imp id λh=>by have:=(hS.links w hw).size;omega
  have nx:∀{R:World->Prop} (hR:gk (λk=>(k<W0.heap.size/\¬MI k)\/V2 k) R),R W2->Next (dD hM V hI) W W2 (dD hM V2 hR):=λ{R} hR hr=>
   ⟨λk h=>h.imp id (h1 k),λk h=>h.elim (λh=>.inl (.inl h)) (λh=>(h2 k h).imp .inr id),λk h=>h.elim (λh=>.inl (.inl h)) (λh=>(h2 k h).imp .inr id),hr⟩
  have bP:=λv=>hF.put (d:=d) v z7;cases b with
  |true=>exact k1 V2 h1 h3 (a.put (some d) (.bool true)) W2 z8 z6 (bP _) (hS.yield2 hk (nx (lI V2) hb).x (nx (lI V2) hb).x' (nx (lI V2) hb).v hb)
  |false=>exact k2 V2 h1 h3 (a.put (some d) (.bool false)) W2 z8 z6 (bP _) (hS.yield2 hk (nx (gi V2) hb).x (nx (gi V2) hb).x' (nx (gi V2) hb).v hb))
variable {G:Gh} {W:World}
theorem St.alone(h:St G L H W):St G [W] [] W:=
 ⟨h.ghost,h.vlt,h.xlt,λw hw=>by rw[gh.1 hw];exact aQ.refl _ _,λp hp=>by simp at hp,λi j p q hi=>by simp at hi,λp hp=>by simp at hp⟩
variable {e:Exit} {L':List World} {b i:Nat} {o:Obj}
theorem PJ.resnap(hi:H[i]? =some (b,o))(hb:ah L' b)(hs:∀w∈L',w∈L)(k:∀W,St G L H W->PJ C Q e E D G (W::L') (H.eraseIdx i)):PJ C Q e E D G L H:=
 λa W hN hD hF hS=>k W hS a W hN hD hF ((hS.lessL hs).dropAt hi hb).snap
theorem PJ.resnap0(hs:∀w∈L',w∈L)(k:∀W,St G L H W->PJ C Q e E D G (W::L') H):PJ C Q e E D G L H:=
 λa W hN hD hF hS=>k W hS a W hN hD hF (hS.lessL hs).snap
theorem CJ.resnap0{c:Code}(hs:∀w∈L',w∈L)(k:∀W,St G L H W->CJ C c Q E D G (W::L') H):CJ C c Q E D G L H:=
 λa W hN hD hF hS=>k W hS a W hN hD hF (hS.lessL hs).snap
end
end Px
