/- Memory, operations, iterators, slices, maps. No conditions. -/
import Derived.Test.YtodpaegknpbomaaGreatDoorXa
import Derived.RecoverIn
import Derived.Laws.StructEq
import Derived.ProofKit
import Derived.LaidMore
import Derived.OpenShut
import Derived.Stop.Joined
import Derived.Carry
import Derived.Deep.Slices
import Derived.Shelf.SlSortCmp.NoneTotal
import Derived.Maps.RangeRun
import Derived.WideKeyRuns
import Derived.Sort.Grow
import Derived.Deep.Draws
set_option linter.unusedSimpArgs false
set_option linter.unusedVariables false
set_option linter.unusedSectionVars false
set_option maxRecDepth 20000
set_option maxHeartbeats 8000000
namespace Px
open Go Go.RowKit
/-! ### values of the codec -/
inductive V where
 |int (n:Int)
 |text (s:ByteArray)
 |list (l:List V)
theorem V.ind{p:V->Prop}(h1:∀n,p (.int n))(h2:∀s,p (.text s))(h3:∀l,(∀y∈l,p y)->p (.list l)):∀x,p x:=by
 intro x;exact V.rec (motive_1:=p) (motive_2:=λl=>∀y∈l,p y) h1 h2 h3 zI (λx l hx hl y hy=>by
  rcases cd.1 hy with rfl|hy
  ·exact hx
  exact hl y hy) x
def V.kind:V->Int
 | .int _=>1
 | .text _=>2
 | .list _=>3
def num (u:Nat):List UInt8:=if h:u<128 then[UInt8.ofNat u]else UInt8.ofNat (u%128+128)::num (u/128)
termination_by u
decreasing_by omega
theorem Yd{u:Nat}(h:u<128):num u=[UInt8.ofNat u]:=by rw[num,dif_pos h]
theorem nYm{u:Nat}(h:¬u<128):num u=UInt8.ofNat (u%128+128)::num (u/128):=by rw[num,dif_neg h]
theorem Kh(u:Nat):0<(num u).length:=by grind [Yd,nYm]
theorem N2:∀(k u:Nat),u<128^k->0<k->(num u).length<=k:=
 by intro x;induction x<;>(intros;grind [Yd,nYm])
theorem Da{u:Nat}(h:u<18446744073709551616):(num u).length<=10:=N2 10 u (qF h zz) aa
def Kf (n:Int):Nat:=if 0<=n then(2*n).toNat else(-2*n-1).toNat
mutual
def V.enc:V->List UInt8
 | .int n=>1::num (Kf n)
 | .text s=>2::(num s.size++s.data.toList)
 | .list l=>3::(num l.length++V.encL l)
def V.encL:List V->List UInt8
 | []=>[]
 |x::l=>V.enc x++V.encL l
end
mutual
def V.depth:V->Nat
 | .int _=>0
 | .text _=>0
 | .list l=>V.depthL l+1
def V.depthL:List V->Nat
 | []=>0
 |x::l=>max (V.depth x) (V.depthL l)
end
theorem V.encL_take_le(l:List V):∀i,(V.encL (l.take i)).length<=(V.encL l).length:=by
 induction l with
 |nil=>intro i;simp[V.encL]
 |cons x l ih=>intro i;cases i with
  |zero=>simp[V.encL]
  |succ i=>simp only[ZH,V.encL,cB];have:=ih i;omega
theorem V.depthL_snoc(l:List V)(x:V):V.depthL (l++[x])=max (V.depthL l) x.depth:=by
 induction l with
 |nil=>simp[V.depthL]
 |cons y l ih=>simp only[iv,V.depthL,ih];omega
theorem V.depthL_take(l:List V)(i:Nat)(h:i<l.length):V.depthL (l.take (i+1))=max (V.depthL (l.take i)) (l[i]).depth:=by
 rw[Oh h,V.depthL_snoc]
mutual
def V.fine:V->Prop
 | .int n=> -9223372036854775808<=n/\n<=9223372036854775807
 | .text s=>s.size<=1000000000
 | .list l=>l.length<=1000000000/\V.depthL l<=1000000000/\V.fineL l
def V.fineL:List V->Prop
 | []=>True
 |x::l=>V.fine x/\V.fineL l
end
theorem V.fineL_mem:∀{l:List V},V.fineL l->∀x∈l,x.fine
 | [],_,x,hx=>by cases hx
 |y::l,h,x,hx=>by
  simp only[V.fineL]at h;rcases cd.1 hx with rfl|hx
  ·exact h.1
  exact V.fineL_mem h.2 x hx
theorem V.depthL_mem:∀{l:List V} (x:V),x∈l->x.depth<=V.depthL l
 | [],x,hx=>by cases hx
 |y::l,x,hx=>by
  simp only[V.depthL];rcases cd.1 hx with rfl|hx
  ·omega
  have:=V.depthL_mem (l:=l) x hx;omega
abbrev vI (n:Int):Value:=.agg #[.int .i64 1,.int .i64 n,.string ⟨#[]⟩,.slice none 0 0]
abbrev vT (s:ByteArray):Value:=.agg #[.int .i64 2,.int .i64 0,.string s,.slice none 0 0]
abbrev vL (base:Option Addr) (n cap:Nat):Value:=.agg #[.int .i64 3,.int .i64 0,.string ⟨#[]⟩,.slice base n cap]
mutual
def fy (N:Nat) (w:World):V->Value->Prop
 | .int n,v=>v=vI n
 | .text s,v=>v=vT s
 | .list l,v=>∃base cap,v=vL base l.length cap/\l.length<=cap/\(l=[]\/∃b cs t fr,base=some ⟨b,0,none⟩/\b<N/\w.heap[b]? =some (.cells cs t fr)/\gX N w cs 0 l)
def gX (N:Nat) (w:World) (cs:Array Value):Nat->List V->Prop
 |_,[]=>True
 |off,x::l=>off+4<=cs.size/\fy N w x (.agg (cut cs off 4))/\gX N w cs (off+4) l
end
theorem gX.get{N:Nat}{w:World}{cs:Array Value}:∀{l:List V} {off:Nat},gX N w cs off l->∀(i:Nat) (h:i<l.length),off+4*i+4<=cs.size/\fy N w l[i] (.agg (cut cs (off+4*i) 4))
 | [],_,_,i,h=>by simp at h
 |x::l,off,hv,i,h=>by
  simp only[gX]at hv;cases i with
  |zero=>exact⟨by omega,hv.2.1⟩
  |succ i=>
   have:=gX.get hv.2.2 i BT;rw[show off+4*(i+1)=off+4+4*i by omega];simpa using this
variable {aE:Array Edge} {es:Array MapEntry} {os:Array Obj} {cs:Array Value} {R:Ending->World->Prop} {e:Exit} {Q:Exit->Act->List Frame->World->Prop} {fn:Func} {G:Gh} {H H':ad} {bs js:List Nat} {rs:List ResultVar} {ys:List UInt8} {cap first sp us vs:List Value} {L L':List World} {N b et i j k kt m off t:Nat} {fr:Nat×Nat} {o:Obj} {fv x:Operand} {g:Option (Nat×Bool)} {a:Option Addr} {P:Program} {pos:String} {sv zv:Value} {v:Value->Value} {W w:World} {I:World->Prop}
theorem fy.up{N':Nat}{w':World}(hN:N<=N')(hw:∀k,k<N->w'.heap[k]? =w.heap[k]?):∀(x:V) (v:Value),fy N w x v->fy N' w' x v:=by
 refine V.ind ?_ ?_ ?_
 ·intro n v h;simpa only[fy]using h
 ·intro s v h;simpa only[fy]using h
 intro l ih v h;simp only[fy]at h ⊢;obtain⟨base,cap,hv,hc,hl⟩:=h;refine⟨base,cap,hv,hc,?_⟩;rcases hl with hl|⟨b,cs,t,fr,hb,hlt,bX,hs⟩
 ·exact .inl hl
 refine .inr ⟨b,cs,t,fr,hb,by omega,(hw b hlt).trans bX,?_⟩;clear hb hlt bX hc hv;generalize 0=off at *;induction l generalizing off with
 |nil=>simp only[gX]
 |cons x l J=>
  simp only[gX]at hs ⊢;exact⟨hs.1,ih x zI _ hs.2.1,J (λy hy=>ih y (by simp[hy])) _ hs.2.2⟩
theorem fy.shape:∀{x:V} {v:Value},fy N w x v->∃n s p m c,v= .agg #[.int .i64 x.kind,.int .i64 n,.string s,.slice p m c]
 | .int n,v,h=>by simp only[fy]at h;exact⟨_,_,_,_,_,h⟩
 | .text s,v,h=>by simp only[fy]at h;exact⟨_,_,_,_,_,h⟩
 | .list l,v,h=>by simp only[fy]at h;obtain⟨_,_,h,_⟩:=h;exact⟨_,_,_,_,_,h⟩
theorem St.same(h:St G L H W)(hw:w∈L)(hN:N<=w.heap.size)(hX:∀k,k<N->¬G.X k)(hH:Over N H):∀k,k<N->W.heap[k]? =w.heap[k]? :=λk hk=>
 (h.links w hw).block k aa (λhx=>by
  rcases hx with hx|hx
  ·exact hX k hk hx
  obtain⟨p,hp,rfl⟩:=bU.1 hx;have:=hH.mem p hp;omega)
theorem St.sm(h:St G L H W)(hw:w∈L:=by first|exact A0|exact A1|exact A2|exact A3|exact A4|exact A5|exact A6|exact A7|exact A8|exact A9)(hN:N<=w.heap.size:=by assumption)(hX:∀k,k<N->¬G.X k:=by exact λ_ _ h=>h)(hH:Over N H:=by first|exact True.intro|(simp only[Over,book,iv,eY,ec,iY,dA,eh,rK,wL,and_true];omega)|(simp[Over]<;>omega)):∀k,k<N->W.heap[k]? =w.heap[k]? :=h.same hw hN hX hH
section
variable {C:Cx} {Q:bE} {E:Env} {D:List Deferred} {G:Gh} {L:List World} {H:ad} {ops:Array Oper} {l:List Oper}
variable {d T U ty f:Nat} {pos:String} {aE:Array Edge} {g:Option (Nat×Bool)} {x y:Operand} {xs:List Operand} {vs:List Value} {eL:Array Nat}
theorem Et{s:ByteArray}(hU:C.P.underlying t=some .string)(hx:ev E x=some (.string s)):RV C G L H E (.call ⟨.builtin .len,#[x],#[t]⟩) (.int .i64 (s.size:Int)):=λd ty pos aE g a W hF _=>by
 simp[execOp,hF.ev hx,resolve,invoke,Deferred.ofValue,builtin,Builtin.len_,run_underlying hU,goInt]
theorem yY{s t:ByteArray}(hx:ev E x=some (.string s))(hy:ev E y=some (.string t)):RV C G L H E (.binOp .eql T x y U) (.bool (s.toList==t.toList)):=λd ty pos aE g a W hF _=>by
 simp[execOp,eqGuard,binOp,Op.stringOp,hF.ev hx,hF.ev hy]
theorem QM{K:IntKind}{m n:Int}{t1 t2:Nat}(hx:ev E x=some (.int K m))(hy:ev E y=some (.int K n)):RV C G L H E (.call ⟨.builtin .max,#[x,y],#[t1,t2]⟩) (.int K (max m n)):=λd ty pos aE g a W hF _=>by
 have:(if m<n then n else m)=max m n:=by omega
 simp[execOp,hF.ev hx,hF.ev hy,resolve,invoke,Deferred.ofValue,builtin,Builtin.max_,Builtin.max2,this]
end
theorem jK{α:Type}{l:List α}(h:l.length=1):∃a,l=[a]:=by
 match l,h with
 | [a],_=>exact⟨a,rfl⟩
theorem rL{α:Type}{l:List α}(h:l.length=2):∃a b,l=[a,b]:=by
 match l,h with
 | [a,b],_=>exact⟨a,b,rfl⟩
theorem pB{α:Type}{l:List α}(h:l.length=3):∃a b c,l=[a,b,c]:=by
 match l,h with
 | [a,b,c],_=>exact⟨a,b,c,rfl⟩
theorem vm{α:Type}{l:List α}(h:l.length=4):∃a b c d,l=[a,b,c,d]:=by
 match l,h with
 | [a,b,c,d],_=>exact⟨a,b,c,d,rfl⟩
theorem tP{α:Type}{l:List α}(h:l.length=5):∃a b c d e,l=[a,b,c,d,e]:=by
 match l,h with
 | [a,b,c,d,e],_=>exact⟨a,b,c,d,e,rfl⟩
section
variable {C:Cx} {Q:bE} {E:Env} {D:List Deferred} {G:Gh} {L:List World} {H:ad} {id:Nat}
theorem PJ.swp{p q:Nat×Obj}(k:PJ C Q e E D G L (p::q::H)):PJ C Q e E D G L (q::p::H):=λa W hN hD hF hS=>k a W hN hD hF (hS.perm (List.Perm.swap p q H))
end
section
variable {C:Cx} {Q:bE} {E:Env} {D:List Deferred} {G:Gh} {L:List World} {H:ad} {ops:Array Oper} {l:List Oper}
variable {d T ty f:Nat} {pos:String} {aE:Array Edge} {g:Option (Nat×Bool)} {x y:Operand} {xs:List Operand} {vs:List Value} {eL:Array Nat}
theorem QR{e:Nat}(hx:ev E x=some (.func (.func f) first.toArray cap.toArray))(aB:eV C.P f)(hw:nr ops E g=some true)(hN:Nat.blt d C.N=true)(ha:jy E xs=some vs)(hc:∀W,St G L H W->Calls C.P f (first++vs++cap).toArray W (nWm W e ys))(k:∀b' J bZ,ah L b'->bN H b'->¬G.X b'->dT ys J bZ->OJ C ops Q l ((d,bW b' ys.length J)::E) D G L ((b',aV e ys bZ)::H)):OJ C ops Q (⟨some d,.call ⟨.value x,xs.toArray,eL⟩,ty,pos,aE,g⟩::l) E D G L H:=
 nK rfl hw hx ha zI aB λa W jz hD hF hS=>(hc W hS).mono (by
  rintro ed W' ⟨b',J,bZ,rfl,hb,lj,hr,fF⟩;exact k b' J bZ (CK hS lj) (DN hS lj) (λhx=>by have:=hS.xlt _ hx;omega) hr (a.put (some d) (bW b' ys.length J)) W' z7 z5 (hF.put _ z6)
   ((hS.step hb).adopt fF (DN hS lj) (λhv=>by have:=hS.vlt _ hv;omega)))
def nRl (w:World) (e:Nat) (ys:List UInt8):Ending->World->Prop:=λed w'=>
 ∃b' bA bZ,ed= .returned (.tuple #[bW b' ys.length bA,.int .i64 0])/\Below w.heap.size w w'/\w.heap.size<=b'/\dT ys bA bZ/\w'.heap[b']? =some (aV e ys bZ)
theorem QS{u b' e J:Nat}{bZ:List Value}{ex:Exit}(he:ex= .ret\/ex= .normal)(hr:fn.results=#[.tmp t,.tmp u])(hv:look E t=some (bW b' ys.length J))(hu:look E u=some (.int .i64 0))(hi:H[i]? =some (b',aV e ys bZ))(hw:w∈L)(ho:Over w.heap.size H)(hk:dT ys J bZ):PJ C (bodyPost C.P fn (nRl w e ys)) ex E [] Gh.no L H:=
 bS he (rs:=[.tmp t,.tmp u]) hr (RS.t hv (RS.t hu RS.n)) λW hS=>⟨b',J,bZ,rfl,hS.base hw ho,ho.mem _ (cu hi),hk,hS.own _ (cu hi)⟩
theorem nrk{e:Nat}(aB:eV C.P f)(hw:nr ops E g=some true)(hN:Nat.blt d C.N=true)(ha:jy E xs=some vs)(hc:∀W,St G L H W->Calls C.P f vs.toArray W (nRl W e ys))(k:∀b' J bZ,ah L b'->bN H b'->¬G.X b'->dT ys J bZ->OJ C ops Q l ((d,.tuple #[bW b' ys.length J,.int .i64 0])::E) D G L ((b',aV e ys bZ)::H)):OJ C ops Q (⟨some d,.call ⟨.value (.func f),xs.toArray,eL⟩,ty,pos,aE,g⟩::l) E D G L H:=
 nK rfl hw rfl ha zI aB λa W jz hD hF hS=>(hc W hS).mono (by
  rintro ed W' ⟨b',J,bZ,rfl,hb,lj,hr,fF⟩;exact k b' J bZ (CK hS lj) (DN hS lj) (λhx=>by have:=hS.xlt _ hx;omega) hr (a.put (some d) _) W' z7 z5 (hF.put _ z6)
   ((hS.step hb).adopt fF (DN hS lj) (λhv=>by have:=hS.vlt _ hv;omega)))
theorem Yt{v:Value}(hx:ev E x=some (.func (.func f) first.toArray cap.toArray))(aB:eV C.P f)(hw:nr ops E g=some true)(hN:Nat.blt d C.N=true)(ha:jy E xs=some vs)(hc:∀W,St G L H W->Calls C.P f (first++vs++cap).toArray W (aU W v))(k:OJ C ops Q l ((d,v)::E) D G L H):OJ C ops Q (⟨some d,.call ⟨.value x,xs.toArray,eL⟩,ty,pos,aE,g⟩::l) E D G L H:=
 nK rfl hw hx ha zI aB λa W jz hD hF hS=>(hc W hS).mono (by
  rintro e W' ⟨rfl,hb⟩;exact k (a.put (some d) v) W' z7 z5 (hF.put _ z6) (hS.step hb))
theorem nOn{Pre:World->Prop}{Φ:Value->World->Prop}{v:Value}(hx:ev E x=some (.func (.func f) first.toArray cap.toArray))(aB:eV C.P f)(hw:nr ops E g=some true)(ha:jy E xs=some vs)(hc:∀W,St G L H W->Pre W->Calls C.P f (first++vs++cap).toArray W (aU W v))(J:∀W,Φ v W):X C ops G L H E Pre ⟨some d,.call ⟨.value x,xs.toArray,eL⟩,ty,pos,aE,g⟩ Φ:=by
 intro a W K Q jz hF hS hP hk;rw[if_pos (BL hF hw)];refine⟨λ_ _=>trivial,?_⟩;have hr:(execOp a.eval ⟨some d,.call ⟨.value x,xs.toArray,eL⟩,ty,pos,aE,g⟩).run C.P W= .ok (.enter f (first++vs++cap).toArray) W:=by
  have h2:(xs.toArray).map a.eval=vs.toArray:=by rw[DP,NL hF xs vs ha]
  simp only[execOp,resolve,hF.ev hx,Deferred.ofValue,h2];simp[invoke,aB _ W]
 rw[Oper.semAt_eq _ _ _ zI,hr,Oper.uponIn_enter];refine⟨by simp,NJ.2 ((hc W hS hP).mono ?_)⟩;rintro e W' ⟨rfl,hb⟩;exact hk v W' hb (J W')
end
/-! ### deferred calls, and recover -/
def HL (cs:List Frame):Value×List Frame:=match recoverD cs with|some p=>p|none=>(.nilIface,cs)
theorem nvn(cs:List Frame):(HL cs).2.length=cs.length:=by
 unfold HL;split
 ·rename_i p h;obtain⟨v,eH⟩:=p;exact recoverD_length h
 rfl
theorem nSp{F:Fence}{n:Nat}{a:Act}{cs:List Frame}{w':World}{id:Nat}{ops:Array Oper}{o:Oper}{rest:List Nat}(rM:F.round=none)(ay:List.range ops.size=0::rest)(ho:ops[0]? =some o)(hw:Region.wanted o (yielded ops a.tmps)=true)(qP:∀f,o.about P w a.eval=some f->F.fn f)(hr:(execOp a.eval o).run P w= .ok .recover w')(h:wpOpsIn F n P ops (λe a' w'=>Q e a' (HL cs).2 w') rest (a.put o.dst (HL cs).1) w'):(Code.region id ops false).wpSIn F n P Q a cs w:=by
 intro b k hb Xa hF iQ;have h0:(lone (b.atR a (.inRegion ops (0::rest)::k)) cs w).fenced P F:=fenced_oper hF iQ ho qP;have hg:=stepGR_op (P:=P) (b:=b) (k:=k) (cs:=cs) (w:=w) (rest:=rest) ho hw;rw[Xa,Oper.semAt_none]at hg;have ee:∀v,(b.atR a (.inRegion ops (0::rest)::k)).finish v=b.atR (a.put o.dst v) (.inRegion ops rest::k):=by
  intro v;rw[Frame.finish_atR,ho];rfl
 have hk:(b.atR a (.inRegion ops (0::rest)::k)).kind= .deferred:=hb;have iF:=tryRecover_deferred hk cs;have hlen:=nvn cs;obtain⟨e,a',az,hq,an⟩:=wp_opsIn rest (a.put o.dst (HL cs).1) w' h b k (HL cs).2 (Xa.trans rM.symm) hF (by rw[hlen];exact iQ);refine⟨e,a',(HL cs).2,az,hlen,hq,?_⟩;have J:=stepR_region (P:=P) (b:=b) (a:=a) (id:=id) (ops:=ops) (k:=k) (cs:=cs) (w:=w);rw[ay]at J;refine .of_steps (.head (fenced_calm hF iQ rfl) J (.one h0 (step_lone_go ?_))) an;rw[hg,<-ee];unfold HL;cases p6:recoverD cs with
 |none=>
  simp only[Frame.atR,Xa]at iF ⊢;simp[stepG.apply,hr,iF,p6]
 |some p=>
  obtain⟨v,eH⟩:=p;simp only[Frame.atR,Xa]at iF ⊢;simp[stepG.apply,hr,iF,p6]
theorem n9k(J:Frame)(cs:List Frame)(h:J.mode= .returning):HL (J::cs)=(.nilIface,{J with mode:=.returning}::cs):=by
 simp only[HL,recoverD,h];rw[<-h]
theorem T5{f:Nat}{c:Code}(G:Gh)(H:ad)(hf:P.funcs[f]? =some fn)(hb:fn.body=some c)(hN:fn.ntmps=N)(hl:Nat.ble vs.length N=true)(hS:St G [w] H w)(h:CJ ⟨P,none,N⟩ c (bodyPostDIn (FW none) 0 P fn R) (yx 0 vs) [] G [w] H):Calls P f vs.toArray w R:=by
 rw[<-NJ (r:=none) (n:=0)];refine callsIn_of_wp_defers hf hb trivial (h _ w ?_ rfl ?_ hS)
 ·have:=er hl;simp[hN];omega
 exact npc vs _
section
variable {P:Program} {N:Nat} {Q:bE} {E:Env} {D:List Deferred} {G:Gh} {L:List World} {H:ad} {ops:Array Oper} {l:List Oper}
variable {ty f:Nat} {pos:String} {aE:Array Edge} {g:Option (Nat×Bool)} {x:Operand}
theorem OJ.defer{eL:Array Nat}(hw:nr ops E g=some true)(hx:ev E x=some (.func (.func f) #[] cap.toArray))(k:OJ ⟨P,none,N⟩ ops Q l E ({target:=.fn (.func f) cap.toArray,args:=#[]}::D) G L H):OJ ⟨P,none,N⟩ ops Q (⟨none,.defer ⟨.value x,#[],eL⟩,ty,pos,aE,g⟩::l) E D G L H:=by
 intro a W jz hD hF hS;unfold wpListIn;rw[if_pos (BL hF hw)];refine⟨λ_ _=>trivial,?_⟩;have hr:(execOp a.eval ⟨none,.defer ⟨.value x,#[],eL⟩,ty,pos,aE,g⟩).run P W= .ok (.defer {target:=.fn (.func f) cap.toArray,args:=#[]}) W:=by
  simp[execOp,resolve,hF.ev hx,Deferred.ofValue]
 dsimp only;rw[Oper.semAt_none,hr,Oper.uponIn_defer];exact k _ W jz z5 (λt v hv=>hF t v hv) hS
theorem alV{ex:Exit}(he:ex= .ret\/ex= .normal)(aB:eV P f)(hc:∀W,St G L H W->CallsDIn (FW none) 0 P f cap.toArray .returning W (λe u' w'=>u'= .returning/\(∃v,e= .returned v)/\Below W.heap.size W w'))(hr:fn.results=rs.toArray)(h:RS ⟨P,none,N⟩ G L H E rs vs)(hR:∀W,St G L H W->R (.returned (MX vs)) W):PJ ⟨P,none,N⟩ (bodyPostDIn (FW none) 0 P fn R) ex E [{target:=.fn (.func f) cap.toArray,args:=#[]}] G L H:=by
 intro a W jz hD hF hS;have key:LeavesIn (FW none) 0 P fn a.tmps R a.defers .returning W:=by
  rw[hD];refine leavesIn_cons (f:=f) (args:=cap.toArray) zI zI (by simp[invoke,aB _ W]) (λ_ _=>trivial) ?_;refine(hc W hS).mono ?_;rintro e u' w' ⟨rfl,⟨v,rfl⟩,hb⟩;exact⟨_,h.res hr hF (hS.step hb),hR w' (hS.step hb)⟩
 exact z4h
end
/-! ### several blocks that are lent -/
def keys (H:ad):List Nat:=H.map (·.1)
def qu (G:Gh) (L:List World):ad->Prop
 | []=>True
 |p::H=>Fr G L p.1/\qu G L H
theorem qu.mem{G:Gh}{L:List World}:∀{H:ad},qu G L H->∀p∈H,Fr G L p.1
 | [],_,p,hp=>by cases hp
 |q::H,h,p,hp=>by
  rcases cd.1 hp with rfl|hp
  ·exact h.1
  exact qu.mem h.2 p hp
theorem St.swapZ{Hz H0 Hn:ad}{W':World}(h:St G L (Hz++H0) W)(hk:aT (λk=>k∈keys Hz) W W')(jX:qu G L Hz)(hn:∀p∈Hn,W'.heap[p.1]? =some p.2/\(p.1∈keys Hz\/W.heap.size<=p.1))(hd:lS Hn):St G L (Hn++H0) W':=by
 have hnd:=(vN (Hz++H0)).1 h.nodup;rw[gN,List.nodup_append]at hnd;obtain⟨gV,ft,gi⟩:=hnd;have IU:∀p∈H0,p.1∉keys Hz:=λp hp hm=>gi p.1 hm p.1 (bU.2 ⟨p,hp,rfl⟩) rfl;have an:∀p∈H0,W'.heap[p.1]? =some p.2:=λp hp=>by
  rw[hk.block p.1 (h.lt p (by simp[hp])) (IU p hp)];exact h.own p (by simp[hp])
 refine⟨?_,λk hv=>qF (h.vlt k hv) hk.size,λk hv=>qF (h.xlt k hv) hk.size,λw hw=>?_,λp hp=>?_,?_,λp hp=>?_⟩
 ·refine G.stab W W' h.ghost hk.os hk.tape hk.output hk.drawn hk.size (λk hv=>hk.block k (h.vlt k hv) λhm=>?_);obtain⟨p,hp,rfl⟩:=bU.1 hm;exact h.apart p (by simp[hp]) hv
 ·have hl:=h.links w hw;refine⟨hk.os.trans hl.os,hk.tape.trans hl.tape,hk.output.trans hl.output,eB hl.drawn hk.drawn,eB hl.size hk.size,λk al hx=>?_⟩;simp only[gN,aY,not_or]at hx;have J:k∉keys Hz:=λhm=>by
   obtain⟨p,hp,rfl⟩:=bU.1 hm;rcases jX.mem p hp with hf|hf
   ·exact hx.1 hf
   have:=hf.mem w hw;omega
  rw[hk.block k (qF al hl.size) J];refine hl.block k al λhy=>?_;simp only[gN,aY]at hy;rcases hy with hy|hy|hy
  ·exact hx.1 hy
  ·exact J hy
  exact hx.2.2 hy
 ·rcases aY.1 hp with hp|hp
  ·exact(hn p hp).1
  exact an p hp
 ·rw[vN,gN,List.nodup_append];refine⟨(vN Hn).1 hd,ft,λa ha b hb e=>?_⟩;subst e;obtain⟨p,hp,rfl⟩:=bU.1 ha;obtain⟨q,hq,e⟩:=bU.1 hb;rcases(hn p hp).2 with h1|h1
  ·exact IU q hq (e▸h1)
  have:=h.lt q (by simp[hq]);omega
 rcases aY.1 hp with hp|hp
 ·intro hv;rcases(hn p hp).2 with h1|h1
  ·obtain⟨q,hq,e⟩:=bU.1 h1;exact h.apart q (by simp[hq]) (e▸hv)
  have:=h.vlt _ hv;omega
 exact h.apart p (by simp[hp])
def mO {α:Type} (w:World) (Z:List Nat) (v:α->Value) (Hn:α->ad) (Φ:α->Prop):Ending->World->Prop:=λe w'=>
 ∃x,e= .returned (v x)/\aT (λk=>k∈Z) w w'/\Φ x/\(∀p∈Hn x,w'.heap[p.1]? =some p.2/\(p.1∈Z\/w.heap.size<=p.1))/\lS (Hn x)
theorem HF{Hz:ad}(h:∀p∈Hz,w.heap[p.1]? =some p.2)(hd:lS Hz):St (Gh.lent (λk=>k∈keys Hz)) [w] Hz w where
 ghost:=trivial
 vlt:=λ_ h=>h.elim
 xlt:=λk hk=>by
  obtain⟨p,hp,rfl⟩:=bU.1 (show k∈keys Hz from hk);exact(bB.1 (h p hp)).1
 links:=λw' hw=>by simp at hw;subst hw;exact aT.refl _ _
 own:=h
 nodup:=hd
 apart:=λ_ _ h=>h.elim
def fP (w:World):ad->Prop
 | []=>True
 |p::H=>w.heap[p.1]? =some p.2/\fP w H
theorem fP.mem{w:World}:∀{H:ad},fP w H->∀p∈H,w.heap[p.1]? =some p.2
 | [],_,p,hp=>by cases hp
 |q::H,h,p,hp=>by
  rcases cd.1 hp with rfl|hp
  ·exact h.1
  exact fP.mem h.2 p hp
theorem EL(p:Nat×Obj):lS [p]:=by rw[vN];simp
theorem W4{p q:Nat×Obj}(h:p.1≠q.1):lS [p,q]:=by rw[vN];simp[h]
def qx (Z:List Nat) (n:Nat):ad->Prop
 | []=>True
 |p::H=>(p.1∈Z\/n<=p.1)/\qx Z n H
theorem qx.mem{Z:List Nat}{n:Nat}:∀{H:ad},qx Z n H->∀p∈H,p.1∈Z\/n<=p.1
 | [],_,p,hp=>by cases hp
 |q::H,h,p,hp=>by
  rcases cd.1 hp with rfl|hp
  ·exact h.1
  exact qx.mem h.2 p hp
section
variable {C:Cx} {Q:bE} {E:Env} {D:List Deferred} {G:Gh} {L:List World} {H:ad} {ops:Array Oper} {l:List Oper}
variable {d T ty f:Nat} {pos:String} {aE:Array Edge} {g:Option (Nat×Bool)} {x:Operand} {xs:List Operand} {vs:List Value} {eL:Array Nat} {fn:Func}
theorem tY{α:Type}{v:α->Value}{Hn:α->ad}{Φ:α->Prop}{Hz H0:ad}{ex:Exit}(z:α)(he:ex= .ret\/ex= .normal)(hr:fn.results=rs.toArray)(h:RS C (Gh.lent (λk=>k∈keys Hz)) L (Hn z++H0) E rs us)(hw:w∈L)(ho:qx (keys Hz) w.heap.size (Hn z++H0))(hv:MX us=v z)(J:Φ z):PJ C (bodyPost C.P fn (mO w (keys Hz) v Hn Φ)) ex E [] (Gh.lent (λk=>k∈keys Hz)) L (Hn z++H0):=
 bS he hr h λW hS=>⟨z,by rw[hv],(hS.links w hw).mono (λk hk hx=>by
  rcases hx with hx|hx
  ·exact hx
  ·obtain⟨p,hp,rfl⟩:=bU.1 hx;rcases ho.mem p hp with h|h
   ·exact h
   omega),J,λp hp=>⟨hS.own p (by simp[hp]),ho.mem p (by simp[hp])⟩,by
  have:=(vN _).1 hS.nodup;rw[gN,List.nodup_append]at this;exact(vN _).2 this.1⟩
theorem CR{α:Type}{v:α->Value}{Hn:α->ad}{Φ:α->Prop}{Hz H0:ad}(hH:H=Hz++H0)(hx:ev E x=some (.func (.func f) first.toArray cap.toArray))(aB:eV C.P f)(hw:nr ops E g=some true)(hN:Nat.blt d C.N=true)(ha:jy E xs=some vs)(jX:qu G L Hz)(hc:∀W,St G L (Hz++H0) W->Calls C.P f (first++vs++cap).toArray W (mO W (keys Hz) v Hn Φ))(k:∀z,Φ z->(∀p∈Hn z,p.1∈keys Hz\/(ah L p.1/\bN H p.1))->OJ C ops Q l ((d,v z)::E) D G L (Hn z++H0)):OJ C ops Q (⟨some d,.call ⟨.value x,xs.toArray,eL⟩,ty,pos,aE,g⟩::l) E D G L H:=by
 subst hH;exact nK rfl hw hx ha zI aB λa W jz hD hF hS=>(hc W hS).mono (by
  rintro ed W' ⟨z,rfl,hk,J,hn,hd⟩;refine k z J (λp hp=>?_) (a.put (some d) (v z)) W' z7 z5 (hF.put _ z6) (hS.swapZ hk jX hn hd);rcases(hn p hp).2 with h|h
  ·exact .inl h
  exact .inr ⟨CK hS h,DN hS h⟩)
theorem CJ.prm{c:Code}(hp:H.Perm H')(k:CJ C c Q E D G L H'):CJ C c Q E D G L H:=λa W hN hD hF hS=>k a W hN hD hF (hS.perm hp)
theorem nzd{p q:Nat×Obj}(hi:H[i]? =some p)(hj:H[j]? =some q)(J:i≠j)(k:p.1≠q.1->OJ C ops Q l E D G L H):OJ C ops Q l E D G L H:=
 λa W hN hD hF hS=>k (λe=>J (hS.nodup i j p q hi hj e)) a W hN hD hF hS
end
/-! ### equality of plain data -/
inductive TK where|i|b|s
def Q0:Value->Value->Bool
 | .int _ a,.int _ b=>a==b
 | .bool a,.bool b=>a==b
 | .string a,.string b=>a.toList==b.toList
 |_,_=>false
def U7:TK->Value->Value->Bool
 | .i,.int k _,.int k' _=>decide (k=k')
 | .b,.bool _,.bool _=>true
 | .s,.string _,.string _=>true
 |_,_,_=>false
def oY:List Value->List Value->Bool
 |x::xs,y::ys=>Q0 x y&&oY xs ys
 |_,_=>true
def kM:List TK->List Value->List Value->Bool
 |k::ks,x::xs,y::ys=>U7 k x y&&kM ks xs ys
 | [],[],[]=>true
 |_,_,_=>false
theorem IV{k:TK}{x y:Value}(h:U7 k x y=true):Q0 x x=true:=by cases k<;>cases x<;>cases y<;>simp_all[U7,Q0]
theorem nAm:∀{ks:List TK} {xs ys:List Value},kM ks xs ys=true->oY xs xs=true
 | [],[],_,_=>rfl
 |k::ks,x::xs,y::ys,h=>by
  simp only[kM,mT]at h;simp only[oY,IV h.1,nAm h.2,Bool.and_self]
 |_::_,[],_,_=>rfl
 |_::_,_::_,[],h=>by simp[kM]at h
 | [],_::_,_,h=>by simp[kM]at h
theorem nXh:∀{ks:List TK} {xs ys:List Value},kM ks xs ys=true->xs.length=ks.length/\ys.length=ks.length
 | [],[],[],_=>⟨rfl,rfl⟩
 |k::ks,x::xs,y::ys,h=>by
  simp only[kM,mT]at h;have:=nXh h.2;simp[this.1,this.2]
 | [],_::_,_,h=>by simp[kM]at h
 | [],[],_::_,h=>by simp[kM]at h
 |_::_,[],_,h=>by simp[kM]at h
 |_::_,_::_,[],h=>by simp[kM]at h
theorem nFd:∀{a b c d:List Value},a.length=c.length->oY (a++b) (c++d)=(oY a c&&oY b d)
 | [],b,[],d,_=>by simp[oY]
 |x::a,b,y::c,d,h=>by
  simp only[iv,oY];rw[nFd BT,Bool.and_assoc]
 | [],b,y::c,d,h=>by simp at h
 |x::a,b,[],d,h=>by simp at h
theorem nbg:∀{k1 k2:List TK} {a b c d:List Value},a.length=k1.length->c.length=k1.length->kM (k1++k2) (a++b) (c++d)=(kM k1 a c&&kM k2 b d)
 | [],k2,[],b,[],d,_,_=>by simp[kM]
 |k::k1,k2,x::a,b,y::c,d,h,J=>by
  simp only[iv,kM];rw[nbg BT (by simpa using J),Bool.and_assoc]
 | [],k2,x::a,b,c,d,h,J=>by simp at h
 | [],k2,[],b,y::c,d,h,J=>by simp at J
 |k::k1,k2,[],b,c,d,h,J=>by simp at h
 |k::k1,k2,x::a,b,[],d,h,J=>by simp at J
def u2 (P:Program) (k t:Nat) (ks:List TK):Prop:=∀(d:Nat) (xs ys:List Value) (w:World),kM ks xs ys=true->(Op.equalIn (d+k) t (.agg xs.toArray) (.agg ys.toArray)).run P w= .ok (oY xs ys) w
def mU (P:Program) (k t:Nat) (ks:List TK):Prop:=∀(d:Nat) (p1 c1 q1 p2 c2 q2:List Value) (w:World),p1.length=p2.length->kM ks c1 c2=true->
 ∃a b,(part t (p1++(c1++q1)).toArray p1.length).run P w= .ok a w/\(part t (p2++(c2++q2)).toArray p1.length).run P w= .ok b w/\(Op.equalIn (d+k) t a b).run P w= .ok (oY c1 c2) w
variable {ks:List TK}
theorem u2.up{k':Nat}(h:u2 P k t ks)(hk:k<=k'):u2 P k' t ks:=λd xs ys w h1=>by
 have:=h (d+(k'-k)) xs ys w h1;rwa[show d+(k'-k)+k=d+k' by omega]at this
theorem mU.up{k':Nat}(h:mU P k t ks)(hk:k<=k'):mU P k' t ks:=λd p1 c1 q1 p2 c2 q2 w h1 h2=>by
 have:=h (d+(k'-k)) p1 c1 q1 p2 c2 q2 w h1 h2;rwa[show d+(k'-k)+k=d+k' by omega]at this
theorem mU.one{k:TK}(hA:fb P t false)(h:∀(d:Nat) (v u:Value) (w:World),U7 k v u=true->(Op.equalIn (d+1) t v u).run P w= .ok (Q0 v u) w):mU P 1 t [k]:=by
 intro d p1 c1 q1 p2 c2 q2 w h1 h2
 match c1,c2,h2 with
 | [v],[u],h2=>
  simp only[kM,Bool.and_true]at h2;refine⟨v,u,by simp[part,hA w],by rw[h1];simp[part,hA w],?_⟩;rw[h d v u w h2];simp[oY]
 | [],_,h2=>simp[kM]at h2
 | [_],[],h2=>simp[kM]at h2
 |_::_::_,[],h2=>simp[kM]at h2
 | [_],_::_::_,h2=>simp[kM]at h2
 |_::_::_,_::_,h2=>simp[kM]at h2
theorem mU.int{K:IntKind}(hU:P.underlying t=some (.int K))(hA:fb P t false):mU P 1 t [.i]:=mU.one hA (by
 intro d v u w h;cases v<;>cases u<;>simp only[U7,Bool.false_eq_true]at h
 rename_i k a k' b;have:k=k':=by simpa using h
 subst this;rw[run_equalIn_int w d t k K a b hU];rfl)
theorem mU.bool(hU:P.underlying t=some .bool)(hA:fb P t false):mU P 1 t [.b]:=mU.one hA (by
 intro d v u w h;cases v<;>cases u<;>simp only[U7,Bool.false_eq_true]at h
 rw[run_equalIn_bool' w d t _ _ hU];rfl)
theorem mU.agg{n:Nat}(hA:fb P t true)(hZ:nL P t n)(hn:ks.length=n)(h:u2 P k t ks):mU P k t ks:=by
 intro d p1 c1 q1 p2 c2 q2 w h1 h2;have hl:=nXh h2;have J:∀(p c q:List Value),c.length=n->(p++(c++q)).toArray.extract p.length (p.length+n)=c.toArray:=by
  intro p c q hc;apply Array.ext';rw[Array.toList_extract,List.extract_eq_take_drop];simp only[Nat.add_sub_cancel_left];rw[List.drop_left' rfl,<-hc,QY rfl]
 refine⟨.agg c1.toArray,.agg c2.toArray,?_,?_,h d c1 c2 w h2⟩
 ·simp only[part,Sem.run_bind,hA w,hZ w,Result.andThen,if_true,Sem.run_pure];rw[J p1 c1 q1 aa]
 simp only[part,Sem.run_bind,hA w,hZ w,Result.andThen,if_true,Sem.run_pure];rw[h1,J p2 c2 q2 aa]
def pS (P:Program) (k:Nat):List Field->Nat->List TK->Prop
 | [],_,ks=>ks=[]
 |f::fs,off,ks=>∃k1 k2,ks=k1++k2/\f.offset=off/\(f.name≠ "_")/\mU P k f.type k1/\pS P k fs (off+k1.length) k2
theorem pS.n:pS P k [] off []:=rfl
theorem pS.c{f:Field}{fs:List Field}{k1 k2:List TK}(ho:f.offset=off)(hn:f.name≠ "_")(h:mU P k f.type k1)(t:pS P k fs (off+k1.length) k2):pS P k (f::fs) off (k1++k2):=⟨k1,k2,rfl,ho,hn,h,t⟩
theorem ndm{P:Program}{k:Nat}(d:Nat):∀(fs:List Field) (ks:List TK) (p1 c1 p2 c2:List Value) (w:World),p1.length=p2.length->pS P k fs p1.length ks->kM ks c1 c2=true->(Op.eqFields (d+k) (p1++c1).toArray (p2++c2).toArray fs).run P w= .ok (oY c1 c2) w
 | [],ks,p1,c1,p2,c2,w,_,h,hs=>by
  cases h
  match c1,c2,hs with
  | [],[],_=>simp[Op.eqFields,oY]
  |_::_,_,hs=>simp[kM]at hs
  | [],_::_,hs=>simp[kM]at hs
 |f::fs,ks,p1,c1,p2,c2,w,hp,h,hs=>by
  obtain⟨k1,k2,rfl,ho,hn,hf,ht⟩:=h;have hl:=nXh hs;simp only[cB]at hl;obtain⟨a1,b1,rfl,gb⟩:∃a b,c1=a++b/\a.length=k1.length:=⟨c1.take k1.length,c1.drop k1.length,(Ba _ _).symm,by simp;omega⟩;obtain⟨a2,b2,rfl,J⟩:∃a b,c2=a++b/\a.length=k1.length:=⟨c2.take k1.length,c2.drop k1.length,(Ba _ _).symm,by simp;omega⟩;rw[nbg gb J,mT]at hs;obtain⟨x,y,hx,hy,he⟩:=hf d p1 a1 b1 p2 a2 b2 w hp hs.1;have ih:=ndm d fs k2 (p1++a1) b1 (p2++a2) b2 w (by simp[hp,gb,J]) (by rw[cB,gb];exact ht) hs.2;simp only[iY]at ih;have hx':(part f.type (p1++(a1++b1)).toArray f.offset).run P w= .ok x w:=by rw[ho];exact hx
  have hy':(part f.type (p2++(a2++b2)).toArray f.offset).run P w= .ok y w:=by rw[ho];exact hy
  rw[nFd aa];simp only[Op.eqFields,if_pos hn,Sem.run_bind,hx',hy',he,Result.andThen];cases hq:oY a1 a2 with
  |false=>simp[Sem.run]
  |true=>
   simp only[Bool.not_true,Bool.false_eq_true,if_false,Bool.true_and];exact ih
theorem u2.struct{fs:List Field}(hU:P.underlying t=some (.struct fs.toArray))(hp:P.stoodInHeld t=false)(h:pS P k fs 0 ks):u2 P (k+1) t ks:=by
 intro d xs ys w hs;have hf:P.fieldsOf t=fs.toArray:=by simp[Program.fieldsOf,hU]
 rw[<-Nat.add_assoc,run_equalIn_struct w (d+k) t xs.toArray ys.toArray (by rw[hf];exact hU) hp,hf];exact ndm d fs ks [] xs [] ys w rfl h hs
def mH:Nat->List TK->List TK
 |0,_=>[]
 |n+1,ks=>ks++mH n ks
theorem u2.array{len e:Nat}(hU:P.underlying t=some (.array len e))(hZ:nL P e m)(hm:ks.length=m)(h:mU P k e ks):u2 P (k+1) t (mH len ks):=by
 intro d xs ys w hs;have key:∀(n i:Nat) (p1 c1 p2 c2:List Value),p1.length=i*m->p2.length=i*m->kM (mH n ks) c1 c2=true->
  (do
   for j in List.range' i n do
    if !(<-Op.equalIn (d+k) e (<-part e (p1++c1).toArray (j*m)) (<-part e (p2++c2).toArray (j*m)))then return false
   pure true:Sem Bool).run P w= .ok (oY c1 c2) w:=by
  intro n;induction n with
  |zero=>
   intro i p1 c1 p2 c2 _ _ hs
   match c1,c2,hs with
   | [],[],_=>simp[oY]
   |_::_,_,hs=>simp[mH,kM]at hs
   | [],_::_,hs=>simp[mH,kM]at hs
  |succ n ih=>
   intro i p1 c1 p2 c2 Gl Ss hs;have hl:=nXh hs;simp only[mH,cB]at hl;obtain⟨a1,b1,rfl,gb⟩:∃a b,c1=a++b/\a.length=ks.length:=⟨c1.take ks.length,c1.drop ks.length,(Ba _ _).symm,by simp;omega⟩;obtain⟨a2,b2,rfl,dL⟩:∃a b,c2=a++b/\a.length=ks.length:=⟨c2.take ks.length,c2.drop ks.length,(Ba _ _).symm,by simp;omega⟩;simp only[mH]at hs;rw[nbg gb dL,mT]at hs;obtain⟨x,y,hx,hy,he⟩:=h d p1 a1 b1 p2 a2 b2 w aa hs.1;rw[Gl]at hx hy;have J:=ih (i+1) (p1++a1) b1 (p2++a2) b2 (by rw[cB,Gl,gb,hm,qL];omega) (by rw[cB,Ss,dL,hm,qL];omega) hs.2;simp only[iY]at J;rw[nFd aa];simp only[List.range'_succ,List.forIn_cons,Sem.run_bind,hx,hy,he,Result.andThen]at J ⊢;cases hq:oY a1 a2 with
   |false=>simp[Sem.run]
   |true=>
    simp only[Bool.not_true,Bool.false_eq_true,if_false,Bool.true_and,Sem.run_pure];exact J
 have:=key len 0 [] xs [] ys zI zI hs;simp only[eY]at this;rw[<-Nat.add_assoc];simp only[Op.equalIn,Sem.run_bind,run_underlying hU,Result.andThen_ok,hZ w];all_goals simp_all
section
variable {C:Cx} {E:Env} {G:Gh} {L:List World} {H:ad} {T U:Nat} {x y:Operand}
section
variable {kR bs:Array Value}(h:u2 C.P k T ks)(hk:Nat.ble k 10000=true)(hg:C.P.eqGuardType C.P.depth T=false)(hx:ev E x=some (.agg kR))(hy:ev E y=some (.agg bs))(hs:kM ks kR.toList bs.toList=true)
include kR h hk hg hx hy hs
theorem hQ:RV C G L H E (.binOp .eql T x y U) (.bool (oY kR.toList bs.toList)):=λd ty pos aE g a W hF _=>by
 have h1:=h (10000-k) kR.toList bs.toList W hs;rw[show 10000-k+k=10000 by have:=er hk;omega]at h1;simp only[Array.toArray_toList]at h1;have h2:=run_eql_struct (P:=C.P) W T kR bs;rw[h1]at h2;have h3:=run_eqGuard_agg (P:=C.P) W .eql T x y kR bs hg;simp only[execOp,hF.ev hx,hF.ev hy,Sem.run_bind,h3,h2,Result.andThen];rfl
theorem dV:RV C G L H E (.binOp .neq T x y U) (.bool (!oY kR.toList bs.toList)):=λd ty pos aE g a W hF _=>by
 have h1:=h (10000-k) kR.toList bs.toList W hs;rw[show 10000-k+k=10000 by have:=er hk;omega]at h1;simp only[Array.toArray_toList]at h1;have h2:=run_neq_struct (P:=C.P) W T kR bs;rw[h1]at h2;have h3:=run_eqGuard_agg (P:=C.P) W .neq T x y kR bs hg;simp only[execOp,hF.ev hx,hF.ev hy,Sem.run_bind,h3,h2,Result.andThen];rfl
end
theorem n4n{T e:Nat}(hU:P.underlying T=some (.slice e))(n c:Nat)(d:Nat)(W:World):(Op.equalIn (d+1) T (.slice none n c) (.slice none 0 0)).run P W= .ok true W:=by
 simp[Op.equalIn,run_underlying hU]
theorem TZ{e:Nat}(hU:C.P.underlying T=some (.slice e))(hx:ev E x=some (.slice none 0 0))(hy:ev E y=some (.slice none 0 0)):RV C G L H E (.binOp .eql T x y U) (.bool true):=λd ty pos aE g a W hF _=>by
 have h1:(eqGuard .eql T x y (.slice none 0 0) (.slice none 0 0)).run C.P W= .ok () W:=by simp[eqGuard]
 have h2:(binOp .eql T (.slice none 0 0) (.slice none 0 0)).run C.P W= .ok (.bool true) W:=by
  have e:binOp .eql T (.slice none 0 0) (.slice none 0 0)=(do pure (.bool (<-Op.equalIn (9999+1) T (.slice none 0 0) (.slice none 0 0)))):=rfl;rw[e,Sem.run_bind,n4n hU];rfl
 exact zFh
end
theorem Xx(hK:P.underlying kt=some (.int .i64))(b:Bool)(k:Int):(Instr.checkKey b 10000 kt (.int .i64 k)).run P W= .ok () W:=by
 show(Instr.checkKey b (9999+1) kt (.int .i64 k)).run P W= .ok () W;generalize 9999=n;simp[Instr.checkKey,run_underlying hK]
theorem IW{c:Nat}(h:W.heap[b]? =some (.map es c)):(getObj b).run P W= .ok (.map es c) W:=by simp[getObj,Sem.run,h]
theorem Xy{c:Nat}(J:Obj)(h:W.heap[b]? =some (.map es c)):(setObj b J).run P W= .ok () (W.putObj b J):=by simp[setObj,Sem.run,h,World.putObj]
section
variable {C:Cx} {Q:bE} {E:Env} {D:List Deferred} {G:Gh} {L:List World} {H:ad} {ops:Array Oper} {l:List Oper}
variable {d T ty:Nat} {pos:String} {aE:Array Edge} {g:Option (Nat×Bool)} {x y z:Operand}
def bF (G:Gh) (L:List World) (H:ad) (b:Nat) (o:Obj):Prop:=∀W,St G L H W->W.heap[b]? =some o
theorem bF.own(hi:H[i]? =some (b,o)):bF G L H b o:=λ_ hS=>hS.own _ (cu hi)
theorem bF.old(hm:w∈L)(hb:w.heap[b]? =some o)(hG:¬G.X b)(hO:bN H b):bF G L H b o:=λ_ hS=>hS.old hm hb hG hO
end
def ai {α:Type} (enc:α->Array Value) (n N:Nat) (w:World) (a:Option Addr) (xs:List α):Prop:=
 xs=[]\/∃b off cs t fr,a=some ⟨b,off,none⟩/\b<N/\w.heap[b]? =some (.cells cs t fr)/\∀i (h:i<xs.length),off+i*n+n<=cs.size/\cut cs (off+i*n) n=enc xs[i]
section
variable {α:Type} {enc:α->Array Value} {n N N':Nat} {w w':World} {a:Option Addr} {xs:List α}
theorem ai.up(h:ai enc n N w a xs)(hN:N<=N')(hw:∀k,k<N->w'.heap[k]? =w.heap[k]?):ai enc n N' w' a xs:=by
 rcases h with h|⟨b,off,cs,t,fr,h1,h2,h3,h4⟩
 ·exact .inl h
 exact .inr ⟨b,off,cs,t,fr,h1,by omega,(hw b h2).trans h3,h4⟩
theorem ai.get(h:ai enc n N w a xs)(hx:0<xs.length):∃b off cs t fr,a=some ⟨b,off,none⟩/\b<N/\w.heap[b]? =some (.cells cs t fr)/\∀i (h:i<xs.length),off+i*n+n<=cs.size/\cut cs (off+i*n) n=enc xs[i]:=by
 rcases h with rfl|h
 ·simp at hx
 exact h
theorem ai.block(hb:b<N)(h:w.heap[b]? =some (.cells cs t fr))(hx:∀i (h:i<xs.length),i*n+n<=cs.size/\cut cs (i*n) n=enc xs[i]):ai enc n N w (some ⟨b,0,none⟩) xs:=
 .inr ⟨b,0,cs,t,fr,rfl,hb,h,λi hi=>by rw[mx];exact hx i hi⟩
end
theorem vB{n:Nat}{r:Array Value}(h:cut cs k n=r)(j:Nat)(hj:j<n):cs[k+j]? =r[j]? :=by grind [cut]
section
variable {α:Type} {enc:α->Array Value} {n off:Nat} {cs:Array Value} {xs:List α}
section
variable (h:∀i (h:i<xs.length),off+i*n+n<=cs.size/\cut cs (off+i*n) n=enc xs[i]){x:α}(hj:xs[j]? =some x){i:Int}(hi:i=(j:Int))
include h hj hi
theorem uA(k:Nat)(hk:k<n):cs[off+i.toNat*n+k]? =(enc x)[k]? :=by
 obtain⟨h1,h2⟩:=hJ.1 hj;subst hi;rw[xU,vB (h j h1).2 k hk,h2]
theorem nJ(hn:0<n):cs[off+i.toNat*n]? =(enc x)[0]? :=by
 have:=uA h hj hi 0 hn;rwa[Nat.add_zero]at this
theorem dY:cut cs (off+i.toNat*n) n=enc x:=by grind
theorem de:off+i.toNat*n+n<=cs.size:=by grind
end
end
def encI (x:Int):Array Value:=#[.int .i64 x]
theorem np{α:Type}{xs:List α}{x:α}(h:xs[j]? =some x):xs.take (j+1)=xs.take j++[x]:=by
 obtain⟨h1,h2⟩:=hJ.1 h;rw[Oh h1,h2]
theorem ng{α:Type}(xs:List α)(j:Nat)(h:j<xs.length):∃x,xs[j]? =some x:=⟨_,ll h⟩
theorem nq{α:Type}{xs:List α}{x:α}(h:xs[j]? =some x):j<xs.length:=(hJ.1 h).1
section
variable {C:Cx} {Q:bE} {fn:Func} {R:Ending->World->Prop} {E:Env} {D:List Deferred} {G:Gh} {L L':List World} {H:ad} {e:Exit}
theorem B7(h:∀w∈L',w∈L)(k:PJ C Q e E D G L' H):PJ C Q e E D G L H:=λa W hN hD hF hS=>k a W hN hD hF (hS.lessL h)
end
section
variable {C:Cx} {E:Env} {G:Gh} {L:List World} {H:ad} {T:Nat} {x y:Operand}
end
theorem RK{C:Cx}{E:Env}{T U:Nat}{y:Operand}{a b:Bool}(hU:C.P.underlying T=some .bool)(hx:ev E x=some (.bool a))(hy:ev E y=some (.bool b)):RV C G L H E (.binOp .eql T x y U) (.bool (a==b)):=λd ty pos aE g ac W hF _=>by
 have h1:(Op.equalIn (9999+1) T (.bool a) (.bool b)).run C.P W= .ok (a==b) W:=by
  generalize 9999=n;simp[Op.equalIn,run_underlying hU]
 have h2:(binOp .eql T (.bool a) (.bool b)).run C.P W= .ok (.bool (a==b)) W:=by
  have e:binOp .eql T (.bool a) (.bool b)=(do pure (.bool (<-Op.equalIn (9999+1) T (.bool a) (.bool b)))):=rfl;rw[e,Sem.run_bind,h1];rfl
 have h3:(eqGuard .eql T x y (.bool a) (.bool b)).run C.P W= .ok () W:=by simp[eqGuard]
 simp only[execOp,hF.ev hx,hF.ev hy,Sem.run_bind,h3,h2,Result.andThen];rfl
section
variable {H:Type} {enc:TypeId×Value->H} {P:Program} {w:World} {held:Bool}
end
/-! ### rows of elements: a list that grows from nil -/
/-- the cells of a list of elements -/
def iE {α:Type} (enc:α->List Value) (xs:List α):List Value:=xs.flatMap enc
theorem sP{α:Type}{enc:α->List Value}(h:∀x,(enc x).length=m)(xs:List α):(iE enc xs).length=xs.length*m:=by induction xs<;>grind [iE]
theorem OF{α:Type}(enc:α->List Value)(xs ys:List α):iE enc (xs++ys)=iE enc xs++iE enc ys:=by simp[iE]
theorem N3{α:Type}(enc:α->List Value)(x:α):iE enc [x]=enc x:=by simp[iE]
theorem ZO{α:Type}{enc:α->List Value}{m:Nat}(h:∀x,(enc x).length=m):∀(xs:List α) (sp:List Value) (i:Nat) (hi:i<xs.length),((iE enc xs++sp).drop (i*m)).take m=enc xs[i]
 | [],_,i,hi=>by simp at hi
 |x::xs,sp,0,_=>by
  simp only[iE,VB,Nat.zero_mul,Pt,iY,List.getElem_cons_zero];rw[QY (h x)]
 |x::xs,sp,i+1,hi=>by
  have:=ZO h xs sp i (by simpa using hi);simp only[iE,VB,iY,List.getElem_cons_succ]at *;rw[show(i+1)*m=m+i*m by rw[qL];omega,<-Wz,List.drop_left' (h x)];exact this
theorem IX{α:Type}{enc:α->List Value}(h:∀x,∀u∈enc x,u.oneCell'=true)(xs:List α):∀u∈iE enc xs,u.oneCell'=true:=by
 intro u hu;obtain⟨x,_,hx⟩:=uL.1 hu;exact h x u hx
inductive Rw where
 |nil
 |row (b cap:Nat) (sp:List Value)
def Rw.val (n:Nat):Rw->Value
 | .nil=>.slice none 0 0
 | .row b cap _=>.slice (some ⟨b,0,none⟩) n cap
theorem Rw.val_cells(n:Nat)(r:Rw):(r.val n).cells=#[r.val n]:=by cases r<;>rfl
theorem Rw.val_size(n:Nat)(r:Rw):(r.val n).cells.size=1:=by cases r<;>rfl
theorem Rw.val_one(n:Nat)(r:Rw):bG (r.val n).cells.toList=true:=by cases r<;>rfl
abbrev bj {α:Type} (enc:α->List Value) (t:Nat) (xs:List α) (sp:List Value):Obj:=.cells (iE enc xs++sp).toArray t (0,0)
def Rw.hp {α:Type} (enc:α->List Value) (t:Nat) (xs:List α):Rw->ad
 | .nil=>[]
 | .row b _ sp=>[(b,bj enc t xs sp)]
def Rw.Fit {α:Type} (m:Nat) (xs:List α):Rw->Prop
 | .nil=>xs=[]
 | .row _ cap sp=>xs.length<=cap/\sp.length=(cap-xs.length)*m
def Rw.Fr (G:Gh) (L:List World):Rw->Prop
 | .nil=>True
 | .row b _ _=>Px.Fr G L b
def Rw.ge (n:Nat):Rw->Prop
 | .nil=>True
 | .row b _ _=>n<=b
def Rw.isAt (k:Nat):Rw->Prop
 | .nil=>False
 | .row b _ _=>b=k
variable {r:Rw}
theorem Rw.Fr_at(h:r.Fr G L)(hk:r.isAt k):Px.Fr G L k:=by
 cases r with
 |nil=>exact hk.elim
 |row b cap sp=>cases hk;exact h
theorem Rw.ge_at{n:Nat}(h:r.ge n)(hk:r.isAt k):n<=k:=by
 cases r with
 |nil=>exact hk.elim
 |row b cap sp=>cases hk;exact h
def Rw.At {α:Type} (enc:α->List Value) (t:Nat) (xs:List α) (w:World):Rw->Prop
 | .nil=>True
 | .row b _ sp=>w.heap[b]? =some (bj enc t xs sp)
theorem Rw.mem_at{α:Type}{enc:α->List Value}{xs:List α}(hk:r.isAt k):k∈(r.hp enc t xs).map (·.1):=by
 cases r with
 |nil=>exact hk.elim
 |row b cap sp=>cases hk;simp[Rw.hp]
theorem Rw.off_ge{α:Type}{enc:α->List Value}{n:Nat}{xs:List α}(h:r.ge n)(hk:k<n):bN (r.hp enc t xs) k:=by
 cases r with
 |nil=>trivial
 |row b cap sp=>exact⟨by have:n<=b:=h;omega,trivial⟩
theorem Rw.ge_mono{n J:Nat}(h:r.ge n)(hn:J<=n):r.ge J:=by
 cases r with
 |nil=>trivial
 |row b cap sp=>exact eB hn h
theorem Rw.over{α:Type}{enc:α->List Value}{n:Nat}{xs:List α}(h:r.ge n):Over n (r.hp enc t xs):=by
 cases r with
 |nil=>trivial
 |row b cap sp=>exact⟨h,trivial⟩
theorem iy:bN (H++H') k↔bN H k/\bN H' k:=by induction H<;>grind [bN]
theorem nC:Over k (H++H')↔Over k H/\Over k H':=by induction H<;>grind [Over]
theorem Fr.ge(h:Px.Fr G L b)(hX:¬G.X b)(hw:w∈L):w.heap.size<=b:=by
 rcases h with h|h
 ·exact absurd h hX
 exact h.mem w hw
theorem Rw.ge_of(h:r.Fr Gh.no L)(hw:w∈L):r.ge w.heap.size:=by
 cases r with
 |nil=>trivial
 |row b cap sp=>exact Fr.ge (G:=Gh.no) h zH hw
theorem Rw.mem_ge{α:Type}{enc:α->List Value}{n:Nat}{xs:List α}(h:r.ge n)(hk:k∈(r.hp enc t xs).map (·.1)):n<=k:=by
 cases r with
 |nil=>simp[Rw.hp]at hk
 |row b cap sp=>simp[Rw.hp]at hk;subst hk;exact h
structure jM (P:Program) (t e m:Nat):Prop where
 und:P.underlying t=some (.slice e)
 info:∃ti z,P.info? e=some ti/\ti.zero=some z/\ti.size=m/\z.cells.size=m/\ti.bytes<=100000
section
variable {C:Cx} {Q:bE} {E:Env} {D:List Deferred} {G:Gh} {L:List World} {H H0 H1:ad} {ops:Array Oper} {l:List Oper}
variable {d T ty f:Nat} {pos:String} {aE:Array Edge} {g:Option (Nat×Bool)} {x y:Operand} {xo:List Operand} {vs:List Value} {eL:Array Nat}
variable {α:Type} {enc:α->List Value} {m:Nat}
def ck (C:Cx) (G:Gh) (L:List World) (H:ad) (enc:α->List Value) (m tx:Nat) (sv:Value) (zs:List α):Prop:=pA C G L H m tx sv zs.length (iE enc zs)
theorem ck.at{J e' c:Nat}{zs:List α}(hm:∀x,(enc x).length=m)(h1:∀x,∀u∈enc x,u.oneCell'=true)(hU:C.P.underlying J=some (.slice e'))(hb:bF G L H b (.cells cs t fr))(hn:off+zs.length*m<=cs.size)(he:(cs.toList.drop off).take (zs.length*m)=iE enc zs):ck C G L H enc m J (.slice (some ⟨b,off,none⟩) zs.length c) zs:=
 pA.sl hU (λW hS=>by rw[nNh (hb W hS) hn];unfold cut;rw[he]) (sP hm zs) (IX h1 zs)
theorem ck.one{J e' c:Nat}{z:α}(hm:∀x,(enc x).length=m)(h1:∀x,∀u∈enc x,u.oneCell'=true)(hU:C.P.underlying J=some (.slice e'))(hb:bF G L H b (.cells (enc z).toArray t fr)):ck C G L H enc m J (.slice (some ⟨b,0,none⟩) 1 c) [z]:=
 ck.at (zs:=[z]) hm h1 hU hb (by simp[hm]) (by simp only[Pt,List.length_singleton,Nat.one_mul,N3];rw[<-hm z];exact ur)
theorem jV{e tx:Nat}{xs zs:List α}(hH:H=H0++(r.hp enc e xs++H1))(hT:jM C.P t e m)(hm:∀x,(enc x).length=m)(hw:nr ops E g=some true)(hN:Nat.blt d C.N=true)(hx:ev E x=some (r.val xs.length))(hy:ev E y=some sv)(hs:ck C G L H enc m tx sv zs)(hr:r.Fit m xs)(hf:r.Fr G L)(h0:0<zs.length)(jt:xs.length+zs.length<=1000000)(k:∀(b' J:Nat) (bZ:List Value),(r.isAt b'\/ah L b')->(Rw.row b' J bZ).Fit m (xs++zs)->OJ C ops Q l ((d,.slice (some ⟨b',0,none⟩) (xs++zs).length J)::E) D G L (H0++((b',bj enc e (xs++zs) bZ)::H1))):OJ C ops Q (⟨some d,.call ⟨.builtin .append,#[x,y],#[t,tx]⟩,ty,pos,aE,g⟩::l) E D G L H:=
 rn zI hw hN λa W hF hS=>by
  obtain⟨ti,z,qX,hz,lj,AV,rj⟩:=hT.info;have hl:(xs++zs).length=xs.length+zs.length:=cB;have hB:(xs.length+zs.length)*ti.bytes<=140737488355328:=eB (Nat.mul_le_mul jt rj) zz;cases r with
  |nil=>
   have tF:xs=[]:=hr;subst tF;rw[fJ,mx]at hB;obtain⟨J,bZ,W',gw,ij,AG,kJ⟩:=hS.appN (P:=C.P) (ty:=ty) hT.und qX hz lj AV (hs.src hS) h0 aa hB;refine⟨.slice (some ⟨W.heap.size,0,none⟩) zs.length J,W',L,H0++((W.heap.size,bj enc e ([]++zs) bZ)::H1),?_,?_,?_⟩
   ·have Xs:ev E x=some (.slice none 0 0):=hx;simp[execOp,hF.ev Xs,hF.ev hy,resolve,invoke,Deferred.ofValue,builtin,gw]
   ·rw[hH]at ij;exact ij.perm (by simpa[Rw.hp,eY]using List.perm_middle.symm)
   exact k _ _ _ (.inr hS.sizes) ⟨by simpa using AG,by simpa using kJ⟩
  |row b cap sp=>
   obtain⟨hc,wG⟩:=hr;have hi:H[H0.length]? =some (b,.cells (iE enc xs++sp).toArray e (0,0)):=by rw[hH];simp[Rw.hp]
   obtain⟨b',J,bZ,W',gw,ij,eQ,AG,kJ⟩:=hS.app (P:=C.P) (ty:=ty) hi hT.und qX hz lj AV (hs.src hS) (sP hm xs) wG hc hf aa hB;have a6:(Rw.row b cap sp).isAt b'\/ah L b':=by
    rcases eQ with rfl|eQ
    ·exact .inl rfl
    exact .inr (CK hS eQ)
   refine⟨.slice (some ⟨b',0,none⟩) (xs.length+zs.length) J,W',L,_,?_,ij,?_⟩
   ·have Xs:ev E x=some (.slice (some ⟨b,0,none⟩) xs.length cap):=hx;simp[execOp,hF.ev Xs,hF.ev hy,resolve,invoke,Deferred.ofValue,builtin,gw]
   have:=k b' J bZ a6 ⟨by rw[hl];exact AG,by rw[hl];exact kJ⟩;rw[hl]at this;rw[hH];simpa[Rw.hp,bj,OF]using this
theorem Rw.sl{xs:List α}(hm:∀x,(enc x).length=m)(hr:r.Fit m xs)(hA:r.At enc t xs w)(hN:w.heap.size<=N):∃a cap,r.val xs.length= .slice a xs.length cap/\ai (λx=>(enc x).toArray) m N w a xs:=by
 cases r with
 |nil=>
  have tF:xs=[]:=hr;subst tF;exact⟨none,0,rfl,.inl rfl⟩
 |row b cap sp=>
  have J:w.heap[b]? =some (bj enc t xs sp):=hA;refine⟨_,_,rfl,ai.block (qF (bB.1 J).1 hN) J λi hi=>⟨?_,?_⟩⟩
  ·have h1:(i+1)*m<=xs.length*m:=wh _ hi;rw[qL]at h1;simp only[rf,cB,sP hm];omega
  unfold cut;rw[ZO hm xs sp i hi]
def aD (w:World) (enc:α->List Value) (m t:Nat) (xs:List α) (v:Value->Value):Ending->World->Prop:=λe w'=>
 ∃r:Rw,e= .returned (v (r.val xs.length))/\Below w.heap.size w w'/\r.ge w.heap.size/\r.Fit m xs/\r.At enc t xs w'
section
variable {xs:List α}(hx:ev E fv=some (.func (.func f) first.toArray cap.toArray))(aB:eV C.P f)(hw:nr ops E g=some true)(hN:Nat.blt d C.N=true)(ha:jy E xo=some vs)
include hx aB hw hN ha
theorem Jh(hc:∀W,St G L H W->Calls C.P f (first++vs++cap).toArray W (aD W enc m t xs v))(k:∀r:Rw,r.Fr G L->r.Fit m xs->OJ C ops Q l ((d,v (r.val xs.length))::E) D G L (r.hp enc t xs++H)):OJ C ops Q (⟨some d,.call ⟨.value fv,xo.toArray,eL⟩,ty,pos,aE,g⟩::l) E D G L H:=
 nK rfl hw hx ha zI aB λa W jz hD hF hS=>(hc W hS).mono (by
  rintro ed W' ⟨r,rfl,hb,J,bQ,fF⟩;refine k r ?_ bQ (a.put (some d) (v (r.val xs.length))) W' z7 z5 (hF.put _ z6) ?_
  ·cases r with
   |nil=>trivial
   |row b cap sp=>exact Fr.up hS J
  cases r with
  |nil=>exact hS.step hb
  |row b cap sp=>exact(hS.step hb).adopt fF (DN hS J) (λhv=>by have:=hS.vlt _ hv;have:W.heap.size<=b:=J;omega))
theorem nH(hm:∀x,(enc x).length=m)(hc:∀W,St G L H W->Calls C.P f (first++vs++cap).toArray W (aD W enc m t xs v))(k:∀W a cp w1,St G L H W->Below W.heap.size W w1->ai (λx=>(enc x).toArray) m w1.heap.size w1 a xs->(∀b,a=some b->W.heap.size<=b.block)->OJ C ops Q l ((d,v (.slice a xs.length cp))::E) D G (w1::L) H):OJ C ops Q (⟨some d,.call ⟨.value fv,xo.toArray,eL⟩,ty,pos,aE,g⟩::l) E D G L H:=
 nK rfl hw hx ha zI aB λac W jz hD hF hS=>(hc W hS).mono (by
  rintro ed W' ⟨r,rfl,hb,J,bQ,fF⟩;obtain⟨a,cp,he,aI⟩:=r.sl hm bQ fF (aj _);have:=k W a cp W' hS hb aI (by
   intro b qP;cases r with
   |nil=>simp only[Rw.val,Value.slice.injEq]at he;rw[<-he.1]at qP;cases qP
   |row b' cap sp=>simp only[Rw.val,Value.slice.injEq]at he;rw[<-he.1]at qP;cases qP;exact J) (ac.put (some d) (v (.slice a xs.length cp))) W' z7 z5 (hF.put _ z6) (hS.step hb).snap
  rw[he];exact this)
end
theorem nQ{xs:List α}(he:e= .ret\/e= .normal)(hr:fn.results=rs.toArray)(h:RS C Gh.no L H E rs us)(hw:w∈L)(ho:Over w.heap.size H)(hv:MX us=v (r.val xs.length))(bQ:r.Fit m xs)(J:r.ge w.heap.size)(hH:H=H0++(r.hp enc t xs++H1)):PJ C (bodyPost C.P fn (aD w enc m t xs v)) e E [] Gh.no L H:=
 bS he hr h λW hS=>⟨r,by rw[hv],hS.base hw ho,J,bQ,by
  cases r with
  |nil=>trivial
  |row b cap sp=>exact hS.own (b,bj enc t xs sp) (by rw[hH];simp[Rw.hp])⟩
end
def aA (x:Int):List Value:=[.int .i64 x]
theorem nz(x:Int):(aA x).length=1:=rfl
theorem OE(x:Int):∀u∈aA x,u.oneCell'=true:=by intro u hu;simp[aA]at hu;subst hu;rfl
/-! ### iterators whose consumer lays blocks on the way -/
abbrev aJ:=Nat->Prop
def rm (V:aJ) (W1 W2:World):aJ:=λk=>V k\/(W1.heap.size<=k/\k<W2.heap.size)
def uS (P:Program) (f:Nat) (cap:List Value) {α:Type} (enc:α->List Value) (Pre Fin:List α->Prop) (MI RO:aJ) (W:World):Prop:=
 ∀(l:Nat) (M:aJ) (I:List α->aJ->World->Prop) (X:aJ->World->Prop),
  (∀k,M k->k<W.heap.size/\¬MI k/\¬RO k)->
  (∀pre V,gu (λk=>(k<W.heap.size/\¬MI k)\/V k) (I pre V))->(∀V,gu (λk=>(k<W.heap.size/\¬MI k)\/V k) (X V))->
  (∀pre x V W1,Pre (pre++[x])->(∀k,V k->W.heap.size<=k/\k<W1.heap.size)->I pre V W1->S0 P l (enc x).toArray W1 (λb W2=>aT (λk=>M k\/V k) W1 W2/\(if b then I (pre++[x]) (rm V W1 W2) W2 else X (rm V W1 W2) W2)))->
  I [] (λ_=>False) W->
  Calls P f (yv l::cap).toArray W (λe W'=>(∃v,e= .returned v)/\aT (λk=>M k\/MI k) W W'/\∃V,(∃xs,Fin xs/\I xs V W')\/X V W')
abbrev C2 {α:Type} (xs:List α):List α->Prop:=(· <+:xs)
abbrev Is {α:Type} (xs:List α):List α->Prop:=(· =xs)
theorem St.yield2{G':Gh}{W':World}(h:St G L H W)(hk:aT G.M W W')(hX:∀k,G.X k->G'.X k)(J:∀k,G'.X k->G.X k\/(W.heap.size<=k/\k<W'.heap.size))(hV:∀k,G'.V k->G.V k\/(W.heap.size<=k/\k<W'.heap.size))(hR:G'.R W'):St G' L H W' where
 ghost:=hR
 vlt:=λk hv=>by
  rcases hV k hv with h1|h1
  ·exact qF (h.vlt k h1) hk.size
  exact h1.2
 xlt:=λk hv=>by
  rcases J k hv with h1|h1
  ·exact qF (h.xlt k h1) hk.size
  exact h1.2
 links:=λw hw=>((h.links w hw).mono (Y:=λk=>G'.X k\/k∈H.map (·.1)) λk _ hx=>hx.imp (hX k) id).trans (hk.mono λk _ hm=>.inl (hX k (G.subX k hm)))
 own:=λp hp=>by rw[hk.block p.1 (h.lt p hp) (λhm=>h.apart p hp (G.sub _ hm))];exact h.own p hp
 nodup:=h.nodup
 apart:=λp hp hv=>by
  rcases hV _ hv with h1|h1
  ·exact h.apart p hp h1
  have:=h.lt p hp;omega
section
variable {C:Cx} {Q:bE} {E:Env} {D:List Deferred} {G:Gh} {L:List World} {H:ad} {ops:Array Oper} {l:List Oper}
variable {d ty:Nat} {pos:String} {aE:Array Edge} {g:Option (Nat×Bool)} {x:Operand} {xs:List Operand} {vs:List Value} {eL:Array Nat}
structure Next (G:Gh) (W W':World) (G':Gh):Prop where
 x:∀k,G.X k->G'.X k
 x':∀k,G'.X k->G.X k\/(W.heap.size<=k/\k<W'.heap.size)
 v:∀k,G'.V k->G.V k\/(W.heap.size<=k/\k<W'.heap.size)
 r:G'.R W'
theorem U8{y:Nat}(J T2:Gh->Prop)(hw:nr ops E g=some true)(hN:Nat.blt d C.N=true)(hx:ev E x=some (yv y))(ha:jy E xs=some vs)(hy:∀W,St G L H W->S0 C.P y vs.toArray W (λb W'=>aT G.M W W'/\∃G',(if b then J G' else T2 G')/\Next G W W' G'))(k1:∀G',J G'->OJ C ops Q l ((d,.bool true)::E) D G' L H)(k2:∀G',T2 G'->OJ C ops Q l ((d,.bool false)::E) D G' L H):OJ C ops Q (⟨some d,.call ⟨.value x,xs.toArray,eL⟩,ty,pos,aE,g⟩::l) E D G L H:=by
 intro a W jz hD hF hS;obtain⟨fn,tmps,assign,body,gw,p7⟩:=hy W hS;unfold wpListIn;rw[if_pos (BL hF hw)];refine⟨λ_ _=>trivial,?_⟩;have hr:(execOp a.eval ⟨some d,.call ⟨.value x,xs.toArray,eL⟩,ty,pos,aE,g⟩).run C.P W= .ok (.round y fn tmps assign body) W:=by
  have h2:(xs.toArray).map a.eval=vs.toArray:=by rw[DP,NL hF xs vs ha]
  simp only[execOp,resolve,hF.ev hx,Deferred.ofValue,h2];simp[invoke,gw]
 rw[Oper.semAt_eq _ _ _ zI,hr,Oper.uponIn_round];refine⟨by simp,(nSo p7).mono ?_⟩;rintro e W' ⟨b,rfl,hk,G',hT,hn⟩;have bQ:=λv=>hF.put (d:=d) v z6;have ij:=hS.yield2 hk hn.x hn.x' hn.v hn.r;cases b with
 |true=>exact k1 G' hT (a.put (some d) (.bool true)) W' z7 z5 (bQ _) ij
 |false=>exact k2 G' hT (a.put (some d) (.bool false)) W' z7 z5 (bQ _) ij
end
def dF {W:World} {MI RO M:aJ} (hM:∀k,M k->k<W.heap.size/\¬MI k/\¬RO k) (V:aJ) {R:World->Prop} (hR:gu (λk=>(k<W.heap.size/\¬MI k)\/V k) R):Gh where
 M:=λk=>M k\/V k
 V:=λk=>(k<W.heap.size/\¬MI k)\/V k
 R:=R
 X:=λk=>M k\/V k
 sub:=λk hk=>hk.imp (λh=>⟨(hM k h).1,(hM k h).2.1⟩) id
 subX:=λ_ hk=>hk
 stab:=hR
def Gh.ext (G:Gh) (Z:aJ):Gh:={G with X:=λk=>G.X k\/Z k,subX:=λk h=>.inl (G.subX k h)}
theorem Rw.Fr_ext{α:Type}{enc:α->List Value}{xs:List α}{Z:aJ}(h:∀p∈r.hp enc t xs,Z p.1):r.Fr (G.ext Z) L:=by
 cases r with
 |nil=>trivial
 |row b cap sp=>exact .inl (.inr (h (b,bj enc t xs sp) o8))
theorem Oi{MI RO M:aJ}(hM:∀k,M k->k<W.heap.size/\¬MI k/\¬RO k){R:World->Prop}(hR:gu (λk=>(k<W.heap.size/\¬MI k)\/(λ_=>False) k) R)(h0:R W)(ho:∀p∈H,W.heap[p.1]? =some p.2)(hd:lS H)(hm:∀p∈H,MI p.1):St (dF hM (λ_=>False) hR) [W] H W where
 ghost:=h0
 vlt:=λk hk=>by rcases hk with h|h;exact h.1;exact h.elim
 xlt:=λk hk=>by rcases hk with h|h;exact(hM k h).1;exact h.elim
 links:=λw hw=>by simp at hw;subst hw;exact aT.refl _ _
 own:=ho
 nodup:=hd
 apart:=λp hp hv=>by rcases hv with h|h;exact h.2 (hm p hp);exact h.elim
section
variable {C:Cx} {Q:bE} {E:Env} {D:List Deferred} {L:List World} {H:ad} {ops:Array Oper} {l:List Oper}
variable {d ty:Nat} {pos:String} {aE:Array Edge} {g:Option (Nat×Bool)} {x:Operand} {xs:List Operand} {vs:List Value} {eL:Array Nat}
variable {W0:World} {MI RO M:aJ} {hM:∀k,M k->k<W0.heap.size/\¬MI k/\¬RO k}
variable {I1 X1:aJ->World->Prop}
theorem BW{y:Nat}{V:aJ}{hI:gu (λk=>(k<W0.heap.size/\¬MI k)\/V k) I}(lM:∀V,gu (λk=>(k<W0.heap.size/\¬MI k)\/V k) (I1 V))(gk:∀V,gu (λk=>(k<W0.heap.size/\¬MI k)\/V k) (X1 V))(hV:∀k,V k->W0.heap.size<=k)(al:W0∈L)(hw:nr ops E g=some true)(hN:Nat.blt d C.N=true)(hx:ev E x=some (yv y))(ha:jy E xs=some vs)(hy:∀W1,(∀k,V k->W0.heap.size<=k/\k<W1.heap.size)->I W1->S0 C.P y vs.toArray W1 (λb W2=>aT (λk=>M k\/V k) W1 W2/\(if b then I1 (rm V W1 W2) W2 else X1 (rm V W1 W2) W2)))(k1:∀V2,(∀k,V2 k->W0.heap.size<=k)->OJ C ops Q l ((d,.bool true)::E) D (dF hM V2 (lM V2)) L H)(k2:∀V2,(∀k,V2 k->W0.heap.size<=k)->OJ C ops Q l ((d,.bool false)::E) D (dF hM V2 (gk V2)) L H):OJ C ops Q (⟨some d,.call ⟨.value x,xs.toArray,eL⟩,ty,pos,aE,g⟩::l) E D (dF hM V hI) L H:=by
 refine U8 (λG'=>∃V2,(∀k,V2 k->W0.heap.size<=k)/\G'=dF hM V2 (lM V2)) (λG'=>∃V2,(∀k,V2 k->W0.heap.size<=k)/\G'=dF hM V2 (gk V2)) hw hN hx ha (λW1 hS=>?_) (by rintro _ ⟨V2,h2,rfl⟩;exact k1 V2 h2) (by rintro _ ⟨V2,h2,rfl⟩;exact k2 V2 h2);obtain⟨fn,tmps,assign,body,gw,p7⟩:=hy W1 (λk hk=>⟨hV k hk,hS.xlt k (.inr hk)⟩) hS.ghost;have h0:W0.heap.size<=W1.heap.size:=(hS.links W0 al).size;have hv:∀W2 k,rm V W1 W2 k->W0.heap.size<=k:=λW2 k hk=>by
  rcases hk with hk|hk
  ·exact hV k hk
  omega
 refine⟨fn,tmps,assign,body,gw,p7.mono ?_⟩;rintro e W2 ⟨b,rfl,hk,hb⟩;refine⟨b,rfl,hk,?_⟩;have J:∀{p:aJ} (k:Nat),(p k\/rm V W1 W2 k)->(p k\/V k)\/(W1.heap.size<=k/\k<W2.heap.size):=λk h=>h.elim (λh=>.inl (.inl h)) (λh=>h.elim (λh=>.inl (.inr h)) .inr);cases b with
 |true=>exact⟨dF hM (rm V W1 W2) (lM _),⟨_,hv W2,rfl⟩,⟨λk h=>h.imp id .inl,λk h=>J (p:=M) k h,λk h=>J (p:=λk=>k<W0.heap.size/\¬MI k) k h,hb⟩⟩
 |false=>exact⟨dF hM (rm V W1 W2) (gk _),⟨_,hv W2,rfl⟩,⟨λk h=>h.imp id .inl,λk h=>J (p:=M) k h,λk h=>J (p:=λk=>k<W0.heap.size/\¬MI k) k h,hb⟩⟩
theorem BX{V:aJ}{hI:gu (λk=>(k<W0.heap.size/\¬MI k)\/V k) I}{α:Type}{Fin:List α->Prop}{J:List α->aJ->World->Prop}{X:aJ->World->Prop}(he:e= .ret\/e= .normal)(hr:fn.results=#[])(hw:W0∈L)(hV:∀k,V k->W0.heap.size<=k)(hH:∀k,k<W0.heap.size->k∈H.map (·.1)->MI k)(h:∀A,I A->(∃xs,Fin xs/\J xs V A)\/X V A):PJ C (bodyPost C.P fn (λe W'=>(∃v,e= .returned v)/\aT (λk=>M k\/MI k) W0 W'/\∃V,(∃xs,Fin xs/\J xs V W')\/X V W')) e E [] (dF hM V hI) L H:=by
 intro a W' _ hD _ hS;have key:bodyPost C.P fn (λe W'=>(∃v,e= .returned v)/\aT (λk=>M k\/MI k) W0 W'/\∃V,(∃xs,Fin xs/\J xs V W')\/X V W') .normal a W':=by
  refine⟨hD,.tuple #[],results_none hr _ _ _,⟨_,rfl⟩,(hS.links W0 hw).mono λk hk hx=>?_,V,h W' hS.ghost⟩;exact z9h
 exact z4h
end
/-! #### the consumer -/
section
variable {α:Type}
structure Loc (W1:World) (MI M V:aJ) (G':Gh) (Hc:ad):Prop where
 v:∀k,G'.V k->(k<W1.heap.size/\¬MI k)\/V k
 x:∀k,G'.X k->M k\/V k
 h:∀p∈Hc,M p.1\/V p.1
def rI2 (W1:World) (MI M:aJ) (L:List World) (Inv:List α->Gh->ad->Prop) (l:Nat) (rec:Loop) (bx:ad) (pre:List α) (V:aJ) (W:World):Prop:=
 ∃G' Hc,Inv pre G' Hc/\Loc W1 MI M V G' Hc/\St G' L (book Hc l rec bx) W
def rX2 (W1:World) (MI M:aJ) (L:List World) (eC:Code->Gh->ad->Prop) (l:Nat) (rec:Loop) (bx:ad) (V:aJ) (W:World):Prop:=
 ∃c G' Hc,eC c G' Hc/\Loc W1 MI M V G' Hc/\St G' L (book Hc l {rec with state:=.done,pending:=some c} bx) W
def nik (P:Program) (W1:World) (MI M:aJ) (L:List World) (V:aJ) (Wy:World) (Inv:List α->Gh->ad->Prop) (eC:Code->Gh->ad->Prop) (l:Nat) (rec:Loop) (bx:ad) (pre:List α):bE:=
 roundPost P l (λe W'=>∃b,e= .returned (.bool b)/\aT (λk=>M k\/V k) Wy W'/\(if b then rI2 W1 MI M L Inv l rec bx pre (rm V Wy W') W' else rX2 W1 MI M L eC l rec bx (rm V Wy W') W'))
structure AK (G:Gh) (H:ad) (L:List World) (Dk:Nat) (W1:World) (MI M V:aJ) (Wy:World) (G':Gh) (Hc:ad):Prop where
 loc:Loc W1 MI M V G' Hc
 m:∀k,M k->G.X k\/k∈H.map (·.1)\/k=Dk\/k=Dk+1
 m':∀k,k=Dk\/k=Dk+1->M k
 vge:∀k,V k->W1.heap.size<=k
 dk:Dk+1<W1.heap.size
 above:∀w∈L,w.heap.size<=Dk
theorem AK.z{Dk:Nat}{W1:World}{MI M V:aJ}{Wy:World}{G':Gh}{Hc:ad}(h:AK G H L Dk W1 MI M V Wy G' Hc)(hk:k<Dk)(hX:¬G.X k)(hH:k∉H.map (·.1))(J:¬G'.X k):¬(G'.ext (λk=>M k\/V k)).X k:=by
 rintro(hx|hx|hx)
 ·exact J hx
 ·rcases h.m k hx with hx|hx|hx|hx
  ·exact hX hx
  ·exact hH hx
  ·omega
  omega
 have:=h.vge k hx;have:=h.dk;omega
section
variable {C:Cx} {E:Env} {D:List Deferred} {G G' G2:Gh} {L:List World} {H Hc Hc2:ad} {W1 Wy:World} {MI M V:aJ} {Inv:List α->Gh->ad->Prop} {eC:Code->Gh->ad->Prop} {l Dk:Nat} {rec mr:Loop} {pre:List α}
structure N4 (G G' G2:Gh) (H Hc Hc2:ad) (L:List World) (Wy:World):Prop where
 gx:∀k,G.X k->G2.X k
 x:∀k,G2.X k->G'.X k\/Wy.heap.size<=k
 v:∀k,G2.V k->G'.V k\/Wy.heap.size<=k
 h:∀p∈Hc2,p.1∈Hc.map (·.1)\/Wy.heap.size<=p.1
 gone:∀p∈H,p.1∈Hc2.map (·.1)\/G2.X p.1\/ah L p.1
theorem N4.ok(he:N4 G G' G2 H Hc Hc2 L Wy)(hl:AK G H L Dk W1 MI M V Wy G' Hc)(mw:l=Dk+1){W':World}{o:Loop}(hS:St (G2.ext λk=>M k\/V k) (Wy::L) (book Hc2 l o (jj Dk)) W'):aT (λk=>M k\/V k) Wy W'/\Loc W1 MI M (rm V Wy W') G2 Hc2/\St G2 L (book Hc2 l o (jj Dk)) W':=by
 have Xz:∀p∈Hc,M p.1\/V p.1:=hl.loc.h;have J:∀k,k∈Hc.map (·.1)->M k\/V k:=λk hk=>by obtain⟨p,hp,rfl⟩:=bU.1 hk;exact Xz p hp
 have hb:∀k,k∈(book Hc2 l o (jj Dk)).map (·.1)↔k∈Hc2.map (·.1)\/k=Dk+1\/k=Dk:=λk=>by subst mw;simp[book]
 refine⟨(hS.links Wy A0).mono λk hk hx=>?_,⟨λk hv=>?_,λk hx=>?_,λp hp=>?_⟩,?_⟩
 ·rcases hx with(hx|hx)|hx
  ·rcases he.x k hx with h1|h1
   ·exact hl.loc.x k h1
   omega
  ·exact hx
  rcases(hb k).1 hx with hx|hx
  ·obtain⟨p,hp,rfl⟩:=bU.1 hx;rcases he.h p hp with h1|h1
   ·exact J _ h1
   omega
  exact .inl (hl.m' k hx.symm)
 ·rcases he.v k hv with h1|h1
  ·exact(hl.loc.v k h1).imp id .inl
  exact .inr (.inr ⟨h1,hS.vlt k hv⟩)
 ·rcases he.x k hx with h1|h1
  ·exact(hl.loc.x k h1).imp id .inl
  exact .inr (.inr ⟨h1,hS.xlt k (.inl hx)⟩)
 ·rcases he.h p hp with h1|h1
  ·exact(J _ h1).imp id .inl
  exact .inr (.inr ⟨h1,hS.lt p (by simp[book,hp])⟩)
 refine⟨hS.ghost,hS.vlt,λk hk=>hS.xlt k (.inl hk),λw hw=>(hS.links w (.tail _ hw)).mono λk hk hx=>?_,hS.own,hS.nodup,hS.apart⟩;rcases hx with(hx|hx|hx)|hx
 ·exact .inl hx
 ·rcases hl.m k hx with hx|hx|hx
  ·exact .inl (he.gx k hx)
  ·obtain⟨p,hp,rfl⟩:=bU.1 hx;rcases he.gone p hp with h1|h1|h1
   ·exact .inr ((hb _).2 (.inl h1))
   ·exact .inl h1
   have:=h1.mem w hw;omega
  exact .inr ((hb k).2 (.inr hx.symm))
 ·have:=hl.vge k hx;have:=hl.above w hw;have:=hl.dk;omega
 exact .inr hx
theorem VG{β:Type}{enc:β->List Value}{A J:ad}(hA:J.map (·.1)=A.map (·.1)){b' c n:Nat}{xs ys:List β}(hf:r.isAt b'\/n<=b'):∀p∈(J++((Rw.row b' c sp).hp enc t ys++[]):ad),p.1∈(A++(r.hp enc t xs++[]):ad).map (·.1)\/n<=p.1:=by grind [Rw.hp,Rw.mem_at]
theorem JZ{rec:Loop}(h1:rec.state= .ready)(h2:rec.pending=none):{({rec with state:=.busy}:Loop)with state:=.ready,pending:=none}=rec:=by cases rec;simp_all
theorem JY(hl:AK G H L Dk W1 MI M V Wy G' Hc)(J:l=Dk+1)(he:N4 G G' G2 H Hc Hc2 L Wy)(hr:{mr with state:=.ready,pending:=none}=rec)(hI:Inv pre G2 Hc2):PJ C (nik C.P W1 MI M L V Wy Inv eC l rec (jj Dk) pre) .normal E D (G2.ext λk=>M k\/V k) (Wy::L) (book Hc2 l mr (jj Dk)):=by
 intro a W hN hD hF hS;have ij:=hS.loop {mr with state:=.ready,pending:=none};obtain⟨h1,h2,h3⟩:=he.ok hl J ij;refine⟨_,W.putObj l (.loop {mr with state:=.ready,pending:=none}),run_endRound none hS.loopAt,true,rfl,h1,G2,Hc2,hI,h2,?_⟩;rw[hr]at h3 ⊢;exact h3
theorem nfl{c:Code}(hl:AK G H L Dk W1 MI M V Wy G' Hc)(mw:l=Dk+1)(J:N4 G G' G2 H Hc Hc2 L Wy)(he:(e= .ret/\c= .ret)\/∃id,e= .exit id/\c= .exit id)(hr:{mr with state:=.done,pending:=some c}={rec with state:=.done,pending:=some c})(hI:eC c G2 Hc2):PJ C (nik C.P W1 MI M L V Wy Inv eC l rec (jj Dk) pre) e E D (G2.ext λk=>M k\/V k) (Wy::L) (book Hc2 l mr (jj Dk)):=by
 intro a W hN hD hF hS;have ij:=hS.loop {mr with state:=.done,pending:=some c};obtain⟨h1,h2,h3⟩:=J.ok hl mw ij;have key:∃v w',(Instr.endRound l (some c)).run C.P W= .ok v w'/\∃b,Ending.returned v= .returned (.bool b)/\aT (λk=>M k\/V k) Wy w'/\(if b then rI2 W1 MI M L Inv l rec (jj Dk) pre (rm V Wy w') w' else rX2 W1 MI M L eC l rec (jj Dk) (rm V Wy w') w'):=by
  refine⟨_,W.putObj l (.loop {mr with state:=.done,pending:=some c}),run_endRound (some c) hS.loopAt,false,rfl,h1,c,G2,Hc2,hI,h2,?_⟩;rw[hr]at h3 ⊢;exact h3
 rcases he with⟨rfl,rfl⟩|⟨id,rfl,rfl⟩<;>exact key
end
theorem Q3{C:Cx}{Q:bE}{E:Env}{D:List Deferred}(h:∀W,St G L H W->PJ C Q e E D G L H):PJ C Q e E D G L H:=λa W hN hD hF hS=>h W hS a W hN hD hF hS
theorem VH{Hc:ad}{l Dk:Nat}{rec:Loop}(hS:St G L (book Hc l rec (jj Dk)) W):∀p∈Hc,p.1≠Dk/\p.1≠l:=by
 intro p hp;have h:=(vN _).1 hS.nodup;all_goals grind
def sw (P:Program) (f:Nat) (cap:List Value) {α:Type} (enc:α->List Value) (Pre Fin:List α->aJ->World->Prop) (MI RO:aJ) (W:World):Prop:=
 ∀(l:Nat) (M:aJ) (I:List α->aJ->World->Prop) (X:aJ->World->Prop),
  (∀k,M k->k<W.heap.size/\¬MI k/\¬RO k)->
  (∀pre V,gu (λk=>(k<W.heap.size/\¬MI k)\/V k) (I pre V))->(∀V,gu (λk=>(k<W.heap.size/\¬MI k)\/V k) (X V))->
  (∀pre x V W1,Pre (pre++[x]) (λk=>M k\/V k) W1->(∀k,V k->W.heap.size<=k/\k<W1.heap.size)->I pre V W1->S0 P l (enc x).toArray W1 (λb W2=>aT (λk=>M k\/V k) W1 W2/\(if b then I (pre++[x]) (rm V W1 W2) W2 else X (rm V W1 W2) W2)))->
  I [] (λ_=>False) W->
  Calls P f (yv l::cap).toArray W (λe W'=>(∃v,e= .returned v)/\aT (λk=>M k\/MI k) W W'/\∃V,(∃xs,Fin xs (λk=>M k\/V k) W'/\I xs V W')\/X V W')
variable {P:Program} {N:Nat} {Q:bE} {E:Env} {D:List Deferred} {G:Gh} {L:List World} {H0 H:ad} {g:Operand} {ps:Array Tmp} {assign body:Code} {f:Nat} {cap:List Value} {enc:α->List Value} {MI RO:aJ}
abbrev Xi (P:Program) (N:Nat) (ps:Array Tmp) (assign body:Code) (E:Env) (G:Gh) (H:ad) (L:List World) (enc:α->List Value) (MI:aJ) (Pre:List α->aJ->World->Prop) (Inv:List α->Gh->ad->Prop) (eC:Code->Gh->ad->Prop):Prop:=
 ∀(pre:List α) (x:α) (G':Gh) (Hc:ad) (l Dk:Nat) (rec:Loop) (W1:World) (M V:aJ) (Wy:World),rec.state= .ready->rec.pending=none->Pre (pre++[x]) (λk=>M k\/V k) Wy->Inv pre G' Hc->ah L Dk->l=Dk+1->l<Wy.heap.size->ah L Wy.heap.size->AK G H L Dk W1 MI M V Wy G' Hc->St G' L (book Hc l rec (jj Dk)) Wy->
  CJ ⟨P,some l,N⟩ assign (UW ⟨P,some l,N⟩ l body (nik P W1 MI M L V Wy Inv eC l rec (jj Dk) (pre++[x]))) ((ps.toList.zip (enc x)).reverse++E) [] (G'.ext λk=>M k\/V k) (Wy::L) (book Hc l rec (jj Dk))
abbrev Xj (P:Program) (N:Nat) (Q:bE) (E:Env) (D:List Deferred) (L:List World) (eC:Code->Gh->ad->Prop):Prop:=∀l Dk rec c G' Hc,ah L Dk->l=Dk+1->eC c G' Hc->CJ ⟨P,none,N⟩ c Q E (qW Dk::D) G' L (book Hc l rec (jj Dk))
abbrev RgD (P:Program) (N:Nat) (Q:bE) (E:Env) (D:List Deferred) (L:List World) (Fin:List α->Prop) (Inv:List α->Gh->ad->Prop):Prop:=∀xs l Dk rec G' Hc,Fin xs->ah L Dk->l=Dk+1->Inv xs G' Hc->PJ ⟨P,none,N⟩ Q .normal E (qW Dk::D) G' L (book Hc l rec (jj Dk))
abbrev Xh (G:Gh) (L:List World) (H:ad) (RO:aJ):Prop:=∀W,St G L H W->(∀k,RO k->k<W.heap.size/\k∉H.map (·.1)/\¬G.X k)
theorem CJ.rg{B:World->Prop}{Pre Fin:List α->aJ->World->Prop}(J:∀W,St G L H0 W->St G L H W/\B W/\∀k,MI k->k<W.heap.size/\ah L k/\k∉H.map (·.1)/\¬G.V k/\¬G.X k)(hg:ev E g=some (.func (.func f) #[] cap.toArray))(aB:eV P f)(qE:∀W W2,St G L H W->B W->Below W.heap.size W W2->sw P f cap enc Pre Fin MI RO W2)(pE:Xh G L H RO)(gW:∀x,(enc x).length=ps.size)(Inv:List α->Gh->ad->Prop)(eC:Code->Gh->ad->Prop)(h0:Inv [] G H)(HO:∀p∈ps.toList,p<N)(round:Xi P N ps assign body E G H L enc MI Pre Inv eC)(done:∀xs l Dk rec G' Hc (Z:aJ) (Wd:World),Fin xs Z Wd->(∀p∈book Hc l rec (jj Dk),Z p.1)->ah L Dk->l=Dk+1->Inv xs G' Hc->PJ ⟨P,none,N⟩ Q .normal E (qW Dk::D) G' (Wd::L) (book Hc l rec (jj Dk)))(stop:Xj P N Q E D L eC):CJ ⟨P,none,N⟩ (.rangeFunc g ps assign body) Q E D G L H0:=by
 intro a W hN hD hF Mf;obtain⟨hS,bQ,IY⟩:=J W Mf;refine wpIn_rangeFunc ?_;intro fn _;have lj:(W.alloc (.deferred (some []))).heap.size=W.heap.size+1:=by simp
 obtain⟨rec,p6⟩:∃rec:Loop,rec={state:=.ready,pending:=none,fn,tmps:=a.tmps,params:=ps,assign,body,defers:=W.heap.size}:=⟨_,rfl⟩;obtain⟨W1,P9⟩:∃W1,W1=(W.alloc (.deferred (some []))).alloc (.loop rec):=⟨_,rfl⟩;have su:St G L (book H (W.heap.size+1) rec (jj W.heap.size)) W1:=by
  have h1:=(hS.alloc (.deferred (some []))).alloc (.loop rec);rw[lj]at h1;rw[P9];exact h1.perm (List.perm_append_comm (l₁:=[_,_]) (l₂:=H))
 have bu:Below W.heap.size W W1:=by
  rw[P9];exact((Below.refl _ _).alloc (aj _) _).alloc zI _
 have db:W1.heap.size=W.heap.size+2:=by rw[P9];simp
 have he:(Instr.enterLoop fn a.tmps ps assign body (none:Option Nat)).run P W= .ok (W.heap.size+1,[qW W.heap.size]) W1:=by
  rw[P9,p6];exact run_enterLoop_outer _ _ _ _ _
 refine⟨W.heap.size+1,[qW W.heap.size],W1,{target:=.fn (.func f) cap.toArray,args:=#[yv (W.heap.size+1)]},W1,f,(yv (W.heap.size+1)::cap).toArray,W1,he,?_,λ_ _=>trivial,?_,by simp,?_⟩
 ·simp[resolve,hF.ev hg,Deferred.ofValue];rfl
 ·simp[invoke,aB _ W1]
 refine NJ.2 ?_
 let M:aJ:=λk=>G.X k\/k∈H.map (·.1)\/k=W.heap.size\/k=W.heap.size+1
 have N5:∀k,M k->k<W1.heap.size/\¬MI k/\¬RO k:=by
  rintro k (hk|hk|hk|hk)
  ·exact⟨su.xlt k hk,λh=>(IY k h).2.2.2.2 hk,λh=>(pE W hS k h).2.2 hk⟩
  ·exact⟨by obtain⟨p,hp,rfl⟩:=bU.1 hk;have:=hS.lt p hp;omega,λh=>(IY k h).2.2.1 hk,λh=>(pE W hS k h).2.1 hk⟩
  ·exact zai
  exact zai
 have stab:∀{V:aJ} {G':Gh} {Hc:ad} {o:Loop},Loc W1 MI M V G' Hc->gu (λk=>(k<W1.heap.size/\¬MI k)\/V k) (St G' L (book Hc (W.heap.size+1) o (jj W.heap.size))):=by
  intro V G' Hc o qb A B hA ho ht KI XA hs sL;refine⟨G'.stab A B hA.ghost ho ht KI XA hs (λk hv=>sL k (qb.v k hv)),λk hv=>qF (hA.vlt k hv) hs,λk hv=>qF (hA.xlt k hv) hs,λw hw=>?_,λp hp=>?_,hA.nodup,hA.apart⟩
  ·have h1:=hA.links w hw;exact⟨ho.trans h1.os,ht.trans h1.tape,KI.trans h1.output,eB h1.drawn XA,eB h1.size hs,λk hk hx=>(sL k (.inl ⟨qF hk (su.links w hw).size,λhm=>by have:=(IY k hm).2.1.mem w hw;omega⟩)).trans (h1.block k hk hx)⟩
  have hq:M p.1\/V p.1:=by
   simp only[book,aY,cd,dZ,or_false]at hp;rcases hp with hp|rfl|rfl
   ·exact qb.h p hp
   ·exact .inl (.inr (.inr (.inr rfl)))
   exact .inl (.inr (.inr (.inl rfl)))
  rw[sL p.1 (hq.imp (λh=>⟨(N5 _ h).1,(N5 _ h).2.1⟩) id)];exact hA.own p hp
 have bx:Loc W1 MI M (λ_=>False) G H:=⟨λk hv=>.inl ⟨su.vlt k hv,λhm=>(IY k hm).2.2.2.1 hv⟩,λk hx=>.inl (.inl hx),λp hp=>.inl (.inr (.inl (bU.2 ⟨p,hp,rfl⟩)))⟩;have cb:∀x,(ps.zip (enc x).toArray).foldl (λtmps (p:Tmp×Value)=>match p with|(t,a)=>tmps.setIfInBounds t a) a.tmps=(ps.toList.zip (enc x)).foldl (λt (p:Nat×Value)=>t.setIfInBounds p.1 p.2) a.tmps:=by
  intro x;rw[<-Array.foldl_toList,Array.toList_zip]
 have bw:=qE W W1 hS bQ bu (W.heap.size+1) M (rI2 W1 MI M L Inv (W.heap.size+1) rec (jj W.heap.size)) (rX2 W1 MI M L eC (W.heap.size+1) rec (jj W.heap.size)) N5
  (λpre V A B hA ho ht KI XA hs sL=>by
   obtain⟨G',Hc,hi,qb,J⟩:=hA;exact⟨G',Hc,hi,qb,stab qb A B J ho ht KI XA hs sL⟩)
  (λV A B hA ho ht KI XA hs sL=>by
   obtain⟨c,G',Hc,hi,qb,J⟩:=hA;exact⟨c,G',Hc,hi,qb,stab qb A B J ho ht KI XA hs sL⟩)
  (λpre x V Wy eM hV hI=>by
   obtain⟨G',Hc,hi,qb,J⟩:=hI;have hy:=run_yield (P:=P) (args:=(enc x).toArray) J.loopAt (by simp[gW,p6]);refine⟨_,_,_,_,hy,roundIn_of_wpIn (F:=FW none) trivial ?_⟩;have DZ:W1.heap.size<=Wy.heap.size:=by
    have h1:=J.lt (W.heap.size+1,.loop rec) zI;simp only at h1;omega
   have dO:AK G H L W.heap.size W1 MI M V Wy G' Hc:=⟨qb,λk hk=>hk,λk hk=>.inr (.inr hk),λk hk=>(hV k hk).1,by omega,λw hw=>(hS.links w hw).size⟩;have bA:St (G'.ext λk=>M k\/V k) (Wy::L) (book Hc (W.heap.size+1) rec (jj W.heap.size)) Wy:=by
    refine⟨J.ghost,J.vlt,λk hk=>?_,λw hw=>?_,J.own,J.nodup,J.apart⟩
    ·rcases hk with hk|hk|hk
     ·exact J.xlt k hk
     ·exact qF (N5 k hk).1 DZ
     exact(hV k hk).2
    rcases cd.1 hw with rfl|hw
    ·exact aT.refl _ _
    exact(J.links w hw).mono λk _ hk=>hk.imp .inl id
   have hr:=round pre x G' Hc (W.heap.size+1) W.heap.size rec W1 M V Wy (by rw[p6]) (by rw[p6]) eM hi hS.sizes rfl (bB.1 J.loopAt).1 J.sizes dO J;have bz:rec.params=ps:=by rw[p6]
   have bZ:rec.assign=assign:=by rw[p6]
   have bL:rec.body=body:=by rw[p6]
   have b0:rec.tmps=a.tmps:=by rw[p6]
   rw[bZ,bL,b0,bz,cb x];have vo:=nUp (zs:=ps.toList.zip (enc x)) hF (λp hp=>by rw[hN];exact HO p.1 (List.of_mem_zip hp).1);exact hr _ Wy (by have:=vo.1;rw[hN]at this;exact this) rfl vo.2 bA)
  ⟨G,H,h0,bx,su⟩
 refine bw.mono ?_;rintro e W2 ⟨⟨v,rfl⟩,c4,V,⟨xs,ee,hI⟩|hX⟩
 ·obtain⟨G',Hc,hi,qb,J⟩:=hI;refine⟨rec.pending,_,run_endLoop J.loopAt (by rw[p6];simp),?_⟩;rw[show rec.pending=none by rw[p6]];exact done xs _ _ _ G' Hc _ _ ee (λp hp=>by simp only[book,aY,cd,dZ,or_false]at hp;rcases hp with hp|rfl|rfl;(exact qb.h p hp);(exact .inl (.inr (.inr (.inr rfl))));exact .inl (.inr (.inr (.inl rfl)))) hS.sizes rfl hi _ _ (by simpa using hN) (by simp[hD]) (λt v hv=>hF t v hv) (J.snap.loop _)
 obtain⟨c,G',Hc,hi,qb,J⟩:=hX;refine⟨some c,_,run_endLoop J.loopAt zI,?_⟩;exact stop _ _ _ c G' Hc hS.sizes rfl hi _ _ (by simpa using hN) (by simp[hD]) (λt v hv=>hF t v hv) (J.loop _)
theorem ncm{B:World->Prop}{Pre Fin:List α->Prop}(eX:∀W,St G L H0 W->St G L H W/\B W/\∀k,MI k->k<W.heap.size/\ah L k/\k∉H.map (·.1)/\¬G.V k/\¬G.X k)(hg:ev E g=some (.func (.func f) #[] cap.toArray))(aB:eV P f)(qE:∀W W2,St G L H W->B W->Below W.heap.size W W2->uS P f cap enc Pre Fin MI RO W2)(pE:Xh G L H RO)(gW:∀x,(enc x).length=ps.size)(Inv:List α->Gh->ad->Prop)(eC:Code->Gh->ad->Prop)(h0:Inv [] G H)(J:∀p∈ps.toList,p<N)(round:Xi P N ps assign body E G H L enc MI (λp _ _=>Pre p) Inv eC)(done:RgD P N Q E D L Fin Inv)(stop:Xj P N Q E D L eC):CJ ⟨P,none,N⟩ (.rangeFunc g ps assign body) Q E D G L H0:=
 CJ.rg (Pre:=λp _ _=>Pre p) (Fin:=λp _ _=>Fin p) eX hg aB qE pE gW Inv eC h0 J round (λxs l Dk rec G' Hc _ _ h1 _ h2 h3 h4 a W k1 k2 k3 k4=>done xs l Dk rec G' Hc h1 h2 h3 h4 a W k1 k2 k3 ⟨k4.ghost,k4.vlt,k4.xlt,λw hw=>k4.links w (.tail _ hw),k4.own,k4.nodup,k4.apart⟩) stop
theorem XI{Pre Fin:List α->Prop}(hg:ev E g=some (.func (.func f) #[] cap.toArray))(aB:eV P f)(qE:∀W W2,St G L H W->Below W.heap.size W W2->uS P f cap enc Pre Fin MI RO W2)(J:∀W,St G L H W->(∀k,MI k->k<W.heap.size/\ah L k/\k∉H.map (·.1)/\¬G.V k/\¬G.X k))(pE:Xh G L H RO)(gW:∀x,(enc x).length=ps.size)(Inv:List α->Gh->ad->Prop)(eC:Code->Gh->ad->Prop)(h0:Inv [] G H)(HO:∀p∈ps.toList,p<N)(round:Xi P N ps assign body E G H L enc MI (λp _ _=>Pre p) Inv eC)(done:RgD P N Q E D L Fin Inv)(stop:Xj P N Q E D L eC):CJ ⟨P,none,N⟩ (.rangeFunc g ps assign body) Q E D G L H:=
 ncm (B:=λ_=>True) (λW h=>⟨h,trivial,J W h⟩) hg aB (λW W2 h _ hb=>qE W W2 h hb) pE gW Inv eC h0 HO round done stop
theorem nap{Pre Fin:List α->Prop}(hi:H0[i]? =some (b,o))(hH:H0.eraseIdx i=H)(hb:ah L b)(al:¬G.X b)(hg:ev E g=some (.func (.func f) #[] cap.toArray))(aB:eV P f)(qE:∀W W2,St G L H W->W.heap[b]? =some o->Below W.heap.size W W2->uS P f cap enc Pre Fin (· =b) RO W2)(pE:Xh G L H RO)(gW:∀x,(enc x).length=ps.size)(Inv:List α->Gh->ad->Prop)(eC:Code->Gh->ad->Prop)(h0:Inv [] G H)(HO:∀p∈ps.toList,p<N)(round:Xi P N ps assign body E G H L enc (· =b) (λp _ _=>Pre p) Inv eC)(done:RgD P N Q E D L Fin Inv)(stop:Xj P N Q E D L eC):CJ ⟨P,none,N⟩ (.rangeFunc g ps assign body) Q E D G L H0:=by
 refine ncm (B:=λW'=>W'.heap[b]? =some o) (λW hS=>?_) hg aB qE pE gW Inv eC h0 HO round done stop;have hp:=PH H0 i _ hi;rw[hH]at hp;have J:=hS.perm hp;have Vi:=hS.own _ (cu hi);have hnd:=(vN _).1 J.nodup;rw[dP,List.nodup_cons]at hnd;refine⟨J.drop hb,Vi,λk hk=>?_⟩;subst hk;exact⟨(bB.1 Vi).1,hb,hnd.1,J.apart (k,o) zI,al⟩
theorem nPp{Pre Fin:List α->aJ->World->Prop}(hg:ev E g=some (.func (.func f) #[] cap.toArray))(aB:eV P f)(qE:∀W W2,St G L H W->Below W.heap.size W W2->sw P f cap enc Pre Fin MI RO W2)(J:∀W,St G L H W->(∀k,MI k->k<W.heap.size/\ah L k/\k∉H.map (·.1)/\¬G.V k/\¬G.X k))(pE:Xh G L H RO)(gW:∀x,(enc x).length=ps.size)(Inv:List α->Gh->ad->Prop)(eC:Code->Gh->ad->Prop)(h0:Inv [] G H)(HO:∀p∈ps.toList,p<N)(round:Xi P N ps assign body E G H L enc MI Pre Inv eC)(done:∀xs l Dk rec G' Hc (Z:aJ) (Wd:World),Fin xs Z Wd->(∀p∈book Hc l rec (jj Dk),Z p.1)->ah L Dk->l=Dk+1->Inv xs G' Hc->PJ ⟨P,none,N⟩ Q .normal E (qW Dk::D) G' (Wd::L) (book Hc l rec (jj Dk)))(stop:Xj P N Q E D L eC):CJ ⟨P,none,N⟩ (.rangeFunc g ps assign body) Q E D G L H:=
 CJ.rg (B:=λ_=>True) (λW h=>⟨h,trivial,J W h⟩) hg aB (λW W2 h _ hb=>qE W W2 h hb) pE gW Inv eC h0 HO round done stop
section
variable {C:Cx} {fn:Func} {R:Ending->World->Prop} {E:Env} {G:Gh} {L:List World} {H:ad} {enc:α->List Value} {m:Nat}
theorem EN{Dk u T tt ct:Nat}{uv:Value}{xs:List α}(he:e= .ret\/e= .normal)(hr:fn.results=#[.cell t T,.tmp u])(hA:fb C.P T false)(hx:look E t=some (ptr b 0))(hu:look E u=some uv)(hm:(Dk,.deferred (some []))∈H)(hb:(b,.cells cs ct fr)∈H)(hne:b≠Dk)(hv:cs[0]? =some (r.val xs.length))(bQ:r.Fit m xs)(J:∀p∈r.hp enc tt xs,p∈H/\p.1≠Dk)(jx:r.ge w.heap.size)(h:∀W H',St G L H' W->H'.map (·.1)=H.map (·.1)->Below w.heap.size w W):PJ C (bodyPostM (FW none) 0 C.P fn (aD w enc m tt xs (λs=>.tuple #[s,uv]))) e E [qW Dk] G L H:=
 B9 he hm λa W H' hF hS eX aX=>by
  obtain⟨i,hi⟩:=ju.1 (eX _ hb hne);refine⟨_,(RS.w (C:=C) hi hA hx hv (RS.t hu RS.n)).res hr hF hS,r,rfl,h W H' hS aX,jx,bQ,?_⟩;cases r with
  |nil=>trivial
  |row b' cap sp=>
   obtain⟨h1,h2⟩:=J (b',bj enc tt xs sp) o8;exact hS.own _ (eX _ h1 h2)
end
end
end Px
namespace Px
open Go Go.RowKit Go.Sort
/-! ### the library's sorts, over own rows -/
theorem n2k(w:World)(os:Array Obj):aT (λ_=>False) w (grow w os):=
 ⟨rfl,rfl,rfl,aj _,by simp[grow],λk hk _=>by simp only[grow];rw[WM hk]⟩
theorem nKg(w:World)(b:Nat)(f:Array Value->Array Value):aT (· =b) w (mapBlock w b f):=
 ⟨rfl,rfl,rfl,aj _,by simp[mapBlock],λk _ hk=>by
  simp only[mapBlock,awq];rw[if_neg (λe=>hk e.symm)]⟩
theorem nXi(w:World)(n:Nat):aT (λ_=>False) w (Sort.ahead w n):=⟨rfl,rfl,rfl,by simp[Sort.ahead],aj _,λ_ _ _=>rfl⟩
variable {cs:Array Value} {b t:Nat} {fr:Nat×Nat} {w:World}
theorem nJg(f:Array Value->Array Value)(h:w.heap[b]? =some (.cells cs t fr)):(mapBlock w b f).heap[b]? =some (.cells (f cs) t fr):=by
 simp only[mapBlock,awq,if_true,h];rfl
variable {sp:List Value}
theorem EO{xs:List Int}(h:w.heap[b]? =some (bj aA t xs sp)):Holds (Value.int .i64) w b 0 xs.toArray:=by
 intro j hj;have J:j<xs.length:=by simpa using hj
 refine⟨?_,by simp[World.frozen?,h]⟩;rw[Ll h,mx];have e:=ZO (enc:=aA) nz xs sp j J;rw[xR]at e;have e2:=congrArg (λl=>l[0]?) e;all_goals grind [aA]
variable {os:Array Obj}
theorem YD{n:Nat}{xs ys:List Int}(h:w.heap[b]? =some (bj aA t xs sp))(hl:ys.length=xs.length):aT (· =b) w (grow (putRow (Value.int .i64) (Sort.ahead w n) b 0 ys.toArray) os)/\(grow (putRow (Value.int .i64) (Sort.ahead w n) b 0 ys.toArray) os).heap[b]? =some (bj aA t ys sp):=by
 have hlt:=(bB.1 h).1;have k1:=(nXi w n).mono (Y:=(· =b)) (λ_ _ h=>h.elim);have k2:=nKg (Sort.ahead w n) b (putCells (Value.int .i64) 0 ys.toArray);have k3:=(n2k (mapBlock (Sort.ahead w n) b (putCells (Value.int .i64) 0 ys.toArray)) os).mono (Y:=(· =b)) (λ_ _ h=>h.elim);refine⟨(k1.trans k2).trans k3,?_⟩;have h2:=nJg (w:=Sort.ahead w n) (putCells (Value.int .i64) 0 ys.toArray) (show(Sort.ahead w n).heap[b]? =_ from h);have h3:(grow (putRow (Value.int .i64) (Sort.ahead w n) b 0 ys.toArray) os).heap[b]? =(mapBlock (Sort.ahead w n) b (putCells (Value.int .i64) 0 ys.toArray)).heap[b]? :=by
  simp only[grow,putRow];rw[WM];have:=(bB.1 h2).1;exact this
 rw[h3,h2];congr 2;apply Array.ext';apply C9;intro i;have hx:(iE aA xs).length=xs.length:=by rw[sP nz,xR]
 have hy:(iE aA ys).length=ys.length:=by rw[sP nz,xR]
 have key:∀(zs:List Int) (i:Nat),(iE aA zs)[i]? =(zs[i]?).map (Value.int .i64):=by
  intro zs;induction zs with
  |nil=>intro i;simp[iE]
  |cons z zs ih=>intro i;cases i with
   |zero=>simp[iE,aA]
   |succ i=>simpa[iE,aA]using ih i
 rw[OZ,OZ];simp only[putCells,Array.getElem?_mapIdx,Ez,cO,true_and,mx,rf,Nat.sub_zero];by_cases hi:i<ys.length
 ·rw[TI aa,TI aa,key,key];rw[ll (show i<xs.length by omega),ll hi];simp[hi]
 rw[aur aa,aur aa,hx,hy,hl];have:¬i<xs.length:=by omega
 cases sp[i-xs.length]?<;>simp[hl,this]
variable {k:Nat}
theorem nPk{α:Type}[Inhabited α]{enc:α->List Value}(hk:∀x,(enc x).length=k)(xs:List α):flatK enc k xs.toArray=(iE enc xs).toArray:=by
 apply Array.ext';apply List.ext_getElem (by simp[flatK,sP hk]);intro i h1 h2;have hi:i<xs.length*k:=by simpa[sP hk]using h2
 have k0:0<k:=Nat.pos_of_ne_zero (λh=>by subst h;simp at hi);have hj:i/k<xs.length:=Nat.div_lt_of_lt_mul (by rw[I7];exact hi);have e:=ZO hk xs [] (i/k) hj;rw[ec]at e;have hm:i%k<k:=Nat.mod_lt _ k0;have e2:=congrArg (λl=>l[i%k]?) e;simp only[R0 hm,R1]at e2;have e3:i/k*k+i%k=i:=by rw[I7];exact BV i k
 rw[e3]at e2;have e4:(iE enc xs)[i]? =some ((iE enc xs)[i]'Lb):=ll _;rw[e4]at e2;have e5:(xs.toArray[i/k]!)=xs[i/k]:=by simp[hj]
 simp only[flatK,Array.getElem_map,Array.toList_map,aAq,Array.getElem_toList,Array.getElem_range];rw[e5];have h6:(enc xs[i/k])[i%k]? =some ((enc xs[i/k])[i%k]'(by rw[hk];exact hm)):=ll _;rw[h6]at e2;have J:=Option.some.inj e2;rw[getElem!_pos (enc xs[i/k]) (i%k) (by rw[hk];exact hm),<-J]
variable {us:List Value}
theorem U9(h:w.heap[b]? =some (.cells (us++sp).toArray t (0,0))):Holds id w b 0 us.toArray:=by
 intro j hj;have J:j<us.length:=by simpa using hj
 refine⟨?_,by simp[World.frozen?,h]⟩;rw[Ll h,mx,Ez,TI J];simp[J]
variable {vs:List Value}
theorem aoJ{n:Nat}(h:w.heap[b]? =some (.cells (us++sp).toArray t (0,0)))(hl:vs.length=us.length):aT (· =b) w (grow (putRow id (Sort.ahead w n) b 0 vs.toArray) os)/\(grow (putRow id (Sort.ahead w n) b 0 vs.toArray) os).heap[b]? =some (.cells (vs++sp).toArray t (0,0)):=by
 have k1:=(nXi w n).mono (Y:=(· =b)) (λ_ _ h=>h.elim);have k2:=nKg (Sort.ahead w n) b (putCells id 0 vs.toArray);have k3:=(n2k (mapBlock (Sort.ahead w n) b (putCells id 0 vs.toArray)) os).mono (Y:=(· =b)) (λ_ _ h=>h.elim);refine⟨(k1.trans k2).trans k3,?_⟩;have h2:=nJg (w:=Sort.ahead w n) (putCells id 0 vs.toArray) (show(Sort.ahead w n).heap[b]? =_ from h);have h3:(grow (putRow id (Sort.ahead w n) b 0 vs.toArray) os).heap[b]? =(mapBlock (Sort.ahead w n) b (putCells id 0 vs.toArray)).heap[b]? :=by
  simp only[grow,putRow];rw[WM];exact(bB.1 h2).1
 rw[h3,h2];congr 2;apply Array.ext';apply C9;intro i;rw[OZ,OZ];simp only[putCells,Array.getElem?_mapIdx,Ez,cO,true_and,mx,rf,Nat.sub_zero];by_cases hi:i<vs.length
 ·rw[TI aa,TI aa];rw[ll (show i<us.length by omega),ll hi];simp[hi]
 rw[aur aa,aur aa,hl];have:¬i<us.length:=by omega
 cases sp[i-us.length]?<;>simp[hl,this]
theorem nnj{α:Type}[Inhabited α]{enc:α->List Value}(hk:∀x,(enc x).length=k){xs:List α}(h:w.heap[b]? =some (bj enc t xs sp)):HoldsK enc k w b 0 xs.toArray:=by
 unfold HoldsK;rw[nPk hk];exact U9 h
theorem ZS{α:Type}[Inhabited α]{enc:α->List Value}(hk:∀x,(enc x).length=k){n:Nat}{xs ys:List α}(h:w.heap[b]? =some (bj enc t xs sp))(hl:ys.length=xs.length):aT (· =b) w (Go.Proofs.sortWorldK enc k w b 0 n ys.toArray os)/\(Go.Proofs.sortWorldK enc k w b 0 n ys.toArray os).heap[b]? =some (bj enc t ys sp):=by
 unfold Go.Proofs.sortWorldK putRowK;rw[nPk hk];exact aoJ h (by rw[sP hk,sP hk,hl])
section
variable {C:Cx} {Q:bE} {E:Env} {D:List Deferred} {G:Gh} {L:List World} {H H0 H1:ad} {ops:Array Oper} {l:List Oper}
variable {d ty f:Nat} {pos:String} {aE:Array Edge} {g:Option (Nat×Bool)} {xo:List Operand} {vs:List Value} {eL:Array Nat}
variable {α:Type} {enc:α->List Value} {m:Nat}
variable {r:Rw}
theorem EU{xs ys:List α}(v:Rw->Value)(hH:H=H0++(r.hp enc t xs++H1))(aB:eV C.P f)(hw:nr ops E g=some true)(hN:Nat.blt d C.N=true)(ha:jy E xo=some vs)(an:r= .nil->∀W,St G L H W->Calls C.P f vs.toArray W (λe w'=>e= .returned (v .nil)/\ys=[]/\Below W.heap.size W w'))(uZ:∀b cap sp,r= .row b cap sp->∀W,St G L H W->W.heap[b]? =some (bj enc t xs sp)->Calls C.P f vs.toArray W (λe w'=>∃J,e= .returned (v (.row b cap J))/\aT (· =b) W w'/\(Rw.row b cap J).Fit m ys/\w'.heap[b]? =some (bj enc t ys J)))(k:∀r':Rw,r'.Fit m ys->(r.Fr G L->r'.Fr G L)->(∀n,r.ge n->r'.ge n)->(∀n,r'.val n=r.val n)->OJ C ops Q l ((d,v r')::E) D G L (H0++(r'.hp enc t ys++H1))):OJ C ops Q (⟨some d,.call ⟨.value (.func f),xo.toArray,eL⟩,ty,pos,aE,g⟩::l) E D G L H:=by
 cases r with
 |nil=>
  refine nK rfl hw rfl ha zI aB λa W jz hD hF hS=>(an rfl W hS).mono ?_;rintro e W' ⟨rfl,rfl,hb⟩;refine k .nil rfl id (λ_ h=>h) (λ_=>rfl) (a.put (some d) (v .nil)) W' z7 z5 (hF.put _ z6) ?_;rw[hH]at hS;exact hS.step hb
 |row b cap sp=>
  have hi:H[H0.length]? =some (b,bj enc t xs sp):=by rw[hH];simp[Rw.hp]
  refine nK rfl hw rfl ha zI aB λa W jz hD hF hS=>(uZ b cap sp rfl W hS (hS.own _ (cu hi))).mono ?_;rintro e W' ⟨J,rfl,hk,bQ,fF⟩;refine k (.row b cap J) bQ zH (λ_ h=>h) (λ_=>rfl) (a.put (some d) (v (.row b cap J))) W' z7 z5 (hF.put _ z6) ?_;have:=hS.put hi hk fF;rw[hH]at this;simpa[Rw.hp]using this
end
end Px
namespace Px
open Go Go.RowKit
/-! ### maps from numbers to values -/
section
variable {β:Type}
variable {i j:Nat}
theorem nDk{l:List Nat}(h:l.Nodup)(hi:i<l.length)(hj:j<l.length)(e:l[i]=l[j]):i=j:=by grind [List.Nodup,List.pairwise_iff_getElem]
def eU (k:Int):List (Int×β)->Nat->Option (Nat×β)
 | [],_=>none
 |p::l,i=>if p.1=k then some (i,p.2)else eU k l (i+1)
def aH (l:List (Int×β)) (k:Int):Option β:=(eU k l 0).map (·.2)
def dQ (l:List (Int×β)) (k:Int) (v:β):List (Int×β):=match eU k l 0 with|some (i,_)=>l.set i (k,v)|none=>l++[(k,v)]
def iu (l:List (Int×β)) (k:Int):List (Int×β):=match eU k l 0 with|some (i,_)=>l.eraseIdx i|none=>l
theorem n8i(k:Int):∀(l:List (Int×β)) (i j:Nat),eU k l (i+j)=(eU k l i).map λp=>(p.1+j,p.2)
 | [],_,_=>rfl
 |p::l,i,j=>by
  unfold eU;split
  ·rfl
  rw[show i+j+1=i+1+j by omega];exact n8i k l (i+1) j
theorem nlf(k:Int)(l:List (Int×β)):eU k l 1=(eU k l 0).map λp=>(p.1+1,p.2):=by
 have:=n8i k l 0 1;simpa using this
theorem nsf{k:Int}:∀{l:List (Int×β)} {i:Nat} {v:β},eU k l 0=some (i,v)->l[i]? =some (k,v)
 | [],_,_,h=>by simp[eU]at h
 |p::l,i,v,h=>by
  unfold eU at h;split at h
  ·rename_i e;simp at h;obtain⟨rfl,rfl⟩:=h;subst e;simp
  rw[nlf]at h;obtain⟨q,hq,e⟩:=wu.1 h;obtain⟨j,u⟩:=q;simp at e;obtain⟨rfl,rfl⟩:=e;simpa using nsf hq
theorem nff{k:Int}:∀{l:List (Int×β)} {i:Nat},eU k l i=none↔k∉l.map (·.1):=
 by intro x;induction x<;>(intros;grind [eU])
theorem nje{l:List (Int×β)}{k:Int}:aH l k=none↔k∉l.map (·.1):=by
 unfold aH;rw[Option.map_eq_none_iff];exact nff
theorem DM(p:Int×β)(l:List (Int×β))(k:Int):aH (p::l) k=if p.1=k then some p.2 else aH l k:=by
 unfold aH;conv=>lhs;rw[eU]
 split
 ·rfl
 rw[nlf];cases eU k l 0<;>rfl
theorem IZ(l J:List (Int×β))(k:Int):aH (l++J) k=(aH l k).or (aH J k):=by induction l<;>grind [aH,eU,DM]
theorem PD(l:List (Int×β))(k:Int)(v:β)(j:Int):aH (dQ l k v) j=if j=k then some v else aH l j:=by
 unfold dQ;cases hi:eU k l 0 with
 |none=>
  simp only;rw[IZ,DM];have h1:=nff.1 hi;by_cases e:j=k
  ·subst e;rw[nje.2 h1];simp
  rw[if_neg e,if_neg (λx=>e x.symm)];cases aH l j<;>simp[aH,eU]
 |some q=>
  obtain⟨i,u⟩:=q;simp only;induction l generalizing i with
  |nil=>simp[eU]at hi
  |cons p l ih=>
   unfold eU at hi;split at hi
   ·rename_i e;simp at hi;obtain⟨rfl,rfl⟩:=hi;simp only[dA];rw[DM,DM,e];exact zhi
   rename_i e;rw[nlf]at hi;obtain⟨q,hq,e3⟩:=wu.1 hi;obtain⟨j',u'⟩:=q;simp at e3;obtain⟨rfl,rfl⟩:=e3;simp only[eh];rw[DM,DM,ih j' hq];by_cases e2:j=k
   ·simp[e2,e]
   simp[e2]
theorem naq(l:List (Int×β))(k:Int)(v:β):(dQ l k v).map (·.1)=if k∈l.map (·.1)then l.map (·.1)else l.map (·.1)++[k]:=by
 unfold dQ;cases hi:eU k l 0 with
 |none=>rw[if_neg (nff.1 hi)];simp
 |some q=>
  obtain⟨i,u⟩:=q;have h1:=nsf hi;exact zbh
theorem nue{l:List (Int×β)}{k:Int}{v:β}(h:(l.map (·.1)).Nodup):((dQ l k v).map (·.1)).Nodup:=by grind [naq]
theorem nmi(l:List (Int×β))(k:Int):(iu l k).Sublist l:=by grind [iu]
theorem n1o{l:List (Int×β)}{k:Int}(h:(l.map (·.1)).Nodup):((iu l k).map (·.1)).Nodup:=(((nmi l k).map (·.1)).nodup h)
theorem nTm{l:List (Int×β)}(h:(l.map (·.1)).Nodup)(k j:Int):aH (iu l k) j=if j=k then none else aH l j:=by
 unfold iu;cases hi:eU k l 0 with
 |none=>
  simp only;split
  ·rename_i e;subst e;exact nje.2 (nff.1 hi)
  rfl
 |some q=>
  obtain⟨i,u⟩:=q;simp only;induction l generalizing i with
  |nil=>simp[eU]at hi
  |cons p l ih=>
   obtain⟨hn,hnd⟩:=List.nodup_cons.1 h;unfold eU at hi;split at hi
   ·rename_i e;simp at hi;obtain⟨rfl,rfl⟩:=hi;simp only[rK];rw[DM,e];split
    ·rename_i e2;subst e2;subst e;exact nje.2 hn
    rename_i e2;rw[if_neg (λx=>e2 x.symm)]
   rename_i e;rw[nlf]at hi;obtain⟨q,hq,e3⟩:=wu.1 hi;obtain⟨j',u'⟩:=q;simp at e3;obtain⟨rfl,rfl⟩:=e3;simp only[wL];rw[DM,DM,ih hnd j' hq];by_cases e2:j=k
   ·subst e2;simp[e]
   simp[e2]
structure Mp where
 bs:List Nat
 c:Nat
def pr (ev:β->Value) (l:List (Int×β)) (bs:List Nat):List MapEntry:=(l.zip bs).map λp=>{key:=.int .i64 p.1.1,val:=ev p.1.2,born:=p.2}
def Mp.obj (ev:β->Value) (l:List (Int×β)) (m:Mp):Obj:=.map (pr ev l m.bs).toArray m.c
structure Mp.Ok (l:List (Int×β)) (m:Mp):Prop where
 len:m.bs.length=l.length
 lt:∀b∈m.bs,b<m.c
 nd:m.bs.Nodup
 keys:(l.map (·.1)).Nodup
variable {bs:List Nat}
theorem Va{ev:β->Value}{l:List (Int×β)}(h:bs.length=l.length)(i:Nat):(pr ev l bs)[i]? =(l[i]?).map λp=>{key:=.int .i64 p.1,val:=ev p.2,born:=bs.getD i 0}:=by grind [pr]
theorem n0i(ev:β->Value)(k:Int):∀(l:List (Int×β)) (bs:List Nat) (i:Nat),bs.length=l.length->Instr.findNow (.int .i64) (.int .i64 k) (pr ev l bs) i=some ((eU k l i).map λp=>(p.1,ev p.2))
 | [],_,_,_=>rfl
 |p::l,[],_,h=>by simp at h
 |p::l,b::bs,i,h=>by
  have ih:=n0i ev k l bs (i+1) BT;simp only[pr,List.zip_cons_cons,dP,Instr.findNow,Instr.sameNow,if_true]at ih ⊢;unfold eU;by_cases e:p.1=k
  ·rw[if_pos e,show(k==p.1)=true by simp[e]];rfl
  rw[if_neg e,show(k==p.1)=false by simp;exact λx=>e x.symm];exact ih
variable {kt:Nat} {P:Program} {W:World}
theorem n9f(hK:P.underlying kt=some (.int .i64))(ev:β->Value)(k:Int){l:List (Int×β)}(h:bs.length=l.length):(Instr.findKey kt (.int .i64 k) (pr ev l bs)).run P W= .ok ((eU k l 0).map λp=>(p.1,ev p.2)) W:=by
 simp[Instr.findKey,run_underlying hK,n0i ev k l bs 0 h]
end
section
variable {C:Cx} {Q:bE} {E:Env} {D:List Deferred} {G:Gh} {L:List World} {H:ad} {ops:Array Oper} {l:List Oper}
variable {d T ty:Nat} {pos:String} {aE:Array Edge} {g:Option (Nat×Bool)} {x y z:Operand}
variable {β:Type} {ev:β->Value} {kv:List (Int×β)} {m:Mp}
theorem Mp.nil:(Mp.mk [] 0).Ok ([]:List (Int×β)):=⟨rfl,by simp,by simp,by simp⟩
theorem Mp.nil_obj:(Mp.mk [] 0).obj ev []= .map #[] 0:=rfl
variable {b et kt:Nat} {P:Program} {zv:Value} {W:World}
theorem n1i{k:Int}(c:Bool)(hU:P.underlying T=some (.map kt et))(hK:P.underlying kt=some (.int .i64))(hz:AF P et zv)(hm:m.Ok kv)(hb:W.heap[b]? =some (m.obj ev kv)):(Instr.lookup T (.map (some b)) (.int .i64 k) c).run P W= .ok (if c then .tuple #[((aH kv k).map ev).getD zv,.bool (aH kv k).isSome]else((aH kv k).map ev).getD zv) W:=by
 have eQ:W.heap[b]? =some (.map (pr ev kv m.bs).toArray m.c):=hb;have h1:=n9f (P:=P) (W:=W) hK ev k hm.len;have e:aH kv k=(eU k kv 0).map (·.2):=rfl;cases hi:eU k kv 0 with
 |none=>
  rw[hi]at h1;have e1:aH kv k=none:=by rw[e,hi];rfl
  cases c<;>simp[Instr.lookup,run_underlying hU,IW eQ,Xx hK,h1,hz W,e1]
 |some q=>
  rw[hi]at h1;have e1:aH kv k=some q.2:=by rw[e,hi];rfl
  cases c<;>simp[Instr.lookup,run_underlying hU,IW eQ,Xx hK,h1,e1]
section
variable {k:Int}(hU:C.P.underlying T=some (.map kt et))(hK:C.P.underlying kt=some (.int .i64))(hz:AF C.P et zv)(hm:m.Ok kv)(hb:bF G L H b (m.obj ev kv))(hx:Px.ev E x=some (.map (some b)))(hy:Px.ev E y=some (.int .i64 k))
include hU hK hz hm hb hx hy
theorem ri:RV C G L H E (.lookup T x y true) (.tuple #[((aH kv k).map ev).getD zv,.bool (aH kv k).isSome]):=λd ty pos aE g a W hF hS=>by
 have:=n1i (W:=W) (k:=k) true hU hK hz hm (hb W hS);simp[execOp,hF.ev hx,hF.ev hy,this]
theorem ov:RV C G L H E (.lookup T x y false) (((aH kv k).map ev).getD zv):=λd ty pos aE g a W hF hS=>by
 have:=n1i (W:=W) (k:=k) false hU hK hz hm (hb W hS);simp[execOp,hF.ev hx,hF.ev hy,this]
end
variable {i:Nat}
theorem OG{k:Int}{v:β}(hi:H[i]? =some (b,m.obj ev kv))(hm:m.Ok kv)(hU:C.P.underlying T=some (.map kt et))(hK:C.P.underlying kt=some (.int .i64))(hw:nr ops E g=some true)(hx:Px.ev E x=some (.map (some b)))(hy:Px.ev E y=some (.int .i64 k))(hz:Px.ev E z=some (ev v))(kk:∀m':Mp,m'.Ok (dQ kv k v)->OJ C ops Q l E D G L (H.set i (b,m'.obj ev (dQ kv k v)))):OJ C ops Q (⟨none,.mapUpdate T x y z,ty,pos,aE,g⟩::l) E D G L H:=by
 have h1:=λW:World=>n9f (P:=C.P) (W:=W) hK ev k hm.len;cases hk:eU k kv 0 with
 |none=>
  have e:dQ kv k v=kv++[(k,v)]:=by unfold dQ;rw[hk]
  have iU:(Mp.mk (m.bs++[m.c]) (m.c+1)).Ok (dQ kv k v):=by
   refine⟨by rw[e];simp[hm.len],λb hb=>?_,?_,nue hm.keys⟩
   ·exact z2h
   exact zOh
  refine NK rfl zI hw (λa W hF hS=>?_) (kk _ iU);have hb:=hS.own _ (cu hi);have hlt:b<W.heap.size:=(bB.1 hb).1;have eQ:W.heap[b]? =some (.map (pr ev kv m.bs).toArray m.c):=hb;refine⟨.skip,_,.inl rfl,?_,hS.put hi (JP W b _) (World.putObj_heap_same hlt)⟩;have h2:=h1 W;rw[hk]at h2;have e2:((pr ev kv m.bs).toArray.push {key:=.int .i64 k,val:=ev v,born:=m.c})=(pr ev (dQ kv k v) (m.bs++[m.c])).toArray:=by
   rw[e];apply Array.ext';simp only[pr,Array.toList_push];rw[List.zip_append hm.len.symm];simp
  simp[execOp,hF.ev hx,hF.ev hy,hF.ev hz,Instr.mapUpdate,run_underlying hU,IW eQ,Xx hK,h2,Xy _ eQ,e2,Mp.obj]
 |some q=>
  obtain⟨j,u⟩:=q;have e:dQ kv k v=kv.set j (k,v):=by unfold dQ;rw[hk]
  have iU:m.Ok (dQ kv k v):=⟨by rw[e];simp[hm.len],hm.lt,hm.nd,nue hm.keys⟩;refine NK rfl zI hw (λa W hF hS=>?_) (kk _ iU);have hb:=hS.own _ (cu hi);have hlt:b<W.heap.size:=(bB.1 hb).1;have eQ:W.heap[b]? =some (.map (pr ev kv m.bs).toArray m.c):=hb;refine⟨.skip,_,.inl rfl,?_,hS.put hi (JP W b _) (World.putObj_heap_same hlt)⟩;have h2:=h1 W;rw[hk]at h2;have h3:=nsf hk;have h4:=Va (ev:=ev) hm.len j;rw[h3]at h4;have J:((((pr ev kv m.bs).toArray[j]?).map (·.key)).getD (.int .i64 k))= .int .i64 k:=by simp[h4]
  have hs:Instr.sameBits 10000 (.int .i64 k) (.int .i64 k)=true:=by
   show Instr.sameBits (9999+1) _ _=true;generalize 9999=n;simp[Instr.sameBits]
  have e2:((pr ev kv m.bs).toArray.modify j λen=>{en with key:=.int .i64 k,val:=ev v})=(pr ev (dQ kv k v) m.bs).toArray:=by
   rw[e];apply Array.ext';apply C9;intro i';simp only[Array.toList_modify,List.getElem?_modify];rw[Va hm.len,Va (by simp[hm.len]),axr];exact zii
  simp only[execOp,hF.ev hx,hF.ev hy,hF.ev hz,Instr.mapUpdate,Sem.run_bind,run_underlying hU,Result.andThen,IW eQ,Xx hK,h2,KB,J,Instr.keyThatStays,hs,if_true,Sem.run_pure,Xy _ eQ,e2];rfl
theorem YJ{J:Nat}{k:Int}{d:Option Nat}(hd:d=none)(hi:H[i]? =some (b,m.obj ev kv))(hm:m.Ok kv)(hU:C.P.underlying T=some (.map kt et))(hK:C.P.underlying kt=some (.int .i64))(hw:nr ops E g=some true)(hx:Px.ev E x=some (.map (some b)))(hy:Px.ev E y=some (.int .i64 k))(kk:∀m':Mp,m'.Ok (iu kv k)->OJ C ops Q l E D G L (H.set i (b,m'.obj ev (iu kv k)))):OJ C ops Q (⟨d,.call ⟨.builtin .delete,#[x,y],#[T,J]⟩,ty,pos,aE,g⟩::l) E D G L H:=by
 subst hd;have h1:=λW:World=>n9f (P:=C.P) (W:=W) hK ev k hm.len;cases hk:eU k kv 0 with
 |none=>
  have e:iu kv k=kv:=by unfold iu;rw[hk]
  have iU:m.Ok (iu kv k):=by rw[e];exact hm
  refine NK rfl zI hw (λa W hF hS=>?_) (kk _ iU);have hb:=hS.own _ (cu hi);have hlt:b<W.heap.size:=(bB.1 hb).1;have eQ:W.heap[b]? =some (.map (pr ev kv m.bs).toArray m.c):=hb;refine⟨.value (.tuple #[]),_,.inr ⟨_,rfl⟩,?_,hS.put hi (JP W b _) (World.putObj_heap_same hlt)⟩;have h2:=h1 W;rw[hk]at h2;simp[execOp,hF.ev hx,hF.ev hy,resolve,invoke,Deferred.ofValue,builtin,Builtin.delete_,run_underlying hU,IW eQ,Xx hK,h2,Xy _ eQ,e,Mp.obj]
 |some q=>
  obtain⟨j,u⟩:=q;have e:iu kv k=kv.eraseIdx j:=by unfold iu;rw[hk]
  have hj:=(hJ.1 (nsf hk)).1;have iU:(Mp.mk (m.bs.eraseIdx j) m.c).Ok (iu kv k):=by
   refine⟨by rw[e,List.length_eraseIdx_of_lt hj,List.length_eraseIdx_of_lt (by rw[hm.len];exact hj),hm.len],λb hb=>hm.lt b (List.mem_of_mem_eraseIdx hb),(List.eraseIdx_sublist _ _).nodup hm.nd,n1o hm.keys⟩
  refine NK rfl zI hw (λa W hF hS=>?_) (kk _ iU);have hb:=hS.own _ (cu hi);have hlt:b<W.heap.size:=(bB.1 hb).1;have eQ:W.heap[b]? =some (.map (pr ev kv m.bs).toArray m.c):=hb;refine⟨.value (.tuple #[]),_,.inr ⟨_,rfl⟩,?_,hS.put hi (JP W b _) (World.putObj_heap_same hlt)⟩;have h2:=h1 W;rw[hk]at h2;have hz:∀(l:List (Int×β)) (bs:List Nat) (j:Nat),(l.zip bs).eraseIdx j=(l.eraseIdx j).zip (bs.eraseIdx j):=by
   intro l;induction l with
   |nil=>intro bs j;simp
   |cons p l ih=>
    intro bs j;cases bs with
    |nil=>simp
    |cons b bs=>cases j with
     |zero=>simp
     |succ j=>simp[ih]
  have e2:(pr ev kv m.bs).eraseIdx j=pr ev (iu kv k) (m.bs.eraseIdx j):=by
   rw[e];simp only[pr];rw[<-hz,ChangeMaps.map_eraseIdx]
  simp[execOp,hF.ev hx,hF.ev hy,resolve,invoke,Deferred.ofValue,builtin,Builtin.delete_,run_underlying hU,IW eQ,Xx hK,h2,Xy _ eQ,e2,Mp.obj]
def Mp.it (b:Nat) (m:Mp) (js:List Nat):Obj:=.mapIter (some b) m.c (js.map λj=>m.bs.getD j 0).toArray m.c
theorem ahS(hU:C.P.underlying T=some (.map kt et))(hb:bF G L H b (m.obj ev kv))(hw:nr ops E g=some true)(hN:Nat.blt d C.N=true)(hx:Px.ev E x=some (.map (some b)))(k:∀rb:Nat,ah L rb->bN H rb->OJ C ops Q l ((d,ptr rb 0)::E) D G L ((rb,m.it b [])::H)):OJ C ops Q (⟨some d,.range T x,ty,pos,aE,g⟩::l) E D G L H:=
 rn zI hw hN λa W hF hS=>by
  have eQ:W.heap[b]? =some (.map (pr ev kv m.bs).toArray m.c):=hb W hS;refine⟨_,_,_,_,?_,hS.alloc (m.it b []),k W.heap.size hS.sizes hS.offNew⟩;have:=run_range_map (P:=C.P) W T kt et b _ _ hU eQ;simp[execOp,hF.ev hx,this,Mp.it]
theorem YN(hU:C.P.underlying T=some (.map kt et))(hw:nr ops E g=some true)(hN:Nat.blt d C.N=true)(hx:Px.ev E x=some (.map none))(k:∀rb:Nat,ah L rb->bN H rb->OJ C ops Q l ((d,ptr rb 0)::E) D G L ((rb,.mapIter none 0 #[] 0)::H)):OJ C ops Q (⟨some d,.range T x,ty,pos,aE,g⟩::l) E D G L H:=
 rn zI hw hN λa W hF hS=>by
  refine⟨_,_,_,_,?_,hS.alloc (.mapIter none 0 #[] 0),k W.heap.size hS.sizes hS.offNew⟩;have:=run_range_nilMap (P:=C.P) W T kt et hU;simp[execOp,hF.ev hx,this]
theorem Rc{rb:Nat}(hi:H[i]? =some (rb,.mapIter none 0 #[] 0))(hw:nr ops E g=some true)(hN:Nat.blt d C.N=true)(hx:Px.ev E x=some (ptr rb 0))(k:OJ C ops Q l ((d,.tuple #[.bool false])::E) D G L H):OJ C ops Q (⟨some d,.next x false,ty,pos,aE,g⟩::l) E D G L H:=
 rn zI hw hN λa W hF hS=>by
  have hr:=hS.own _ (cu hi);refine⟨_,W,L,H,?_,hS,k⟩;simp[execOp,hF.ev hx,Instr.next,getObj,Sem.run,hr]
variable {js:List Nat}
theorem YM{rb:Nat}(hi:H[i]? =some (rb,m.it b js))(hm:m.Ok kv)(hb:bF G L H b (m.obj ev kv))(qf:∀j∈js,j<kv.length)(hw:nr ops E g=some true)(hN:Nat.blt d C.N=true)(hx:Px.ev E x=some (ptr rb 0))(k1:(∀j,j<kv.length->j∈js)->OJ C ops Q l ((d,.tuple #[.bool false])::E) D G L H)(k2:∀(j:Nat) (p:Int×β),kv[j]? =some p->j∉js->OJ C ops Q l ((d,.tuple #[.bool true,.int .i64 p.1,ev p.2])::E) D G L (H.set i (rb,m.it b (js++[j])))):OJ C ops Q (⟨some d,.next x false,ty,pos,aE,g⟩::l) E D G L H:=
 rn zI hw hN λa W hF hS=>by
  have hr:W.heap[rb]? =some (.mapIter (some b) m.c (js.map λj=>m.bs.getD j 0).toArray m.c):=hS.own _ (cu hi);have eQ:W.heap[b]? =some (.map (pr ev kv m.bs).toArray m.c):=hb W hS;have hlt:rb<W.heap.size:=(bB.1 hr).1;have I0:∀e∈(pr ev kv m.bs).toArray.toList,e.born<m.c:=by
   intro e he;obtain⟨j,hj⟩:=ju.1 he;simp only at hj;rw[Va hm.len]at hj;exact zuh
  have Xz:∀j,j<kv.length->((js.map λj=>m.bs.getD j 0).toArray.contains (m.bs.getD j 0)=true↔j∈js):=by
   exact zBg
  have hex:∀{v W'},(Instr.next (.pointer (some ⟨rb,0,none⟩)) false ty).run C.P W= .ok v W'->(execOp a.eval ⟨some d,.next x false,ty,pos,aE,g⟩).run C.P W= .ok (.value v) W':=by
   intro v W' hh;simp[execOp,hF.ev hx,hh]
  rcases run_next_at (P:=C.P) W ty rb b m.c m.c _ _ m.c hr eQ I0 (aj _)with⟨h0,gw⟩|⟨e,he,W1,P9,gw⟩
  ·refine⟨_,W,L,H,hex gw,hS,k1 λj hj=>?_⟩;apply(Xz j hj).1;apply Decidable.byContradiction;intro hn;have fF:=Va (ev:=ev) hm.len j;rw[ll hj]at fF;have kL:=cu fF;have:(leftOf (pr ev kv m.bs).toArray (js.map λj=>m.bs.getD j 0).toArray)=#[]:=Array.eq_empty_of_size_eq_zero h0;exact zmh
  unfold leftOf at he;rw[Array.toList_filter,xh]at he;obtain⟨cN,bY⟩:=he;obtain⟨j,hj⟩:=ju.1 cN;simp only at hj;rw[Va hm.len]at hj;obtain⟨p,hp,rfl⟩:=wu.1 hj;have C8:=(hJ.1 hp).1;have hn:j∉js:=λh=>by
   exact zyh
  have J:St G L H W1:=by
   rcases P9 with rfl|rfl
   ·exact hS
   exact hS.step (ER W _)
  have Vb:rb<W1.heap.size:=(bB.1 (J.own _ (cu hi))).1;have CZ:=J.put hi (JP W1 rb (m.it b (js++[j]))) (World.putObj_heap_same Vb);refine⟨_,_,L,_,hex gw,?_,k2 j p hp hn⟩;have e1:ChangeMaps.setBlock W1 rb (.mapIter (some b) m.c ((js.map λj=>m.bs.getD j 0).toArray.push (m.bs.getD j 0)) m.c)=W1.putObj rb (m.it b (js++[j])):=by
   simp[ChangeMaps.setBlock,World.putObj,Mp.it]
  rw[e1];exact CZ
variable {j:Nat}
theorem Rb{rb:Nat}{p:Int×β}(hi:H[i]? =some (rb,m.it b (js++[j])))(hm:m.Ok kv)(hb:bF G L H b (m.obj ev kv))(hp:kv[j]? =some p)(hx:Px.ev E x=some (ptr rb 0)):RV C G L H E (.entry x) (.tuple #[.int .i64 p.1,ev p.2]):=λd ty pos aE g a W hF hS=>by
 have hr:W.heap[rb]? =some (.mapIter (some b) m.c (((js++[j]).map λj=>m.bs.getD j 0).toArray) m.c):=hS.own _ (cu hi);have eQ:W.heap[b]? =some (.map (pr ev kv m.bs).toArray m.c):=hb W hS;have fF:=Va (ev:=ev) hm.len j;rw[hp]at fF;have hnd:((pr ev kv m.bs).toArray.toList.map (·.born)).Nodup:=by
  have:(pr ev kv m.bs).toArray.toList.map (·.born)=m.bs:=by
   simp only[pr,List.map_map];rw[show((λx:MapEntry=>x.born)∘λp:(Int×β)×Nat=>({key:=.int .i64 p.1.1,val:=ev p.1.2,born:=p.2}:MapEntry))=Prod.snd from rfl];rw[List.map_snd_zip];exact Nat.le_of_eq hm.len
  rw[this];exact hm.nd
 exact zCh
theorem KQ(ev:β->Value)(hw:nr ops E g=some true)(hN:Nat.blt d C.N=true)(k:∀(b:Nat),ah L b->bN H b->OJ C ops Q l ((d,.map (some b))::E) D G L ((b,(Mp.mk [] 0).obj ev [])::H)):OJ C ops Q (⟨some d,.makeMap T none,ty,pos,aE,g⟩::l) E D G L H:=
 rn zI hw hN λa W _ hS=>⟨.map (some W.heap.size),W.alloc ((Mp.mk [] 0).obj ev []),_,_,by simp[execOp,Instr.makeMap,Mp.nil_obj],hS.alloc _,k W.heap.size hS.sizes hS.offNew⟩
end
section
variable {C:Cx} {Q:bE} {E:Env} {D:List Deferred} {G:Gh} {L:List World} {H H0 H1:ad} {ops:Array Oper} {l:List Oper}
variable {d ty f:Nat} {pos:String} {aE:Array Edge} {g:Option (Nat×Bool)} {xo:List Operand} {vs:List Value} {eL:Array Nat}
variable {β:Type} {ev:β->Value} {kv:List (Int×β)}
def EY (w:World) (ev:β->Value) (kv:List (Int×β)) (v:Value->Value):Ending->World->Prop:=λe w'=>
 ∃(b:Nat) (m:Mp),e= .returned (v (.map (some b)))/\Below w.heap.size w w'/\w.heap.size<=b/\m.Ok kv/\w'.heap[b]? =some (m.obj ev kv)
variable {v:Value->Value}
theorem nZi(aB:eV C.P f)(hw:nr ops E g=some true)(hN:Nat.blt d C.N=true)(ha:jy E xo=some vs)(hc:∀W,St G L H W->Calls C.P f vs.toArray W (EY W ev kv v))(k:∀(b:Nat) (m:Mp),ah L b->bN H b->m.Ok kv->OJ C ops Q l ((d,v (.map (some b)))::E) D G L ((b,m.obj ev kv)::H)):OJ C ops Q (⟨some d,.call ⟨.value (.func f),xo.toArray,eL⟩,ty,pos,aE,g⟩::l) E D G L H:=
 nK rfl hw rfl ha zI aB λa W jz hD hF hS=>(hc W hS).mono (by
  rintro ed W' ⟨b,m,rfl,hb,J,hm,fF⟩;exact k b m (CK hS J) (DN hS J) hm (a.put (some d) (v (.map (some b)))) W' z7 z5 (hF.put _ z6) ((hS.step hb).adopt fF (DN hS J) (λhv=>by have:=hS.vlt _ hv;omega)))
variable {e:Exit} {fn:Func} {rs:List ResultVar} {us:List Value} {b i:Nat} {w:World}
theorem YH{m:Mp}(he:e= .ret\/e= .normal)(hr:fn.results=rs.toArray)(h:RS C Gh.no L H E rs us)(hw:w∈L)(ho:Over w.heap.size H)(hv:MX us=v (.map (some b)))(hm:m.Ok kv)(hi:H[i]? =some (b,m.obj ev kv)):PJ C (bodyPost C.P fn (EY w ev kv v)) e E [] Gh.no L H:=
 bS he hr h λW hS=>⟨b,m,by rw[hv],hS.base hw ho,ho.mem _ (cu hi),hm,hS.own _ (cu hi)⟩
variable {m t:Nat}
theorem VL{α:Type}{enc:α->List Value}{Fin:List α->Prop}(aB:eV C.P f)(hw:nr ops E g=some true)(hN:Nat.blt d C.N=true)(ha:jy E xo=some vs)(hc:∀W,St G L H W->Calls C.P f vs.toArray W (λe w'=>∃xs,Fin xs/\aD W enc m t xs v e w'))(k:∀(xs:List α) (r:Rw),Fin xs->r.Fr G L->r.Fit m xs->OJ C ops Q l ((d,v (r.val xs.length))::E) D G L (r.hp enc t xs++H)):OJ C ops Q (⟨some d,.call ⟨.value (.func f),xo.toArray,eL⟩,ty,pos,aE,g⟩::l) E D G L H:=
 nK rfl hw rfl ha zI aB λa W jz hD hF hS=>(hc W hS).mono (by
  rintro ed W' ⟨xs,ee,r,rfl,hb,J,bQ,fF⟩;refine k xs r ee ?_ bQ (a.put (some d) (v (r.val xs.length))) W' z7 z5 (hF.put _ z6) ?_
  ·cases r with
   |nil=>trivial
   |row b cap sp=>exact Fr.up hS J
  cases r with
  |nil=>exact hS.step hb
  |row b cap sp=>exact(hS.step hb).adopt fF (DN hS J) (λhv=>by have:=hS.vlt _ hv;have:W.heap.size<=b:=J;omega))
variable {cap first:List Value} {o:Obj} {x:Operand}
theorem nsj{γ:Type}{v:γ->Value}{ob:γ->Obj}{Φ:γ->Prop}(hi:H[i]? =some (b,o))(hx:Px.ev E x=some (.func (.func f) first.toArray cap.toArray))(aB:eV C.P f)(hw:nr ops E g=some true)(hN:Nat.blt d C.N=true)(ha:jy E xo=some vs)(hc:∀W,St G L H W->W.heap[b]? =some o->Calls C.P f (first++vs++cap).toArray W (λe w'=>∃y,e= .returned (v y)/\aT (· =b) W w'/\Φ y/\w'.heap[b]? =some (ob y)))(k:∀y,Φ y->OJ C ops Q l ((d,v y)::E) D G L (H.set i (b,ob y))):OJ C ops Q (⟨some d,.call ⟨.value x,xo.toArray,eL⟩,ty,pos,aE,g⟩::l) E D G L H:=
 nK rfl hw hx ha zI aB λa W jz hD hF hS=>(hc W hS (hS.own _ (cu hi))).mono (by
  rintro J W' ⟨y,rfl,hk,hP,fF⟩;exact k y hP (a.put (some d) (v y)) W' z7 z5 (hF.put _ z6) (hS.put hi hk fF))
variable {N:Nat} {a:Option Addr}
theorem ai.blk{α:Type}{enc:α->Array Value}{n N':Nat}{w':World}{xs:List α}(h:ai enc n N w a xs)(hw:∀b off,a=some ⟨b,off,none⟩->b<N->b<N'/\w'.heap[b]? =w.heap[b]?):ai enc n N' w' a xs:=by
 rcases h with h|⟨b,off,cs,t,fr,h1,h2,h3,h4⟩
 ·exact .inl h
 obtain⟨g1,g2⟩:=hw b off h1 h2;exact .inr ⟨b,off,cs,t,fr,h1,g1,g2.trans h3,h4⟩
def OK {α:Type} (w:World) (ev:β->Value) (kv:List (Int×β)) (enc:α->List Value) (n:Nat) (ds:List α) (v:Value->Value->Value):Ending->World->Prop:=λe w'=>
 ∃(b:Nat) (m:Mp) (a:Option Addr) (cp:Nat),e= .returned (v (.map (some b)) (.slice a ds.length cp))/\Below w.heap.size w w'/\w.heap.size<=b/\m.Ok kv/\w'.heap[b]? =some (m.obj ev kv)/\ai (λx=>(enc x).toArray) n w'.heap.size w' a ds/\∀q,a=some q->w.heap.size<=q.block/\q.block≠b
theorem nHi{α:Type}{enc:α->List Value}{n:Nat}{ds:List α}{v:Value->Value->Value}(aB:eV C.P f)(hw:nr ops E g=some true)(hN:Nat.blt d C.N=true)(ha:jy E xo=some vs)(hc:∀W,St G L H W->Calls C.P f vs.toArray W (OK W ev kv enc n ds v))(k:∀(b:Nat) (m:Mp) (a:Option Addr) (cp:Nat) (W w1:World),St G L H W->Below W.heap.size W w1->W.heap.size<=b->b<w1.heap.size->ah L b->bN H b->m.Ok kv->ai (λx=>(enc x).toArray) n w1.heap.size w1 a ds->(∀q,a=some q->W.heap.size<=q.block/\q.block≠b)->OJ C ops Q l ((d,v (.map (some b)) (.slice a ds.length cp))::E) D G (w1::L) ((b,m.obj ev kv)::H)):OJ C ops Q (⟨some d,.call ⟨.value (.func f),xo.toArray,eL⟩,ty,pos,aE,g⟩::l) E D G L H:=
 nK rfl hw rfl ha zI aB λac W jz hD hF hS=>(hc W hS).mono (by
  rintro ed W' ⟨b,m,a,cp,rfl,hb,J,hm,fF,aI,hne⟩;refine k b m a cp W W' hS hb J (bB.1 fF).1 (CK hS J) (DN hS J) hm aI hne (ac.put (some d) (v (.map (some b)) (.slice a ds.length cp))) W' z7 z5 (hF.put _ z6) ?_;exact((hS.step hb).snap.adopt fF (DN hS J) (λhv=>by have:=hS.vlt _ hv;omega)))
variable {H':ad}
theorem OJ.perm(hp:H.Perm H')(k:OJ C ops Q l E D G L H'):OJ C ops Q l E D G L H:=λa W hN hD hF hS=>k a W hN hD hF (hS.perm hp)
theorem PJ.perm(hp:H.Perm H')(k:PJ C Q e E D G L H'):PJ C Q e E D G L H:=λa W hN hD hF hS=>k a W hN hD hF (hS.perm hp)
variable {fv:Operand}
theorem VO{α:Type}{enc:α->List Value}{xs:List α}(hx:Px.ev E fv=some (.func (.func f) first.toArray cap.toArray))(aB:eV C.P f)(hw:nr ops E g=some true)(hN:Nat.blt d C.N=true)(ha:jy E xo=some vs)(hc:∀W,St G L H W->Calls C.P f (first++vs++cap).toArray W (aD W enc m t xs v))(k:∀r:Rw,r.Fr G L->r.Fit m xs->OJ C ops Q l ((d,v (r.val xs.length))::E) D G L (H++(r.hp enc t xs++[]))):OJ C ops Q (⟨some d,.call ⟨.value fv,xo.toArray,eL⟩,ty,pos,aE,g⟩::l) E D G L H:=
 Jh hx aB hw hN ha hc λr h1 h2=>OJ.perm ZD (k r h1 h2)
end
/-! ### loops whose rounds lay marks; ranges inside of iterators -/
section
variable {C:Cx} {Q:bE} {E:Env} {D:List Deferred} {G:Gh} {L:List World} {H:ad}
def I2 {α:Type} (C:Cx) (Di:α->List Deferred) (Ei:α->Env) (Hi:α->ad) (Li:α->List World) (Gi:α->Gh) (ok:α->Prop) (μ:α->Nat) (x:α):Act->World->Prop:=λa W=>
 ∃x',ok x'/\μ x'<μ x/\a.tmps.size=C.N/\a.defers=Di x'/\Fits (Ei x') a/\St (Gi x') (Li x') (Hi x') W
theorem CJ.loopD{α:Type}{c:Code}(Di:α->List Deferred)(Ei:α->Env)(Hi:α->ad)(Li:α->List World)(Gi:α->Gh)(ok:α->Prop)(μ:α->Nat)(J:α)(h0:ok J)(hE:Sub (Ei J) E)(hH:Hi J=H)(hG:Gi J=G)(hL:∀w∈Li J,w∈L)(a6:Di J=D)(round:∀x,ok x->CJ C c (Exit.then (I2 C Di Ei Hi Li Gi ok μ x) Q) (Ei x) (Di x) (Gi x) (Li x) (Hi x)):CJ C (.loop c) Q E D G L H:=by
 intro a W hN hD hF hS;subst hH;subst hG;subst a6
 let Inv:Act->World->Nat->Prop:=λa W m=>∃x,μ x=m/\ok x/\a.tmps.size=C.N/\a.defers=Di x/\Fits (Ei x) a/\St (Gi x) (Li x) (Hi x) W
 refine wpIn_loop (λa W=>∃m,Inv a W m) (λa W=>UQ (Inv a W)) ⟨_,J,rfl,h0,hN,hD,hE.fits hF,hS.lessL hL⟩ ?_;exact zog
theorem nop{α:Type}{Di:α->List Deferred}{Ei:α->Env}{Hi:α->ad}{Li:α->List World}{Gi:α->Gh}{ok:α->Prop}{μ:α->Nat}{x:α}(x':α)(h0:ok x')(hlt:μ x'<μ x)(hE:Sub (Ei x') E)(hH:Hi x'=H)(hG:Gi x'=G)(hL:∀w∈Li x',w∈L)(J:Di x'=D):PJ C (Exit.then (I2 C Di Ei Hi Li Gi ok μ x) Q) .normal E D G L H:=by
 intro a W hN hD hF hS;subst hH;subst hG;subst J;exact⟨x',h0,hlt,hN,hD,hE.fits hF,hS.lessL hL⟩
abbrev Mk:=Nat×Loop×Nat
def tG (ms:List Mk):ad:=ms.flatMap λq=>[(q.1,.loop q.2.1),(q.2.2,.deferred (some []))]
def mkD (ms:List Mk):List Deferred:=ms.map λq=>qW q.2.2
theorem nJm(l Dk:Nat)(rec:Loop)(ms:List Mk)(H:ad):(book (H++tG ms) l rec (jj Dk)).Perm (H++tG ((l,rec,Dk)::ms)):=by
 simp only[book,tG,VB,iY];refine List.Perm.append_left H ?_;exact List.perm_append_comm
variable {ms:List Mk}
theorem N6:∀k∈ms.map (·.2.2),(k,.deferred (some []))∈tG ms:=by
 intro k hk;obtain⟨q,hq,rfl⟩:=bU.1 hk;exact uL.2 ⟨q,hq,by simp⟩
theorem Vc(ms:List Mk):mkD ms=(ms.map (·.2.2)).map qW:=by simp[mkD]
def Cg (n:Nat) (ms:List Mk):Prop:=∀q∈ms,n<=q.1/\n<=q.2.2
theorem Y4{n:Nat}(h:Cg n ms):∀p∈tG ms,n<=p.1:=by
 intro p hp;obtain⟨q,hq,hp⟩:=uL.1 hp;have:=h q hq;all_goals grind
variable {k:Nat}
theorem nTn{n:Nat}(h:Cg n ms)(hk:k<n):bN (tG ms) k:=bN.of_mem λhm=>by
 obtain⟨p,hp,e⟩:=bU.1 hm;have:=Y4 h p hp;omega
variable {W:World}
theorem nQp(hS:St G L (H++tG ms) W):(ms.map (·.2.2)).Nodup:=by
 have h:=(vN _).1 hS.nodup;rw[gN,List.nodup_append]at h;have h2:=h.2.1;clear h hS;induction ms with
 |nil=>simp
 |cons q ms ih=>
  simp only[tG,VB,iv,eY,dP,List.nodup_cons]at h2 ⊢;refine⟨λhm=>?_,ih h2.2.2⟩;obtain⟨q',J,e⟩:=bU.1 hm;refine h2.2.1 (bU.2 ⟨(q'.2.2,.deferred (some [])),uL.2 ⟨q',J,by simp⟩,e⟩)
variable {e:Exit} {fn:Func} {I:World->Prop}
theorem Y2{W0:World}{MI RO M:aJ}{hM:∀k,M k->k<W0.heap.size/\¬MI k/\¬RO k}{V:aJ}{hI:gu (λk=>(k<W0.heap.size/\¬MI k)\/V k) I}{α:Type}{Fin:List α->Prop}{J:List α->aJ->World->Prop}{X:aJ->World->Prop}{H0:ad}(he:e= .ret\/e= .normal)(hr:fn.results=#[])(hw:W0∈L)(hV:∀k,V k->W0.heap.size<=k)(hH:∀k,k<W0.heap.size->k∈(H0++tG ms).map (·.1)->MI k)(h:∀A,I A->(∃xs,Fin xs/\J xs V A)\/X V A):PJ C (bodyPostM (FW none) 0 C.P fn (λe W'=>(∃v,e= .returned v)/\aT (λk=>M k\/MI k) W0 W'/\∃V,(∃xs,Fin xs/\J xs V W')\/X V W')) e E (mkD ms) (dF hM V hI) L (H0++tG ms):=by
 intro a W hN hD hF hS;have key:LeavesInM (FW none) 0 C.P fn a.tmps (λe W'=>(∃v,e= .returned v)/\aT (λk=>M k\/MI k) W0 W'/\∃V,(∃xs,Fin xs/\J xs V W')\/X V W') a.defers .returning W:=
  n5g (Ds:=ms.map (·.2.2)) (by rw[hD,Vc]) hS (λk hk=>aY.2 (.inr (N6 k hk))) (nQp hS) (λW' H' ij _ aX=>by
   refine⟨_,results_none hr _ _ _,⟨_,rfl⟩,(ij.links W0 hw).mono λk hk hx=>?_,V,h W' ij.ghost⟩;rcases hx with(hx|hx)|hx
   ·exact .inl hx
   ·have:=hV k hx;omega
   rw[aX]at hx;exact .inr (hH k hk hx))
 exact z4h
end
section
variable {C:Cx} {Q:bE} {E:Env} {D:List Deferred} {L:List World} {H:ad} {ops:Array Oper} {l:List Oper}
variable {d ty:Nat} {pos:String} {aE:Array Edge} {g:Option (Nat×Bool)} {x:Operand} {xs:List Operand} {vs:List Value} {eL:Array Nat}
variable {W0:World} {MI RO M:aJ} {hM:∀k,M k->k<W0.heap.size/\¬MI k/\¬RO k}
variable {I1 X1:aJ->World->Prop} {I:World->Prop}
theorem Y5{y:Nat}(Z:aJ)(T:Gh->Gh)(hT:∀G,(T G).M=G.M/\(T G).V=G.V/\(T G).R=G.R/\(T G).X=λk=>G.X k\/Z k){V:aJ}{hI:gu (λk=>(k<W0.heap.size/\¬MI k)\/V k) I}(lM:∀V,gu (λk=>(k<W0.heap.size/\¬MI k)\/V k) (I1 V))(gk:∀V,gu (λk=>(k<W0.heap.size/\¬MI k)\/V k) (X1 V))(hV:∀k,V k->W0.heap.size<=k)(hw:nr ops E g=some true)(hN:Nat.blt d C.N=true)(hx:ev E x=some (yv y))(ha:jy E xs=some vs)(hy:∀W1,(∀k,V k->W0.heap.size<=k/\k<W1.heap.size)->I W1->S0 C.P y vs.toArray W1 (λb W2=>aT (λk=>M k\/V k) W1 W2/\(if b then I1 (rm V W1 W2) W2 else X1 (rm V W1 W2) W2)))(k1:∀V2,(∀k,V k->V2 k)->(∀w∈L,∀k,V2 k->V k\/w.heap.size<=k)->OJ C ops Q l ((d,.bool true)::E) D (T (dF hM V2 (lM V2))) L H)(k2:∀V2,(∀k,V k->V2 k)->(∀w∈L,∀k,V2 k->V k\/w.heap.size<=k)->OJ C ops Q l ((d,.bool false)::E) D (T (dF hM V2 (gk V2))) L H):OJ C ops Q (⟨some d,.call ⟨.value x,xs.toArray,eL⟩,ty,pos,aE,g⟩::l) E D (T (dF hM V hI)) L H:=by
 refine U8 (λG'=>∃V2,(∀k,V k->V2 k)/\(∀w∈L,∀k,V2 k->V k\/w.heap.size<=k)/\G'=T (dF hM V2 (lM V2))) (λG'=>∃V2,(∀k,V k->V2 k)/\(∀w∈L,∀k,V2 k->V k\/w.heap.size<=k)/\G'=T (dF hM V2 (gk V2))) hw hN hx ha (λW1 hS=>?_) (by rintro _ ⟨V2,h2,h3,rfl⟩;exact k1 V2 h2 h3) (by rintro _ ⟨V2,h2,h3,rfl⟩;exact k2 V2 h2 h3);have hxl:∀k,V k->k<W1.heap.size:=λk hk=>hS.xlt k (by rw[(hT _).2.2.2];exact .inl (.inr hk));have J:I W1:=by have:=hS.ghost;rw[(hT _).2.2.1]at this;exact this
 obtain⟨fn,tmps,assign,body,gw,p7⟩:=hy W1 (λk hk=>⟨hV k hk,hxl k hk⟩) J;exact zfg
theorem Zr(G:Gh):(id G).M=G.M/\(id G).V=G.V/\(id G).R=G.R/\(id G).X=λk=>G.X k\/(λ_=>False) k:=⟨rfl,rfl,rfl,by funext k;simp⟩
theorem Y6(Z:aJ)(G:Gh):(G.ext Z).M=G.M/\(G.ext Z).V=G.V/\(G.ext Z).R=G.R/\(G.ext Z).X=λk=>G.X k\/Z k:=⟨rfl,rfl,rfl,rfl⟩
end
/-! ### blocks that stay as_ they are, from here to the end -/
def dJ (F:ad):Gh where
 M:=λ_=>False
 V:=λk=>k∈F.map (·.1)
 R:=λW=>∀p∈F,W.heap[p.1]? =some p.2
 X:=λ_=>False
 sub:=λ_ h=>h.elim
 subX:=λ_ h=>h
 stab:=λA B h _ _ _ _ _ hv p hp=>(hv p.1 (bU.2 ⟨p,hp,rfl⟩)).trans (h p hp)
section
variable {L:List World} {H:ad} {W:World} {F:ad}
theorem St.fz0(h:St Gh.no L H W):St (dJ []) L H W:=
 {ghost:=λp hp=>by simp at hp,vlt:=λk hk=>by simp[dJ]at hk,xlt:=λk hk=>hk.elim,links:=h.links,own:=h.own,nodup:=h.nodup,apart:=λp _ hv=>by simp[dJ]at hv}
theorem St.unfz(h:St (dJ F) L H W):St Gh.no L H W:=
 {ghost:=trivial,vlt:=λk hk=>hk.elim,xlt:=λk hk=>hk.elim,links:=h.links,own:=h.own,nodup:=h.nodup,apart:=λp _ hv=>hv.elim}
theorem St.fzAt(h:St (dJ F) L H W):∀p∈F,W.heap[p.1]? =some p.2:=h.ghost
theorem Lo(w:World):St (dJ []) [w] [] w:=(JW w).fz0
theorem St.fz{A:ad}(h:St (dJ F) L (A++H) W)(ha:∀p∈A,ah L p.1):St (dJ (A++F)) L H W:=by
 have hd:=(vN _).1 h.nodup;rw[gN,List.nodup_append]at hd;refine⟨λp hp=>?_,λk hk=>?_,λk hk=>hk.elim,λw hw=>?_,λp hp=>h.own p (aY.2 (.inr hp)),(vN _).2 hd.2.1,λp hp hv=>?_⟩
 ·rcases aY.1 hp with hp|hp
  ·exact h.own p (aY.2 (.inl hp))
  exact h.ghost p hp
 ·obtain⟨p,hp,rfl⟩:=bU.1 hk;rcases aY.1 hp with hp|hp
  ·exact h.lt p (aY.2 (.inl hp))
  exact h.vlt p.1 (bU.2 ⟨p,hp,rfl⟩)
 ·refine(h.links w hw).mono λk hk hx=>?_;rcases hx with hx|hx
  ·exact hx.elim
  rw[gN]at hx;rcases aY.1 hx with hx|hx
  ·obtain⟨p,hp,rfl⟩:=bU.1 hx;have:=(ha p hp).mem w hw;omega
  exact .inr hx
 obtain⟨q,hq,e⟩:=bU.1 hv;rcases aY.1 hq with hq|hq
 ·exact hd.2.2 q.1 (bU.2 ⟨q,hq,rfl⟩) p.1 (bU.2 ⟨p,hp,rfl⟩) e
 exact h.apart p (aY.2 (.inr hp)) (bU.2 ⟨q,hq,e⟩)
end
section
variable {C:Cx} {Q:bE} {E:Env} {D:List Deferred} {L:List World} {H H' F:ad} {ops:Array Oper} {l:List Oper}
theorem CJ.fz{c:Code}(A:ad)(hp:H.Perm (A++H'))(ha:∀p∈A,ah L p.1)(k:CJ C c Q E D (dJ (A++F)) L H'):CJ C c Q E D (dJ F) L H:=λa W hN hD hF hS=>k a W hN hD hF ((hS.perm hp).fz ha)
variable {e:Exit}
theorem PJ.fz(A:ad)(hp:H.Perm (A++H'))(ha:∀p∈A,ah L p.1)(k:PJ C Q e E D (dJ (A++F)) L H'):PJ C Q e E D (dJ F) L H:=λa W hN hD hF hS=>k a W hN hD hF ((hS.perm hp).fz ha)
variable {t:Nat} {r:Rw}
theorem Rw.fz_above{α:Type}{enc:α->List Value}{xs:List α}(h:r.Fr (dJ F) L):∀p∈r.hp enc t xs,ah L p.1:=by
 intro p hp;cases r with
 |nil=>simp[Rw.hp]at hp
 |row b cap sp=>
  simp[Rw.hp]at hp;subst hp;exact h.elim (λh=>h.elim) id
variable {w:World}
theorem Rw.ge_fz(h:r.Fr (dJ F) L)(hw:w∈L):r.ge w.heap.size:=by
 cases r with
 |nil=>trivial
 |row b cap sp=>exact(h.elim (λh=>h.elim) id:ah L b).mem w hw
variable {m:Nat}
theorem Rw.row_of{α:Type}{xs:List α}(h:r.Fit m xs)(hx:0<xs.length):∃b cap sp,r= .row b cap sp:=by
 cases r with
 |nil=>have:xs=[]:=h;subst this;simp at hx
 |row b cap sp=>exact⟨b,cap,sp,rfl⟩
variable {b:Nat}
theorem ah.not(h:ah L b)(hw:w∈L):w.heap.size<=b:=h.mem w hw
end
section
variable {C:Cx} {Q:bE} {E:Env} {D:List Deferred} {G:Gh} {L:List World} {H H0 H1:ad} {ops:Array Oper} {l:List Oper}
variable {d ty:Nat} {pos:String} {aE:Array Edge} {g:Option (Nat×Bool)} {x y:Operand} {α:Type} {enc:α->List Value} {m:Nat}
variable {a:Option Addr}
theorem Rd.zero{size c:Nat}:Rd C G L H size 0 (.slice a 0 c) []:=λW _=>by
 cases a with
 |none=>rfl
 |some a=>simp[Builtin.firstCells,loadCells,loadCellsFrom]
theorem nag{cs:Array Value}{off:Nat}:∀(xs:List α),(∀x,(enc x).length=m)->(∀i (h:i<xs.length),off+i*m+m<=cs.size/\cut cs (off+i*m) m=(enc xs[i]).toArray)->(cs.toList.drop off).take (xs.length*m)=iE enc xs
 | [],_,_=>by simp[iE]
 |x::xs,hm,h=>by
  have ih:=nag (cs:=cs) (off:=off+m) xs hm (λi hi=>by
   have:=h (i+1) (by simpa using hi);rw[show off+(i+1)*m=off+m+i*m by rw[qL];omega]at this;simpa using this)
  obtain⟨h1,h2⟩:=h 0 zI;simp only[Nat.zero_mul,Nat.add_zero,List.getElem_cons_zero]at h1 h2;have h3:(cs.toList.drop off).take m=enc x:=by
   unfold cut at h2;have:=congrArg Array.toList h2;simpa using this
  have e:(x::xs).length*m=m+xs.length*m:=by rw[dI,qL];omega
  rw[e,List.take_add,Wz,h3,ih];rfl
variable {N:Nat} {w:World}
theorem ck.sl{J e' c:Nat}{xs:List α}(hm:∀x,(enc x).length=m)(h1:∀x,∀u∈enc x,u.oneCell'=true)(hU:C.P.underlying J=some (.slice e'))(hw:w∈L)(h:ai (λx=>(enc x).toArray) m N w a xs)(ho:∀b,b<N->¬G.X b/\bN H b):ck C G L H enc m J (.slice a xs.length c) xs:=by
 rcases h with h|⟨b,off,cs,t,fr,e1,e2,e3,e4⟩
 ·subst h;exact zGh
 subst e1;have hl:off+xs.length*m<=cs.size\/xs=[]:=by
  exact zWg
 rcases hl with hl|h0
 ·exact ck.at hm h1 hU (bF.old hw e3 (ho b e2).1 (ho b e2).2) hl (nag xs hm e4)
 subst h0;exact zGh
variable {sp:List Value} {b t:Nat} {sv:Value}
theorem apR{cap:Nat}{e tx:Nat}{xs zs:List α}(hH:H=H0++((b,bj enc e xs sp)::H1))(hT:jM C.P t e m)(hm:∀x,(enc x).length=m)(hw:nr ops E g=some true)(hN:Nat.blt d C.N=true)(hx:ev E x=some (.slice (some ⟨b,0,none⟩) xs.length cap))(hy:ev E y=some sv)(hs:ck C G L H enc m tx sv zs)(hr:(Rw.row b cap sp).Fit m xs)(hf:Fr G L b)(jt:xs.length+zs.length<=2000000)(k:∀(b' J:Nat) (bZ:List Value),(b=b'\/ah L b')->(Rw.row b' J bZ).Fit m (xs++zs)->OJ C ops Q l ((d,.slice (some ⟨b',0,none⟩) (xs++zs).length J)::E) D G L (H0++((b',bj enc e (xs++zs) bZ)::H1))):OJ C ops Q (⟨some d,.call ⟨.builtin .append,#[x,y],#[t,tx]⟩,ty,pos,aE,g⟩::l) E D G L H:=
 rn zI hw hN λa W hF hS=>by
  obtain⟨ti,z,qX,hz,lj,AV,rj⟩:=hT.info;have hl:(xs++zs).length=xs.length+zs.length:=cB;have hB:(xs.length+zs.length)*ti.bytes<=140737488355328:=eB (Nat.mul_le_mul jt rj) zz;obtain⟨hc,wG⟩:=hr;have hi:H[H0.length]? =some (b,.cells (iE enc xs++sp).toArray e (0,0)):=by rw[hH];simp[bj]
  obtain⟨b',J,bZ,W',gw,ij,eQ,AG,kJ⟩:=hS.app (P:=C.P) (ty:=ty) hi hT.und qX hz lj AV (hs.src hS) (sP hm xs) wG hc hf aa hB;refine⟨.slice (some ⟨b',0,none⟩) (xs.length+zs.length) J,W',L,_,?_,ij,?_⟩
  ·simp[execOp,hF.ev hx,hF.ev hy,resolve,invoke,Deferred.ofValue,builtin,gw]
  have:=k b' J bZ (eQ.imp Eq.symm (λh=>CK hS h)) ⟨by rw[hl];exact AG,by rw[hl];exact kJ⟩;rw[hl]at this;rw[hH];simpa[bj,OF]using this
variable {P:Program}
theorem N7{T e:Nat}(hU:P.underlying T=some (.slice e))(q:Addr)(n c d:Nat)(W:World):(Op.equalIn (d+1) T (.slice (some q) n c) (.slice none 0 0)).run P W= .ok false W:=by
 simp[Op.equalIn,run_underlying hU]
theorem vr{T U e n c:Nat}{q:Addr}(hU:C.P.underlying T=some (.slice e))(hx:ev E x=some (.slice (some q) n c))(hy:ev E y=some (.slice none 0 0)):RV C G L H E (.binOp .eql T x y U) (.bool false):=λd ty pos aE g a W hF _=>by
 have h1:(eqGuard .eql T x y (.slice (some q) n c) (.slice none 0 0)).run C.P W= .ok () W:=by simp[eqGuard]
 have h2:(binOp .eql T (.slice (some q) n c) (.slice none 0 0)).run C.P W= .ok (.bool false) W:=by
  have e:binOp .eql T (.slice (some q) n c) (.slice none 0 0)=(do pure (.bool (<-Op.equalIn (9999+1) T (.slice (some q) n c) (.slice none 0 0)))):=rfl;rw[e,Sem.run_bind,N7 hU];rfl
 exact zFh
theorem vq{T U e n c:Nat}(hU:C.P.underlying T=some (.slice e))(hx:ev E x=some (.slice none n c))(hy:ev E y=some (.slice none 0 0)):RV C G L H E (.binOp .eql T x y U) (.bool true):=λd ty pos aE g a W hF _=>by
 have h1:(eqGuard .eql T x y (.slice none n c) (.slice none 0 0)).run C.P W= .ok () W:=by simp[eqGuard]
 have h2:(binOp .eql T (.slice none n c) (.slice none 0 0)).run C.P W= .ok (.bool true) W:=by
  have e:binOp .eql T (.slice none n c) (.slice none 0 0)=(do pure (.bool (<-Op.equalIn (9999+1) T (.slice none n c) (.slice none 0 0)))):=rfl;rw[e,Sem.run_bind,n4n hU];rfl
 exact zFh
end
theorem nvl(pre old J new:List Value)(h:old.length=new.length):setCells (pre++(old++J)).toArray pre.length new=(pre++(new++J)).toArray:=by grind [nZ,nHd]
section
variable {C:Cx} {Q:bE} {E:Env} {D:List Deferred} {G:Gh} {L:List World} {H H0 H1:ad} {ops:Array Oper} {l:List Oper}
variable {d T ty:Nat} {pos:String} {aE:Array Edge} {g:Option (Nat×Bool)} {x y:Operand} {α:Type} {enc:α->List Value} {m:Nat}
variable {j:Nat}
theorem N8{cur:List α}{z:α}(hm:∀x,(enc x).length=m)(hj:j<cur.length)(sp:List Value):setCells (iE enc cur++sp).toArray (j*m) (enc z)=(iE enc (cur.set j z)++sp).toArray:=by
 have e:cur=cur.take j++(cur[j]::cur.drop (j+1)):=by rw[List.getElem_cons_drop,Ba]
 all_goals grind [iE,OF,sP,nvl]
variable {sp:List Value} {b i off t:Nat}
theorem Ls{cur:List α}{z:α}{v:Value}(hi:H[i]? =some (b,bj enc t cur sp))(hm:∀x,(enc x).length=m)(h1:∀x,∀u∈enc x,u.oneCell'=true)(hZ:nL C.P T m)(hw:nr ops E g=some true)(hx:ev E x=some (ptr b off))(hy:ev E y=some v)(ho:off=j*m)(hj:j<cur.length)(hv:v.cells=(enc z).toArray)(J:bG (enc z)=true)(k:OJ C ops Q l E D G L (H.set i (b,bj enc t (cur.set j z) sp))):OJ C ops Q (⟨none,.store T x y,ty,pos,aE,g⟩::l) E D G L H:=by
 subst ho;refine kT (off:=j*m) hi hZ hw hx hy (by rw[hv];simp[hm]) ?_ (by rw[hv];exact J) ?_
 ·have h2:(j+1)*m<=cur.length*m:=wh _ hj;rw[qL]at h2;simp only[rf,cB,sP hm];omega
 rw[hv];rw[N8 hm hj];exact k
variable {zv:Value}
theorem Bb{tx c':Nat}{ys zs:List α}(hi:H[i]? =some (b,bj enc t (ys++zs) sp))(hm:∀x,(enc x).length=m)(hU:C.P.underlying tx=some (.slice T))(hZ:AF C.P T zv)(uw:zv.cells.size=m)(gV:bG (Builtin.zeroCells zv.cells zs.length).toList=true)(hw:nr ops E g=some true)(hx:ev E x=some (.slice (some ⟨b,off,none⟩) zs.length c'))(ho:zs=[]\/off=ys.length*m)(k:∀bZ:List Value,bZ.length=zs.length*m+sp.length->OJ C ops Q l E D G L (H.set i (b,bj enc t ys bZ))):OJ C ops Q (⟨none,.call ⟨.builtin .clear,#[x],#[tx]⟩,ty,pos,aE,g⟩::l) E D G L H:=by
 by_cases h0:zs=[]
 ·subst h0;have hk:=k sp zI;rw[ec]at hi;have hH:H.set i (b,bj enc t ys sp)=H:=by
   apply C9;intro n;by_cases e:i=n
   ·subst e;rw[amq (hJ.1 hi).1,hi]
   rw[UM e]
  rw[hH]at hk;exact NK rfl zI hw (λa W hF hS=>⟨.value (.tuple #[]),W,.inr ⟨_,rfl⟩,by simp[execOp,hF.ev hx,resolve,invoke,builtin,Builtin.clear_,run_underlying hU],hS⟩) hk
 have xI:=ho.resolve_left h0;subst xI;have J:(Builtin.zeroCells zv.cells zs.length).toList.length=zs.length*m:=by simp[Builtin.zeroCells,uw]
 have f1:iE enc (ys++zs)++sp=iE enc ys++(iE enc zs++sp):=by rw[OF,iY]
 have hl:(iE enc ys).length=ys.length*m:=sP hm ys;refine NK (H':=H.set i (b,bj enc t ys ((Builtin.zeroCells zv.cells zs.length).toList++sp))) rfl zI hw (λa W hF hS=>?_) (k _ (by rw[cB,J]));have hb:=hS.own _ (cu hi);obtain⟨W',hr,hk,eQ⟩:=nRc (P:=C.P) (off:=ys.length*m) (Builtin.zeroCells zv.cells zs.length).toList 0 _ W hb (by
  rw[J];simp only[rf,cB,sP hm,OF];omega) gV
 rw[Nat.add_zero,f1,<-hl,nvl _ _ _ _ (by rw[J,sP hm])]at eQ;refine⟨.value (.tuple #[]),W',.inr ⟨_,rfl⟩,?_,hS.put hi hk eQ⟩;obtain⟨q,hq⟩:∃q,zs.length=q+1:=⟨zs.length-1,by have:=azr.2 h0;omega⟩;rw[hq]at hx hr;simp[execOp,hF.ev hx,resolve,invoke,builtin,Builtin.clear_,run_underlying hU,hZ W,hr]
end
end Px

namespace Px
open Go Go.RowKit
/-! ### maps from keys of any type to values -/
/-- keys that are arrays or structs -/
structure xf {K:Type} [DecidableEq K] (P:Program) (kt:Nat) (ek:K->Value):Prop where
 und:∃kd,P.underlying kt=some kd/\∀k v,Instr.sameNow kd (ek k) v=none
 chk:∀(b:Bool) (k:K) {W:World},(Instr.checkKey b 10000 kt (ek k)).run P W= .ok () W
 eq:∀(k k':K) {W:World},(Op.equal kt (ek k) (ek k')).run P W= .ok (decide (k=k')) W
 bits:∀k,Instr.sameBits 10000 (ek k) (ek k)=true
section
variable {K:Type} [DecidableEq K] {ek:K->Value} {β:Type}
def fk (k:K):List (K×β)->Nat->Option (Nat×β)
 | [],_=>none
 |p::l,i=>if p.1=k then some (i,p.2)else fk k l (i+1)
def gQ (l:List (K×β)) (k:K):Option β:=(fk k l 0).map (·.2)
def gf (l:List (K×β)) (k:K) (v:β):List (K×β):=match fk k l 0 with|some (i,_)=>l.set i (k,v)|none=>l++[(k,v)]
theorem nNi(k:K):∀(l:List (K×β)) (i j:Nat),fk k l (i+j)=(fk k l i).map λp=>(p.1+j,p.2)
 | [],_,_=>rfl
 |p::l,i,j=>by
  unfold fk;split
  ·rfl
  rw[show i+j+1=i+1+j by omega];exact nNi k l (i+1) j
theorem nph(k:K)(l:List (K×β)):fk k l 1=(fk k l 0).map λp=>(p.1+1,p.2):=by
 have:=nNi k l 0 1;simpa using this
theorem WI{k:K}:∀{l:List (K×β)} {i:Nat} {v:β},fk k l 0=some (i,v)->l[i]? =some (k,v)
 | [],_,_,h=>by simp[fk]at h
 |p::l,i,v,h=>by
  unfold fk at h;split at h
  ·rename_i e;simp at h;obtain⟨rfl,rfl⟩:=h;subst e;simp
  rw[nph]at h;obtain⟨q,hq,e⟩:=wu.1 h;obtain⟨j,u⟩:=q;simp at e;obtain⟨rfl,rfl⟩:=e;simpa using WI hq
theorem npf{k:K}:∀{l:List (K×β)} {i:Nat},fk k l i=none↔k∉l.map (·.1):=
 by intro x;induction x<;>(intros;grind [fk])
theorem nYg{l:List (K×β)}{k:K}:gQ l k=none↔k∉l.map (·.1):=by
 unfold gQ;rw[Option.map_eq_none_iff];exact npf
theorem XB(p:K×β)(l:List (K×β))(k:K):gQ (p::l) k=if p.1=k then some p.2 else gQ l k:=by
 unfold gQ;conv=>lhs;rw[fk]
 split
 ·rfl
 rw[nph];cases fk k l 0<;>rfl
theorem I3(l J:List (K×β))(k:K):gQ (l++J) k=(gQ l k).or (gQ J k):=by induction l<;>grind [gQ,fk,XB]
theorem Hr(l:List (K×β))(k:K)(v:β)(j:K):gQ (gf l k v) j=if j=k then some v else gQ l j:=by
 unfold gf;cases hi:fk k l 0 with
 |none=>
  simp only;rw[I3,XB];have h1:=npf.1 hi;by_cases e:j=k
  ·subst e;rw[nYg.2 h1];simp
  rw[if_neg e,if_neg (λx=>e x.symm)];cases gQ l j<;>simp[gQ,fk]
 |some q=>
  obtain⟨i,u⟩:=q;simp only;induction l generalizing i with
  |nil=>simp[fk]at hi
  |cons p l ih=>
   unfold fk at hi;split at hi
   ·rename_i e;simp at hi;obtain⟨rfl,rfl⟩:=hi;simp only[dA];rw[XB,XB,e];exact zhi
   rename_i e;rw[nph]at hi;obtain⟨q,hq,e3⟩:=wu.1 hi;obtain⟨j',u'⟩:=q;simp at e3;obtain⟨rfl,rfl⟩:=e3;simp only[eh];rw[XB,XB,ih j' hq];by_cases e2:j=k
   ·simp[e2,e]
   simp[e2]
theorem nwk(l:List (K×β))(k:K)(v:β):(gf l k v).map (·.1)=if k∈l.map (·.1)then l.map (·.1)else l.map (·.1)++[k]:=by
 unfold gf;cases hi:fk k l 0 with
 |none=>rw[if_neg (npf.1 hi)];simp
 |some q=>
  obtain⟨i,u⟩:=q;have h1:=WI hi;exact zbh
theorem nsg{l:List (K×β)}{k:K}{v:β}(h:(l.map (·.1)).Nodup):((gf l k v).map (·.1)).Nodup:=by grind [nwk]
structure Mq where
 bs:List Nat
 c:Nat
def mY (ek:K->Value) (ev:β->Value) (l:List (K×β)) (bs:List Nat):List MapEntry:=(l.zip bs).map λp=>{key:=ek p.1.1,val:=ev p.1.2,born:=p.2}
def Mq.obj (ek:K->Value) (ev:β->Value) (l:List (K×β)) (m:Mq):Obj:=.map (mY ek ev l m.bs).toArray m.c
structure Mq.Ok (l:List (K×β)) (m:Mq):Prop where
 len:m.bs.length=l.length
 lt:∀b∈m.bs,b<m.c
 nd:m.bs.Nodup
 keys:(l.map (·.1)).Nodup
variable {bs:List Nat}
theorem N9{ev:β->Value}{l:List (K×β)}(h:bs.length=l.length):(mY ek ev l bs).length=l.length:=by simp[mY,h]
theorem Vd{ev:β->Value}{l:List (K×β)}(h:bs.length=l.length)(i:Nat):(mY ek ev l bs)[i]? =(l[i]?).map λp=>{key:=ek p.1,val:=ev p.2,born:=bs.getD i 0}:=by grind [mY]
theorem nIi{P:Program}{kt:Nat}(hK:xf P kt ek)(ev:β->Value)(k:K)(W:World):∀(l:List (K×β)) (bs:List Nat) (i:Nat),bs.length=l.length->(Instr.findAsking kt (ek k) (mY ek ev l bs) i).run P W= .ok ((fk k l i).map λp=>(p.1,ev p.2)) W
 | [],_,_,_=>by simp[mY,Instr.findAsking,fk]
 |p::l,[],_,h=>by simp at h
 |p::l,b::bs,i,h=>by
  have ih:=nIi hK ev k W l bs (i+1) BT;simp only[mY,List.zip_cons_cons,dP,Instr.findAsking,Sem.run_bind,hK.eq,Result.andThen]at ih ⊢;unfold fk;by_cases e:p.1=k
  ·rw[if_pos e,if_pos (by simp[e])];simp
  rw[if_neg e,if_neg (by simp;exact λx=>e x.symm)];exact ih
variable {kt:Nat} {P:Program} {W:World}
theorem nPi(hK:xf P kt ek)(ev:β->Value)(k:K){l:List (K×β)}(h:bs.length=l.length):(Instr.findKey kt (ek k) (mY ek ev l bs)).run P W= .ok ((fk k l 0).map λp=>(p.1,ev p.2)) W:=by
 obtain⟨J,hU,hn⟩:=hK.und;cases l with
 |nil=>simp[Instr.findKey,run_underlying hU,mY,Instr.findNow,fk]
 |cons p l=>
  cases bs with
  |nil=>simp at h
  |cons b bs=>
   have h1:=nIi hK ev k W (p::l) (b::bs) 0 h;have h2:Instr.findNow J (ek k) (mY ek ev (p::l) (b::bs)) 0=none:=by
    simp only[mY,List.zip_cons_cons,dP,Instr.findNow,hn]
   simp only[Instr.findKey,Sem.run_bind,run_underlying hU,Result.andThen,h2,h1]
end
section
variable {C:Cx} {Q:bE} {E:Env} {D:List Deferred} {G:Gh} {L:List World} {H:ad} {ops:Array Oper} {l:List Oper}
variable {d T ty:Nat} {pos:String} {aE:Array Edge} {g:Option (Nat×Bool)} {x y z:Operand}
variable {K:Type} [DecidableEq K] {ek:K->Value} {β:Type} {ev:β->Value} {kv:List (K×β)} {m:Mq}
theorem Mq.nil:(Mq.mk [] 0).Ok ([]:List (K×β)):=⟨rfl,by simp,by simp,by simp⟩
theorem Mq.nil_obj:(Mq.mk [] 0).obj ek ev []= .map #[] 0:=rfl
variable {b et kt:Nat} {P:Program} {zv:Value} {W:World}
theorem nzn{k:K}(c:Bool)(hU:P.underlying T=some (.map kt et))(hK:xf P kt ek)(hz:AF P et zv)(hm:m.Ok kv)(hb:W.heap[b]? =some (m.obj ek ev kv)):(Instr.lookup T (.map (some b)) (ek k) c).run P W= .ok (if c then .tuple #[((gQ kv k).map ev).getD zv,.bool (gQ kv k).isSome]else((gQ kv k).map ev).getD zv) W:=by
 have eQ:W.heap[b]? =some (.map (mY ek ev kv m.bs).toArray m.c):=hb;have h1:=nPi (P:=P) (W:=W) hK ev k hm.len;have e:gQ kv k=(fk k kv 0).map (·.2):=rfl;cases hi:fk k kv 0 with
 |none=>
  rw[hi]at h1;have e1:gQ kv k=none:=by rw[e,hi];rfl
  cases c<;>simp[Instr.lookup,run_underlying hU,IW eQ,hK.chk,h1,hz W,e1]
 |some q=>
  rw[hi]at h1;have e1:gQ kv k=some q.2:=by rw[e,hi];rfl
  cases c<;>simp[Instr.lookup,run_underlying hU,IW eQ,hK.chk,h1,e1]
theorem rk{k:K}(hU:C.P.underlying T=some (.map kt et))(hK:xf C.P kt ek)(hz:AF C.P et zv)(hm:m.Ok kv)(hb:bF G L H b (m.obj ek ev kv))(hx:Px.ev E x=some (.map (some b)))(hy:Px.ev E y=some (ek k)):RV C G L H E (.lookup T x y false) (((gQ kv k).map ev).getD zv):=λd ty pos aE g a W hF hS=>by
 have:=nzn (W:=W) (k:=k) false hU hK hz hm (hb W hS);simp[execOp,hF.ev hx,hF.ev hy,this]
variable {t:Nat}
theorem Bs(hU:C.P.underlying t=some (.map kt et))(hm:m.Ok kv)(hb:bF G L H b (m.obj ek ev kv))(hx:Px.ev E x=some (.map (some b))):RV C G L H E (.call ⟨.builtin .len,#[x],#[t]⟩) (.int .i64 (kv.length:Int)):=λd ty pos aE g a W hF hS=>by
 have eQ:W.heap[b]? =some (.map (mY ek ev kv m.bs).toArray m.c):=hb W hS;simp[execOp,hF.ev hx,resolve,invoke,Deferred.ofValue,builtin,Builtin.len_,run_underlying hU,goInt,IW eQ,N9 hm.len]
variable {i:Nat}
theorem nYi{k:K}{v:β}(hi:H[i]? =some (b,m.obj ek ev kv))(hm:m.Ok kv)(hU:C.P.underlying T=some (.map kt et))(hK:xf C.P kt ek)(hw:nr ops E g=some true)(hx:Px.ev E x=some (.map (some b)))(hy:Px.ev E y=some (ek k))(hz:Px.ev E z=some (ev v))(kk:∀m':Mq,m'.Ok (gf kv k v)->OJ C ops Q l E D G L (H.set i (b,m'.obj ek ev (gf kv k v)))):OJ C ops Q (⟨none,.mapUpdate T x y z,ty,pos,aE,g⟩::l) E D G L H:=by
 have h1:=λW:World=>nPi (P:=C.P) (W:=W) hK ev k hm.len;cases hk:fk k kv 0 with
 |none=>
  have e:gf kv k v=kv++[(k,v)]:=by unfold gf;rw[hk]
  have iU:(Mq.mk (m.bs++[m.c]) (m.c+1)).Ok (gf kv k v):=by
   refine⟨by rw[e];simp[hm.len],λb hb=>?_,?_,nsg hm.keys⟩
   ·exact z2h
   exact zOh
  refine NK rfl zI hw (λa W hF hS=>?_) (kk _ iU);have hb:=hS.own _ (cu hi);have hlt:b<W.heap.size:=(bB.1 hb).1;have eQ:W.heap[b]? =some (.map (mY ek ev kv m.bs).toArray m.c):=hb;refine⟨.skip,_,.inl rfl,?_,hS.put hi (JP W b _) (World.putObj_heap_same hlt)⟩;have h2:=h1 W;rw[hk]at h2;have e2:((mY ek ev kv m.bs).toArray.push {key:=ek k,val:=ev v,born:=m.c})=(mY ek ev (gf kv k v) (m.bs++[m.c])).toArray:=by
   rw[e];apply Array.ext';simp only[mY,Array.toList_push];rw[List.zip_append hm.len.symm];simp
  simp[execOp,hF.ev hx,hF.ev hy,hF.ev hz,Instr.mapUpdate,run_underlying hU,IW eQ,hK.chk,h2,Xy _ eQ,e2,Mq.obj]
 |some q=>
  obtain⟨j,u⟩:=q;have e:gf kv k v=kv.set j (k,v):=by unfold gf;rw[hk]
  have iU:m.Ok (gf kv k v):=⟨by rw[e];simp[hm.len],hm.lt,hm.nd,nsg hm.keys⟩;refine NK rfl zI hw (λa W hF hS=>?_) (kk _ iU);have hb:=hS.own _ (cu hi);have hlt:b<W.heap.size:=(bB.1 hb).1;have eQ:W.heap[b]? =some (.map (mY ek ev kv m.bs).toArray m.c):=hb;refine⟨.skip,_,.inl rfl,?_,hS.put hi (JP W b _) (World.putObj_heap_same hlt)⟩;have h2:=h1 W;rw[hk]at h2;have h3:=WI hk;have h4:=Vd (ek:=ek) (ev:=ev) hm.len j;rw[h3]at h4;have J:((((mY ek ev kv m.bs).toArray[j]?).map (·.key)).getD (ek k))=ek k:=by simp[h4]
  have hs:Instr.sameBits 10000 (ek k) (ek k)=true:=hK.bits k;have e2:((mY ek ev kv m.bs).toArray.modify j λen=>{en with key:=ek k,val:=ev v})=(mY ek ev (gf kv k v) m.bs).toArray:=by
   rw[e];apply Array.ext';apply C9;intro i';simp only[Array.toList_modify,List.getElem?_modify];rw[Vd hm.len,Vd (by simp[hm.len]),axr];exact zii
  simp only[execOp,hF.ev hx,hF.ev hy,hF.ev hz,Instr.mapUpdate,Sem.run_bind,run_underlying hU,Result.andThen,IW eQ,hK.chk,h2,KB,J,Instr.keyThatStays,hs,if_true,Sem.run_pure,Xy _ eQ,e2];rfl
theorem LI(ek:K->Value)(ev:β->Value)(hw:nr ops E g=some true)(hN:Nat.blt d C.N=true)(k:∀(b:Nat),ah L b->bN H b->OJ C ops Q l ((d,.map (some b))::E) D G L ((b,(Mq.mk [] 0).obj ek ev [])::H)):OJ C ops Q (⟨some d,.makeMap T none,ty,pos,aE,g⟩::l) E D G L H:=
 rn zI hw hN λa W _ hS=>⟨.map (some W.heap.size),W.alloc ((Mq.mk [] 0).obj ek ev []),_,_,by simp[execOp,Instr.makeMap,Mq.nil_obj],hS.alloc _,k W.heap.size hS.sizes hS.offNew⟩
end
/-! ### digests, as_ keys of maps -/
abbrev Dk:={l:List Int // l.length=32}
def vy (k:Dk):Value:=.agg (k.1.map (Value.int .u8)).toArray
theorem WH:∀kR bs:List Int,kR.length=bs.length->oY (kR.map (Value.int .u8)) (bs.map (Value.int .u8))=decide (kR=bs)
 | [],[],_=>rfl
 |a::kR,b::bs,h=>by
  simp only[dP,oY,Q0,WH kR bs BT];by_cases h1:a=b<;>by_cases h2:kR=bs<;>simp[h1,h2]
 | [],_::_,h=>by simp at h
 |_::_,[],h=>by simp at h
theorem n8f:∀(n:Nat) (kR bs:List Int),kR.length=n->bs.length=n->kM (mH n [.i]) (kR.map (Value.int .u8)) (bs.map (Value.int .u8))=true
 |0,[],[],_,_=>rfl
 |n+1,a::kR,b::bs,h,J=>by
  have:=n8f n kR bs BT (by simpa using J);simp only[mH,iv,eY,dP,kM,U7,this];simp
 |0,_::_,_,h,_=>by simp at h
 |0,[],_::_,_,h=>by simp at h
 |n+1,[],_,h,_=>by simp at h
 |n+1,_::_,[],_,h=>by simp at h
variable {t:Nat} {P:Program}
theorem Oa{len e:Nat}{k:IntKind}(hU:P.underlying t=some (.array len e))(hE:P.underlying e=some (.int k))(hZ:nL P e 1)(hA:fb P e false)(em:Bool)(cs:List Value)(hl:cs.length=len)(W:World):(Instr.checkKey em 10000 t (.agg cs.toArray)).run P W= .ok () W:=by
 show(Instr.checkKey em (9998+1+1) t (.agg cs.toArray)).run P W= .ok () W;generalize 9998=n;exact zmg
theorem nzk(n:Nat):∀kR:List Int,((kR.map (Value.int .u8)).zip (kR.map (Value.int .u8))).all (λp=>Instr.sameBits n p.1 p.2)=true
 | []=>rfl
 |a::kR=>by
  have:=nzk n kR;simp only[dP,List.zip_cons_cons,List.all_cons,this,Bool.and_true];cases n<;>simp[Instr.sameBits]
theorem aaa{e:Nat}(hU:P.underlying t=some (.array 32 e))(hE:P.underlying e=some (.int .u8))(hZ:nL P e 1)(hA:fb P e false):xf P t vy where
 und:=⟨_,hU,λk v=>by cases v<;>rfl⟩
 chk:=λb k W=>Oa hU hE hZ hA b _ (by simp[k.2]) W
 eq:=λk k' W=>by
  have h:=u2.array hU hZ (ks:=[.i]) rfl (mU.int hE hA) 9998 (k.1.map (Value.int .u8)) (k'.1.map (Value.int .u8)) W (n8f 32 _ _ k.2 k'.2);have e:decide (k=k')=decide (k.1=k'.1):=by simp only[Subtype.ext_iff]
  rw[e,<-WH _ _ (by rw[k.2,k'.2])];exact h
 bits:=λk=>by
  show Instr.sameBits (9999+1) (vy k) (vy k)=true;generalize 9999=n;simp only[vy,Instr.sameBits,beq_self_eq_true,Bool.true_and];exact nzk n k.1
/-! ### slices whose blocks are frozen -/
def iN {α:Type} (enc:α->Array Value) (n:Nat) (F:ad) (a:Option Addr) (xs:List α):Prop:=
 xs=[]\/∃b off cs t fr,a=some ⟨b,off,none⟩/\(b,Obj.cells cs t fr)∈F/\∀i (h:i<xs.length),off+i*n+n<=cs.size/\cut cs (off+i*n) n=enc xs[i]
section
variable {α:Type} {enc:α->Array Value} {n N K:Nat} {w W:World} {a:Option Addr} {xs:List α} {F F':ad} {L:List World} {H:ad}
theorem iN.mono(h:iN enc n F a xs)(hF:∀p∈F,p∈F'):iN enc n F' a xs:=by
 rcases h with h|⟨b,off,cs,t,fr,h1,h2,h3⟩
 ·exact .inl h
 exact .inr ⟨b,off,cs,t,fr,h1,hF _ h2,h3⟩
theorem iN.at(h:iN enc n F a xs)(hW:∀p∈F,p.1<N/\W.heap[p.1]? =some p.2):ai enc n N W a xs:=by
 rcases h with h|⟨b,off,cs,t,fr,h1,h2,h3⟩
 ·exact .inl h
 exact .inr ⟨b,off,cs,t,fr,h1,(hW _ h2).1,(hW _ h2).2,h3⟩
theorem ai.fs(h:ai enc n N w a xs)(hn:∀q,a=some q->K<=q.block):∃F,(∀p∈F,K<=p.1/\w.heap[p.1]? =some p.2)/\iN enc n F a xs:=by
 rcases h with h|⟨b,off,cs,t,fr,h1,h2,h3,h4⟩
 ·exact⟨[],by simp,.inl h⟩
 refine⟨[(b,.cells cs t fr)],λp hp=>?_,.inr ⟨b,off,cs,t,fr,h1,by simp,h4⟩⟩;simp only[fC]at hp;subst hp;exact⟨hn _ h1,h3⟩
theorem iN.ge(h:iN enc n F a xs)(hF:∀p∈F,K<=p.1):∀q,a=some q->xs=[]\/K<=q.block:=by
 intro q hq;rcases h with h|⟨b,off,cs,t,fr,h1,h2,h3⟩;all_goals grind
theorem St.fzLies(h:St (dJ F) L H W):∀p∈F,p.1<W.heap.size/\W.heap[p.1]? =some p.2:=λp hp=>⟨(bB.1 (h.ghost p hp)).1,h.ghost p hp⟩
theorem St.fzAdd{W':World}(h:St (dJ F) L H W)(hb:Below W.heap.size W W')(hF:∀p∈F',W.heap.size<=p.1/\W'.heap[p.1]? =some p.2):St (dJ (F'++F)) L H W':=by
 have h1:=h.step hb;refine⟨λp hp=>?_,λk hk=>?_,λk hk=>hk.elim,h1.links,h1.own,h1.nodup,λp hp hv=>?_⟩
 ·rcases aY.1 hp with hp|hp
  ·exact(hF p hp).2
  exact h1.ghost p hp
 ·obtain⟨p,hp,rfl⟩:=bU.1 hk;rcases aY.1 hp with hp|hp
  ·exact(bB.1 (hF p hp).2).1
  exact h1.vlt p.1 (bU.2 ⟨p,hp,rfl⟩)
 obtain⟨q,hq,e⟩:=bU.1 hv;rcases aY.1 hq with hq|hq
 ·have:=(hF q hq).1;have:=h.lt p hp;omega
 exact h1.apart p hp (bU.2 ⟨q,hq,e⟩)
end
section
variable {C:Cx} {Q:bE} {E:Env} {D:List Deferred} {L:List World} {H F:ad} {ops:Array Oper} {l:List Oper}
variable {d ty f:Nat} {pos:String} {aE:Array Edge} {g:Option (Nat×Bool)} {xo:List Operand} {vs:List Value} {eL:Array Nat}
theorem Pe{γ:Type}{v:γ->Value}{Φ:ad->γ->Prop}(aB:eV C.P f)(hw:nr ops E g=some true)(hN:Nat.blt d C.N=true)(ha:jy E xo=some vs)(hc:∀W,St (dJ F) L H W->Calls C.P f vs.toArray W (λe w'=>∃x F',e= .returned (v x)/\Below W.heap.size W w'/\(∀p∈F',W.heap.size<=p.1/\w'.heap[p.1]? =some p.2)/\Φ F' x))(k:∀x F',Φ F' x->(∀p∈F',ah L p.1)->OJ C ops Q l ((d,v x)::E) D (dJ (F'++F)) L H):OJ C ops Q (⟨some d,.call ⟨.value (.func f),xo.toArray,eL⟩,ty,pos,aE,g⟩::l) E D (dJ F) L H:=
 nK rfl hw rfl ha zI aB λa W jz hD hF hS=>(hc W hS).mono (by
  rintro ed W' ⟨x,F',rfl,hb,J,hx⟩;exact k x F' hx (λp hp=>CK hS (J p hp).1) (a.put (some d) (v x)) W' z7 z5 (hF.put _ z6) (hS.fzAdd hb J))
variable {G:Gh} {m:Nat} {v:Value->Value}
theorem MB{α:Type}{enc:α->List Value}{Φ:World->World->List α->Prop}(aB:eV C.P f)(hw:nr ops E g=some true)(hN:Nat.blt d C.N=true)(ha:jy E xo=some vs)(hm:∀x,(enc x).length=m)(hc:∀W,St G L H W->Calls C.P f vs.toArray W (λe w'=>∃xs,Φ W w' xs/\aD W enc m t xs v e w'))(k:∀W (xs:List α) a cp w1,St G L H W->Below W.heap.size W w1->Φ W w1 xs->ai (λx=>(enc x).toArray) m w1.heap.size w1 a xs->(∀b,a=some b->W.heap.size<=b.block)->OJ C ops Q l ((d,v (.slice a xs.length cp))::E) D G (w1::L) H):OJ C ops Q (⟨some d,.call ⟨.value (.func f),xo.toArray,eL⟩,ty,pos,aE,g⟩::l) E D G L H:=
 nK rfl hw rfl ha zI aB λac W jz hD hF hS=>(hc W hS).mono (by
  rintro ed W' ⟨xs,hΦ,r,rfl,hb,J,bQ,fF⟩;obtain⟨a,cp,he,aI⟩:=r.sl hm bQ fF (aj _);have:=k W xs a cp W' hS hb hΦ aI (by
   intro b qP;cases r with
   |nil=>simp only[Rw.val,Value.slice.injEq]at he;rw[<-he.1]at qP;cases qP
   |row b' cap sp=>simp only[Rw.val,Value.slice.injEq]at he;rw[<-he.1]at qP;cases qP;exact J) (ac.put (some d) (v (.slice a xs.length cp))) W' z7 z5 (hF.put _ z6) (hS.step hb).snap
  rw[he];exact this)
end
/-! ### walks that say the world exactly -/
section
variable (C:Cx)
def PX (Q:bE) (e:Exit) (E:Env) (T:World->Prop):Prop:=∀a W,a.tmps.size=C.N->a.defers=[]->Fits E a->T W->Q e a W
def CX (c:Code) (Q:bE) (E:Env) (T:World->Prop):Prop:=∀a W,a.tmps.size=C.N->a.defers=[]->Fits E a->T W->c.wpIn (FW C.r) 0 C.P Q a W
def OX (ops:Array Oper) (Q:bE) (l:List Oper) (E:Env) (T:World->Prop):Prop:=∀a W,a.tmps.size=C.N->a.defers=[]->Fits E a->T W->wpListIn (FW C.r) 0 C.P ops Q l a W
end
section
variable {C:Cx} {Q:bE} {E E':Env} {T:World->Prop} {ops:Array Oper} {l:List Oper}
theorem CX.region{id:Nat}(h:OX C l.toArray Q l E T):CX C (.region id l.toArray false) Q E T:=λa W hN hD hF hS=>wpIn_region_lit (h a W hN hD hF hS)
theorem CX.seq{x y:Code}(h:CX C x (Exit.then (y.wpIn (FW C.r) 0 C.P Q) Q) E T):CX C (.seq x y) Q E T:=λa W hN hD hF hS=>wpIn_seq (h a W hN hD hF hS)
theorem CX.block{id:Nat}{c:Code}(h:CX C c (Exit.inBlock id Q) E T):CX C (.block id c) Q E T:=λa W hN hD hF hS=>wpIn_block (h a W hN hD hF hS)
theorem CX.skip(h:PX C Q .normal E T):CX C .skip Q E T:=λa W hN hD hF hS=>wpIn_skip (h a W hN hD hF hS)
theorem CX.ret(h:PX C Q .ret E T):CX C .ret Q E T:=λa W hN hD hF hS=>wpIn_ret (h a W hN hD hF hS)
theorem CX.exit{id:Nat}(h:PX C Q (.exit id) E T):CX C (.exit id) Q E T:=λa W hN hD hF hS=>wpIn_exit (h a W hN hD hF hS)
theorem PX.next{y:Code}(h:CX C y Q E T):PX C (Exit.then (y.wpIn (FW C.r) 0 C.P Q) Q) .normal E T:=h
theorem OX.done(h:PX C Q .normal E T):OX C ops Q [] E T:=h
theorem CX.condT{c:Operand}{x y:Code}(hc:ev E c=some (.bool true))(h:CX C x Q E T):CX C (.cond c x y) Q E T:=λa W hN hD hF hS=>wpIn_cond_true (hF.ev hc) (h a W hN hD hF hS)
theorem CX.condF{c:Operand}{x y:Code}(hc:ev E c=some (.bool false))(h:CX C y Q E T):CX C (.cond c x y) Q E T:=λa W hN hD hF hS=>wpIn_cond_false (hF.ev hc) (h a W hN hD hF hS)
theorem PX.retThen{R:Act->World->Prop}(h:PX C Q .ret E T):PX C (Exit.then R Q) .ret E T:=h
theorem PX.exThen{R:Act->World->Prop}{id:Nat}(h:PX C Q (.exit id) E T):PX C (Exit.then R Q) (.exit id) E T:=h
theorem PX.retBlock{id:Nat}(h:PX C Q .ret E T):PX C (Exit.inBlock id Q) .ret E T:=h
theorem PX.norBlock{id:Nat}(h:PX C Q .normal E T):PX C (Exit.inBlock id Q) .normal E T:=h
theorem PX.exHit{id:Nat}(h:PX C Q .normal E T):PX C (Exit.inBlock id Q) (.exit id) E T:=λa W hN hD hF hS=>by
 simp only[Exit.inBlock];have:=h a W hN hD hF hS;simpa using this
theorem OX.fix(h:∀W1,T W1->OX C ops Q l E (· =W1)):OX C ops Q l E T:=λa W hN hD hF hS=>h W hS a W hN hD hF rfl
variable {aE:Array Edge} {L:List World} {g:Option (Nat×Bool)} {pos:String}
theorem qo{o:Op}{d ty:Nat}{v:Value}(hT:∀W,T W->St Gh.no L [] W)(hnd:JO o=true)(hw:nr ops E g=some true)(hN:Nat.blt d C.N=true)(h:RV C Gh.no L [] E o v)(k:OX C ops Q l ((d,v)::E) T):OX C ops Q (⟨some d,o,ty,pos,aE,g⟩::l) E T:=by
 intro a W jz hD hF hS;have hr:=h d ty pos aE g a W hF (hT W hS);unfold wpListIn;rw[if_pos (BL hF hw)];refine⟨λ_ _=>trivial,?_⟩;rw[Oper.semAt_eq _ _ _ (IF hnd),hr,Oper.uponIn_value];exact k (a.put (some d) v) W z7 z5 (hF.put _ z6) hS
variable {x:Operand}
theorem aal{d ty:Nat}{v:Value}(hw:nr ops E g=some true)(hN:Nat.blt d C.N=true)(hx:ev E x=some v)(k:∀W,T W->OX C ops Q l ((d,ptr W.heap.size 0)::E) (· =W.alloc (.cells v.cells t (0,0)))):OX C ops Q (⟨some d,.box t x,ty,pos,aE,g⟩::l) E T:=by
 intro a W jz hD hF hS;have hr:(execOp a.eval ⟨some d,.box t x,ty,pos,aE,g⟩).run C.P W= .ok (.value (ptr W.heap.size 0)) (W.alloc (.cells v.cells t (0,0))):=nWj (hF.ev hx);unfold wpListIn;rw[if_pos (BL hF hw)];refine⟨λ_ _=>trivial,?_⟩;rw[Oper.semAt_eq _ _ _ zI,hr,Oper.uponIn_value];exact k W hS (a.put (some d) (ptr W.heap.size 0)) _ z7 z5 (hF.put _ z6) rfl
variable {cap first vs:List Value}
theorem Sy{d f ty:Nat}{xs:List Operand}{eL:Array Nat}{v:Value}{T':World->Prop}(hx:ev E x=some (.func (.func f) first.toArray cap.toArray))(aB:eV C.P f)(hw:nr ops E g=some true)(hN:Nat.blt d C.N=true)(ha:jy E xs=some vs)(hc:∀W,T W->Calls C.P f (first++vs++cap).toArray W (λe w'=>e= .returned v/\T' w'))(k:OX C ops Q l ((d,v)::E) T'):OX C ops Q (⟨some d,.call ⟨.value x,xs.toArray,eL⟩,ty,pos,aE,g⟩::l) E T:=by
 intro a W jz hD hF hS;unfold wpListIn;rw[if_pos (BL hF hw)];refine⟨λ_ _=>trivial,?_⟩;have hr:(execOp a.eval ⟨some d,.call ⟨.value x,xs.toArray,eL⟩,ty,pos,aE,g⟩).run C.P W= .ok (.enter f (first++vs++cap).toArray) W:=by
  have h2:(xs.toArray).map a.eval=vs.toArray:=by rw[DP,NL hF xs vs ha]
  simp only[execOp,resolve,hF.ev hx,Deferred.ofValue,h2];have h3:=aB (first++vs++cap).toArray W;simp only[iY]at h3 ⊢;simp[invoke,h3]
 rw[Oper.semAt_eq _ _ _ zI,hr,Oper.uponIn_enter];refine⟨by simp,NJ.2 ((hc W hS).mono ?_)⟩;rintro e W' ⟨rfl,h⟩;exact k (a.put (some d) v) W' z7 z5 (hF.put _ z6) h
def Qa {α:Type} (C:Cx) (Ei:α->Env) (Ti:α->World->Prop) (ok:α->Prop) (μ:α->Nat) (x:α):Act->World->Prop:=λa W=>
 ∃x',ok x'/\μ x'<μ x/\a.tmps.size=C.N/\a.defers=[]/\Fits (Ei x') a/\Ti x' W
theorem CX.loop{α:Type}{c:Code}(Ei:α->Env)(Ti:α->World->Prop)(ok:α->Prop)(μ:α->Nat)(J:α)(h0:ok J)(hE:Sub (Ei J) E)(hT:∀W,T W->Ti J W)(round:∀x,ok x->CX C c (Exit.then (Qa C Ei Ti ok μ x) Q) (Ei x) (Ti x)):CX C (.loop c) Q E T:=by
 intro a W hN hD hF hS
 let Inv:Act->World->Nat->Prop:=λa W m=>∃x,μ x=m/\ok x/\a.tmps.size=C.N/\a.defers=[]/\Fits (Ei x) a/\Ti x W
 refine wpIn_loop (λa W=>∃m,Inv a W m) (λa W=>UQ (Inv a W)) ⟨_,J,rfl,h0,hN,hD,hE.fits hF,hT W hS⟩ ?_;exact zog
theorem PX.again{α:Type}{Ei:α->Env}{J:α->World->Prop}{ok:α->Prop}{μ:α->Nat}{x:α}(x':α)(h0:ok x')(hlt:μ x'<μ x)(hE:Sub (Ei x') E)(hT:∀W,T W->J x' W):PX C (Exit.then (Qa C Ei J ok μ x) Q) .normal E T:=λa W hN hD hF hS=>⟨x',h0,hlt,hN,hD,hE.fits hF,hT W hS⟩
variable {R:Ending->World->Prop} {e:Exit} {fn:Func}
theorem Be{v:Value}(he:e= .ret\/e= .normal)(hr:fn.results=#[.tmp t])(hv:look E t=some v)(h:∀W,T W->R (.returned v) W):PX C (bodyPost C.P fn R) e E T:=by
 intro a W hN hD hF hS;have:bodyPost C.P fn R .ret a W:=⟨hD,v,by rw[results_tmp hr];exact congrArg (λu=>Result.ok u W) (hF t v hv),h W hS⟩;rcases he with rfl|rfl<;>exact this
end
variable {R:Ending->World->Prop} {fn:Func} {vs:List Value} {N:Nat} {w:World}
theorem Ge{f:Nat}{c:Code}(hf:P.funcs[f]? =some fn)(hb:fn.body=some c)(hN:fn.ntmps=N)(hl:Nat.ble vs.length N=true)(h:CX ⟨P,none,N⟩ c (bodyPost P fn R) (yx 0 vs) (· =w)):Calls P f vs.toArray w R:=by
 rw[<-NJ (r:=none) (n:=0)];refine callsIn_of_wp hf hb trivial (h _ w ?_ rfl ?_ rfl)
 ·have:=er hl;simp[hN];omega
 exact npc vs _
def Gz (w0:World) (W:World):Prop:=∃q os,W=Sort.grow (w0.drewN q) os
theorem Gz.refl(w:World):Gz w w:=⟨0,#[],by simp[Sort.grow,World.drewN]⟩
theorem Gz.trans{a b c:World}(h:Gz a b)(k:Gz b c):Gz a c:=by
 obtain⟨q,os,rfl⟩:=h;obtain⟨q',J,rfl⟩:=k;exact⟨q+q',os++J,by simp[Sort.grow,World.drewN,Nat.add_assoc]⟩
theorem Gz.alloc(w:World)(o:Obj):Gz w (w.alloc o):=⟨0,#[o],by rw[Sort.alloc_eq_grow];simp[Sort.grow,World.drewN]⟩
variable {W:World}
theorem Gz.below(h:Gz w W):Below w.heap.size w W:=by
 obtain⟨q,os,rfl⟩:=h;refine⟨rfl,rfl,rfl,by simp[Sort.grow,World.drewN],?_,λk hk=>?_⟩
 ·simp[Sort.grow,World.drewN]
 simp only[Sort.grow,World.drewN];rw[WM hk]
variable {L:List World}
theorem O8(h:∀w∈L,Below w.heap.size w W):St Gh.no L [] W:=
 ⟨trivial,λ_ h=>h.elim,λ_ h=>h.elim,λw' hw=>(aT.of_below (X:=λk=>Gh.no.X k\/k∈([]:ad).map (·.1)) (h w' hw)),λ_ h=>by simp at h,λ_ _ _ _ h=>by simp at h,λ_ h=>by simp at h⟩
end Px

namespace Px
open Go Go.RowKit
/-! ### ranging over maps with any keys -/
section
variable {C:Cx} {Q:bE} {E:Env} {D:List Deferred} {G:Gh} {L:List World} {H:ad} {ops:Array Oper} {l:List Oper}
variable {d T ty:Nat} {pos:String} {aE:Array Edge} {g:Option (Nat×Bool)} {x y z:Operand}
variable {K:Type} [DecidableEq K] {ek:K->Value} {β:Type} {ev:β->Value} {kv:List (K×β)} {m:Mq}
def Mq.it (b:Nat) (m:Mq) (js:List Nat):Obj:=.mapIter (some b) m.c (js.map λj=>m.bs.getD j 0).toArray m.c
variable {b et kt:Nat}
theorem aj5(hU:C.P.underlying T=some (.map kt et))(hb:bF G L H b (m.obj ek ev kv))(hw:nr ops E g=some true)(hN:Nat.blt d C.N=true)(hx:Px.ev E x=some (.map (some b)))(k:∀rb:Nat,ah L rb->bN H rb->OJ C ops Q l ((d,ptr rb 0)::E) D G L ((rb,m.it b [])::H)):OJ C ops Q (⟨some d,.range T x,ty,pos,aE,g⟩::l) E D G L H:=
 rn zI hw hN λa W hF hS=>by
  have eQ:W.heap[b]? =some (.map (mY ek ev kv m.bs).toArray m.c):=hb W hS;refine⟨_,_,_,_,?_,hS.alloc (m.it b []),k W.heap.size hS.sizes hS.offNew⟩;have:=run_range_map (P:=C.P) W T kt et b _ _ hU eQ;simp[execOp,hF.ev hx,this,Mq.it]
variable {js:List Nat} {i:Nat}
theorem aaG{rb:Nat}(hi:H[i]? =some (rb,m.it b js))(hm:m.Ok kv)(hb:bF G L H b (m.obj ek ev kv))(qf:∀j∈js,j<kv.length)(hw:nr ops E g=some true)(hN:Nat.blt d C.N=true)(hx:Px.ev E x=some (ptr rb 0))(k1:(∀j,j<kv.length->j∈js)->OJ C ops Q l ((d,.tuple #[.bool false])::E) D G L H)(k2:∀(j:Nat) (p:K×β),kv[j]? =some p->j∉js->OJ C ops Q l ((d,.tuple #[.bool true,ek p.1,ev p.2])::E) D G L (H.set i (rb,m.it b (js++[j])))):OJ C ops Q (⟨some d,.next x false,ty,pos,aE,g⟩::l) E D G L H:=
 rn zI hw hN λa W hF hS=>by
  have hr:W.heap[rb]? =some (.mapIter (some b) m.c (js.map λj=>m.bs.getD j 0).toArray m.c):=hS.own _ (cu hi);have eQ:W.heap[b]? =some (.map (mY ek ev kv m.bs).toArray m.c):=hb W hS;have hlt:rb<W.heap.size:=(bB.1 hr).1;have I0:∀e∈(mY ek ev kv m.bs).toArray.toList,e.born<m.c:=by
   intro e he;obtain⟨j,hj⟩:=ju.1 he;simp only at hj;rw[Vd hm.len]at hj;exact zuh
  have Xz:∀j,j<kv.length->((js.map λj=>m.bs.getD j 0).toArray.contains (m.bs.getD j 0)=true↔j∈js):=by
   exact zBg
  have hex:∀{v W'},(Instr.next (.pointer (some ⟨rb,0,none⟩)) false ty).run C.P W= .ok v W'->(execOp a.eval ⟨some d,.next x false,ty,pos,aE,g⟩).run C.P W= .ok (.value v) W':=by
   intro v W' hh;simp[execOp,hF.ev hx,hh]
  rcases run_next_at (P:=C.P) W ty rb b m.c m.c _ _ m.c hr eQ I0 (aj _)with⟨h0,gw⟩|⟨e,he,W1,P9,gw⟩
  ·refine⟨_,W,L,H,hex gw,hS,k1 λj hj=>?_⟩;apply(Xz j hj).1;apply Decidable.byContradiction;intro hn;have fF:=Vd (ek:=ek) (ev:=ev) hm.len j;rw[ll hj]at fF;have kL:=cu fF;have:(leftOf (mY ek ev kv m.bs).toArray (js.map λj=>m.bs.getD j 0).toArray)=#[]:=Array.eq_empty_of_size_eq_zero h0;exact zmh
  unfold leftOf at he;rw[Array.toList_filter,xh]at he;obtain⟨cN,bY⟩:=he;obtain⟨j,hj⟩:=ju.1 cN;simp only at hj;rw[Vd hm.len]at hj;obtain⟨p,hp,rfl⟩:=wu.1 hj;have C8:=(hJ.1 hp).1;have hn:j∉js:=λh=>by
   exact zyh
  have J:St G L H W1:=by
   rcases P9 with rfl|rfl
   ·exact hS
   exact hS.step (ER W _)
  have Vb:rb<W1.heap.size:=(bB.1 (J.own _ (cu hi))).1;have CZ:=J.put hi (JP W1 rb (m.it b (js++[j]))) (World.putObj_heap_same Vb);refine⟨_,_,L,_,hex gw,?_,k2 j p hp hn⟩;have e1:ChangeMaps.setBlock W1 rb (.mapIter (some b) m.c ((js.map λj=>m.bs.getD j 0).toArray.push (m.bs.getD j 0)) m.c)=W1.putObj rb (m.it b (js++[j])):=by
   simp[ChangeMaps.setBlock,World.putObj,Mq.it]
  rw[e1];exact CZ
variable {j:Nat}
theorem SP{rb:Nat}{p:K×β}(hi:H[i]? =some (rb,m.it b (js++[j])))(hm:m.Ok kv)(hb:bF G L H b (m.obj ek ev kv))(hp:kv[j]? =some p)(hx:Px.ev E x=some (ptr rb 0)):RV C G L H E (.entry x) (.tuple #[ek p.1,ev p.2]):=λd ty pos aE g a W hF hS=>by
 have hr:W.heap[rb]? =some (.mapIter (some b) m.c (((js++[j]).map λj=>m.bs.getD j 0).toArray) m.c):=hS.own _ (cu hi);have eQ:W.heap[b]? =some (.map (mY ek ev kv m.bs).toArray m.c):=hb W hS;have fF:=Vd (ek:=ek) (ev:=ev) hm.len j;rw[hp]at fF;have hnd:((mY ek ev kv m.bs).toArray.toList.map (·.born)).Nodup:=by
  have:(mY ek ev kv m.bs).toArray.toList.map (·.born)=m.bs:=by
   simp only[mY,List.map_map];rw[show((λx:MapEntry=>x.born)∘λp:(K×β)×Nat=>({key:=ek p.1.1,val:=ev p.1.2,born:=p.2}:MapEntry))=Prod.snd from rfl];rw[List.map_snd_zip];exact Nat.le_of_eq hm.len
  rw[this];exact hm.nd
 exact zCh
end
variable {t:Nat} {P:Program}
/-! ### keys of maps that are structs -/
theorem GA{len e n:Nat}{k:IntKind}(hU:P.underlying t=some (.array len e))(hE:P.underlying e=some (.int k))(hZ:nL P e 1)(hA:fb P e false)(em:Bool)(cs:List Value)(hl:cs.length=len)(W:World):(Instr.checkKey em (n+1+1) t (.agg cs.toArray)).run P W= .ok () W:=by
 exact zmg
variable {cs:Array Value} {W:World}
theorem SH{n:Nat}{fs:List Field}{em:Bool}(hU:P.underlying t=some (.struct fs.toArray))(h:∀f∈fs,f.name≠ "_"/\∃v,(part f.type cs f.offset).run P W= .ok v W/\(Instr.checkKey em n f.type v).run P W= .ok () W):(Instr.checkKey em (n+1) t (.agg cs)).run P W= .ok () W:=by
 rw[Instr.checkKey];simp only[Sem.run_bind,run_underlying hU,Result.andThen_ok];rw[<-Array.forIn_toList,show fs.toArray.toList=fs by simp];clear hU;induction fs with
 |nil=>simp
 |cons f L ih=>
  obtain⟨hn,v,p1,p2⟩:=h f zI;simp only[List.forIn_cons,Sem.run_bind,hn,ne_eq,not_false_eq_true,if_true,Result.andThen_ok,p1,p2,Sem.run_pure];exact ih (λy hy=>h y (by simp[hy]))
theorem nok{n:Nat}{k:IntKind}{em:Bool}{v:Value}(hU:P.underlying t=some (.int k)):(Instr.checkKey em (n+1) t v).run P W= .ok () W:=by simp[Instr.checkKey,run_underlying hU]
variable {off:Nat}
theorem nVl{v:Value}(hA:fb P t false)(hv:cs[off]? =some v):(part t cs off).run P W= .ok v W:=by
 obtain⟨h1,h2⟩:=bB.1 hv;simp[part,hA W,h1,h2]
theorem SI{n:Nat}(hA:fb P t true)(hZ:nL P t n):(part t cs off).run P W= .ok (.agg (cut cs off n)) W:=by
 simp only[part,Sem.run_bind,hA W,hZ W,Result.andThen,if_true,Sem.run_pure,nAf]
theorem GB(n:Nat)(k:IntKind)(a:Int):Instr.sameBits n (.int k a) (.int k a)=true:=by cases n<;>simp[Instr.sameBits]
/-! ### append behind a part of a row that is given up (a queue) -/
section
variable {G:Gh} {L:List World} {H:ad} {W:World}
variable {sp:List Value} {b i m:Nat} {sv:Value}
theorem St.appO{e n len cap tx ty:Nat}{ti:TypeInfo}{z:Value}{pre ys news:List Value}(hS:St G L H W)(hi:H[i]? =some (b,.cells (pre++(ys++sp)).toArray e (0,0)))(hU:P.underlying t=some (.slice e))(qX:P.info? e=some ti)(hz:ti.zero=some z)(hm:ti.size=m)(uw:z.cells.size=m)(qY:Src P m tx sv n news W)(hlen:ys.length=len*m)(wG:sp.length=(cap-len)*m)(Je:len<=cap)(ha:Fr G L b)(bx:len+n<=9223372036854775807)(mQ:(len+n)*ti.bytes<=140737488355328):∃b' bA J bZ W',(Builtin.append_ #[t,tx] ty #[.slice (some ⟨b,pre.length,none⟩) len cap,sv]).run P W= .ok (.slice (some ⟨b',J.length,none⟩) (len+n) bA) W'/\St G L (H.set i (b',.cells (J++(ys++news++bZ)).toArray e (0,0))) W'/\((b'=b/\J=pre)\/(W.heap.size<=b'/\J=[]))/\len+n<=bA/\bZ.length=(bA-(len+n))*m:=by
 subst hm;have hb:=hS.own _ (cu hi);have wZ:=qY.newsLen;by_cases iQ:len+n<=cap
 ·have hle:(len+n)*ti.size<=cap*ti.size:=wh _ iQ;have lj:(pre++(ys++sp)).toArray.size=pre.length+cap*ti.size:=by
   simp only[rf,cB,hlen,wG];rw[<-qL];congr 2;omega
  rw[qL]at hle;have hr:=run_append_room_src (P:=P) W t tx ty e ti hU qX b pre.length len cap sv n news qY iQ
   (λj hj=>by rw[Ll hb];rw[a8q aa];rfl)
   (λj hj=>by simp[World.frozen?,hb])
  obtain⟨h1,h2⟩:=n9c b news (pre.length+len*ti.size) W _ _ hb;have kJ:(sp.drop (n*ti.size)).length=(cap-(len+n))*ti.size:=by
   rw[Cf,wG,<-Nat.sub_mul];congr 1;omega
  have hc:setCells (pre++(ys++sp)).toArray (pre.length+len*ti.size) news=(pre++(ys++news++sp.drop (n*ti.size))).toArray:=by
   apply Array.ext';rw[nZ,<-hlen,<-cB];show jT (pre++(ys++sp)) (pre++ys).length news=_;have aoP:n*ti.size<=sp.length:=by rw[wG,<-wZ,wZ];exact wh _ aa
   conv=>lhs;rw[<-iY,<-Ba (n*ti.size) sp]
   rw[nHd _ _ _ _ (by rw[kU];omega)];simp[iY]
  rw[hc]at h2;exact⟨_,_,_,_,_,hr,hS.put hi h1 h2,.inl ⟨rfl,rfl⟩,iQ,kJ⟩
 have hold:(Builtin.firstCells ti.size len (.slice (some ⟨b,pre.length,none⟩) len cap)).run P W.drew= .ok ys.toArray W.drew:=by
  have eQ:W.drew.heap[b]? =some (.cells (pre++(ys++sp)).toArray e (0,0)):=hb;rw[nNh eQ (by simp only[rf,cB,hlen];omega)];unfold cut;rw[List.drop_left' rfl,<-hlen,QY rfl]
 have hr:=run_append_grow_src (P:=P) W t tx ty e ti z hU qX hz (some ⟨b,pre.length,none⟩) len cap ys hold sv n news qY aa aa (growslice_fits aa mQ);have hg:=grownCap_ge W (len+n) cap e;have ij:=(hS.step (ER W (W.drawn+1))).renewF (.cells ((ys++news).toArray++Builtin.zeroCells z.cells (grownCap W (len+n) cap e-(len+n))) e (0,0)) hi ha;have Ce:(Builtin.zeroCells z.cells (grownCap W (len+n) cap e-(len+n))).toList.length=(grownCap W (len+n) cap e-(len+n))*ti.size:=by
  simp[Builtin.zeroCells,uw]
 have hc:(ys++news).toArray++Builtin.zeroCells z.cells (grownCap W (len+n) cap e-(len+n))=([]++(ys++news++(Builtin.zeroCells z.cells (grownCap W (len+n) cap e-(len+n))).toList)).toArray:=by
  apply Array.ext';simp
 rw[hc]at ij hr;exact⟨_,_,[],_,_,hr,ij,.inr ⟨aj _,rfl⟩,hg,Ce⟩
end
section
variable {C:Cx} {Q:bE} {E:Env} {D:List Deferred} {G:Gh} {L:List World} {H H0 H1:ad} {ops:Array Oper} {l:List Oper}
variable {d ty:Nat} {pos:String} {aE:Array Edge} {g:Option (Nat×Bool)} {x y:Operand} {α:Type} {enc:α->List Value} {m:Nat}
variable {sp:List Value} {b:Nat} {sv:Value}
theorem apO{cap:Nat}{e tx:Nat}{ps xs zs:List α}(hH:H=H0++((b,bj enc e (ps++xs) sp)::H1))(hT:jM C.P t e m)(hm:∀x,(enc x).length=m)(hw:nr ops E g=some true)(hN:Nat.blt d C.N=true)(hx:ev E x=some (.slice (some ⟨b,off,none⟩) xs.length cap))(ho:off=ps.length*m)(hy:ev E y=some sv)(hs:ck C G L H enc m tx sv zs)(hc:xs.length<=cap)(wG:sp.length=(cap-xs.length)*m)(hf:Fr G L b)(jt:xs.length+zs.length<=1000000)(k:∀(b' bA:Nat) (J:List α) (bZ:List Value),(b=b'\/ah L b')->(xs++zs).length<=bA->bZ.length=(bA-(xs++zs).length)*m->OJ C ops Q l ((d,.slice (some ⟨b',J.length*m,none⟩) (xs++zs).length bA)::E) D G L (H0++((b',bj enc e (J++(xs++zs)) bZ)::H1))):OJ C ops Q (⟨some d,.call ⟨.builtin .append,#[x,y],#[t,tx]⟩,ty,pos,aE,g⟩::l) E D G L H:=
 rn zI hw hN λa W hF hS=>by
  obtain⟨ti,z,qX,hz,lj,AV,rj⟩:=hT.info;have hl:(xs++zs).length=xs.length+zs.length:=cB;have hB:(xs.length+zs.length)*ti.bytes<=140737488355328:=eB (Nat.mul_le_mul jt rj) zz;have hp:(iE enc ps).length=ps.length*m:=sP hm ps;have hi:H[H0.length]? =some (b,.cells (iE enc ps++(iE enc xs++sp)).toArray e (0,0)):=by rw[hH];simp[bj,OF]
  obtain⟨b',bA,C1,bZ,W',gw,ij,eQ,AG,kJ⟩:=hS.appO (P:=C.P) (ty:=ty) hi hT.und qX hz lj AV (hs.src hS) (sP hm xs) wG hc hf aa hB;subst ho;rw[hp]at gw;obtain⟨J,rfl⟩:∃J:List α,C1=iE enc J:=by
   rcases eQ with⟨_,e1⟩|⟨_,e1⟩
   ·exact⟨ps,e1⟩
   exact⟨[],e1⟩
  rw[sP hm J]at gw;refine⟨.slice (some ⟨b',J.length*m,none⟩) (xs.length+zs.length) bA,W',L,_,?_,ij,?_⟩
  ·simp[execOp,hF.ev hx,hF.ev hy,resolve,invoke,Deferred.ofValue,builtin,gw]
  have:=k b' bA J bZ (eQ.imp (λh=>h.1.symm) (λh=>CK hS h.1)) (by rw[hl];exact AG) (by rw[hl];exact kJ);rw[hl]at this;rw[hH];simpa[bj,OF]using this
end
section
variable {C:Cx} {Q:bE} {E:Env} {D:List Deferred} {L:List World} {H:ad} {ops:Array Oper} {l:List Oper}
variable {d ty:Nat} {pos:String} {aE:Array Edge} {g:Option (Nat×Bool)} {x:Operand} {xs:List Operand} {vs:List Value} {eL:Array Nat}
variable {W0:World} {MI RO M:aJ} {hM:∀k,M k->k<W0.heap.size/\¬MI k/\¬RO k}
variable {I1 X1:aJ->World->Prop} {I:World->Prop}
theorem aaV{y:Nat}(Z:aJ)(T:Gh->Gh)(hT:∀G,(T G).M=G.M/\(T G).V=G.V/\(T G).R=G.R/\(T G).X=λk=>G.X k\/Z k){V:aJ}{hI:gu (λk=>(k<W0.heap.size/\¬MI k)\/V k) I}(lM:∀V,gu (λk=>(k<W0.heap.size/\¬MI k)\/V k) (I1 V))(gk:∀V,gu (λk=>(k<W0.heap.size/\¬MI k)\/V k) (X1 V))(hV:∀k,V k->W0.heap.size<=k)(hw:nr ops E g=some true)(hN:Nat.blt d C.N=true)(hx:ev E x=some (yv y))(ha:jy E xs=some vs)(hy:∀W1,St (T (dF hM V hI)) L H W1->(∀k,V k->W0.heap.size<=k/\k<W1.heap.size)->I W1->S0 C.P y vs.toArray W1 (λb W2=>aT (λk=>M k\/V k) W1 W2/\(if b then I1 (rm V W1 W2) W2 else X1 (rm V W1 W2) W2)))(k1:∀V2,(∀k,V k->V2 k)->(∀w∈L,∀k,V2 k->V k\/w.heap.size<=k)->OJ C ops Q l ((d,.bool true)::E) D (T (dF hM V2 (lM V2))) L H)(k2:∀V2,(∀k,V k->V2 k)->(∀w∈L,∀k,V2 k->V k\/w.heap.size<=k)->OJ C ops Q l ((d,.bool false)::E) D (T (dF hM V2 (gk V2))) L H):OJ C ops Q (⟨some d,.call ⟨.value x,xs.toArray,eL⟩,ty,pos,aE,g⟩::l) E D (T (dF hM V hI)) L H:=by
 refine U8 (λG'=>∃V2,(∀k,V k->V2 k)/\(∀w∈L,∀k,V2 k->V k\/w.heap.size<=k)/\G'=T (dF hM V2 (lM V2))) (λG'=>∃V2,(∀k,V k->V2 k)/\(∀w∈L,∀k,V2 k->V k\/w.heap.size<=k)/\G'=T (dF hM V2 (gk V2))) hw hN hx ha (λW1 hS=>?_) (by rintro _ ⟨V2,h2,h3,rfl⟩;exact k1 V2 h2 h3) (by rintro _ ⟨V2,h2,h3,rfl⟩;exact k2 V2 h2 h3);have hxl:∀k,V k->k<W1.heap.size:=λk hk=>hS.xlt k (by rw[(hT _).2.2.2];exact .inl (.inr hk));have J:I W1:=by have:=hS.ghost;rw[(hT _).2.2.1]at this;exact this
 obtain⟨fn,tmps,assign,body,gw,p7⟩:=hy W1 hS (λk hk=>⟨hV k hk,hxl k hk⟩) J;exact zfg
variable {e:Exit} {fn:Func}
theorem n6c{V:aJ}{hI:gu (λk=>(k<W0.heap.size/\¬MI k)\/V k) I}{α:Type}{Fin:List α->aJ->World->Prop}{J:List α->aJ->World->Prop}{X:aJ->World->Prop}(he:e= .ret\/e= .normal)(hr:fn.results=#[])(hw:W0∈L)(hV:∀k,V k->W0.heap.size<=k)(hH:∀k,k<W0.heap.size->k∈H.map (·.1)->MI k)(h:∀A,St (dF hM V hI) L H A->I A->(∃xs,Fin xs (λk=>M k\/V k) A/\J xs V A)\/X V A):PJ C (bodyPost C.P fn (λe W'=>(∃v,e= .returned v)/\aT (λk=>M k\/MI k) W0 W'/\∃V,(∃xs,Fin xs (λk=>M k\/V k) W'/\J xs V W')\/X V W')) e E [] (dF hM V hI) L H:=by
 intro a W' _ hD _ hS;have key:bodyPost C.P fn (λe W'=>(∃v,e= .returned v)/\aT (λk=>M k\/MI k) W0 W'/\∃V,(∃xs,Fin xs (λk=>M k\/V k) W'/\J xs V W')\/X V W') .normal a W':=by
  refine⟨hD,.tuple #[],results_none hr _ _ _,⟨_,rfl⟩,(hS.links W0 hw).mono λk hk hx=>?_,V,h W' hS hS.ghost⟩;exact z9h
 exact z4h
end
section
variable {α:Type}
end
end Px


namespace Px
open Go Go.RowKit
/-! ### yield is called in another function -/
/-- what a function leaves that calls yield once -/
def YR (M V:aJ) (I1 X1:aJ->World->Prop) (W:World):Ending->World->Prop:=λe W2=>
 ∃(b:Bool) (V2:aJ),e= .returned (.bool b)/\(∀k,V k->V2 k)/\(∀k,V2 k->V k\/(W.heap.size<=k/\k<W2.heap.size))/\aT (λk=>M k\/V k) W W2/\(if b then I1 V2 W2 else X1 V2 W2)
section
variable {C:Cx} {Q:bE} {E:Env} {D:List Deferred} {L:List World} {H:ad} {ops:Array Oper} {l:List Oper}
variable {d ty f:Nat} {pos:String} {aE:Array Edge} {g:Option (Nat×Bool)} {x:Operand} {xs:List Operand} {vs first cap:List Value} {eL:Array Nat}
variable {W0:World} {MI RO M:aJ} {hM:∀k,M k->k<W0.heap.size/\¬MI k/\¬RO k}
variable {I1 X1:aJ->World->Prop} {I:World->Prop}
theorem S9{V:aJ}{hI:gu (λk=>(k<W0.heap.size/\¬MI k)\/V k) I}(lM:∀V,gu (λk=>(k<W0.heap.size/\¬MI k)\/V k) (I1 V))(gk:∀V,gu (λk=>(k<W0.heap.size/\¬MI k)\/V k) (X1 V))(hx:ev E x=some (.func (.func f) first.toArray cap.toArray))(aB:eV C.P f)(hw:nr ops E g=some true)(hN:Nat.blt d C.N=true)(ha:jy E xs=some vs)(hc:∀W,St (dF hM V hI) L H W->Calls C.P f (first++vs++cap).toArray W (YR M V I1 X1 W))(k1:∀V2,(∀k,V k->V2 k)->(∀w∈L,∀k,V2 k->V k\/w.heap.size<=k)->OJ C ops Q l ((d,.bool true)::E) D (dF hM V2 (lM V2)) L H)(k2:∀V2,(∀k,V k->V2 k)->(∀w∈L,∀k,V2 k->V k\/w.heap.size<=k)->OJ C ops Q l ((d,.bool false)::E) D (dF hM V2 (gk V2)) L H):OJ C ops Q (⟨some d,.call ⟨.value x,xs.toArray,eL⟩,ty,pos,aE,g⟩::l) E D (dF hM V hI) L H:=
 nK rfl hw hx ha zI aB λa W jz hD hF hS=>(hc W hS).mono (by
  rintro e W2 ⟨b,V2,rfl,h1,h2,hk,hb⟩;have h3:∀w∈L,∀k,V2 k->V k\/w.heap.size<=k:=λw hw k hk=>(h2 k hk).imp id λh=>by have:=(hS.links w hw).size;omega
  have nx:∀{R:World->Prop} (hR:gu (λk=>(k<W0.heap.size/\¬MI k)\/V2 k) R),R W2->Next (dF hM V hI) W W2 (dF hM V2 hR):=λ{R} hR hr=>
   ⟨λk h=>h.imp id (h1 k),λk h=>h.elim (λh=>.inl (.inl h)) (λh=>(h2 k h).imp .inr id),λk h=>h.elim (λh=>.inl (.inl h)) (λh=>(h2 k h).imp .inr id),hr⟩
  have J:=λv=>hF.put (d:=d) v z6;cases b with
  |true=>exact k1 V2 h1 h3 (a.put (some d) (.bool true)) W2 z7 z5 (J _) (hS.yield2 hk (nx (lM V2) hb).x (nx (lM V2) hb).x' (nx (lM V2) hb).v hb)
  |false=>exact k2 V2 h1 h3 (a.put (some d) (.bool false)) W2 z7 z5 (J _) (hS.yield2 hk (nx (gk V2) hb).x (nx (gk V2) hb).x' (nx (gk V2) hb).v hb))
variable {G:Gh} {W:World}
theorem St.alone(h:St G L H W):St G [W] [] W:=
 ⟨h.ghost,h.vlt,h.xlt,λw hw=>by rw[fC.1 hw];exact aT.refl _ _,λp hp=>by simp at hp,λi j p q hi=>by simp at hi,λp hp=>by simp at hp⟩
variable {e:Exit} {L':List World} {b i:Nat} {o:Obj}
theorem PJ.resnap(hi:H[i]? =some (b,o))(hb:ah L' b)(hs:∀w∈L',w∈L)(k:∀W,St G L H W->PJ C Q e E D G (W::L') (H.eraseIdx i)):PJ C Q e E D G L H:=
 λa W hN hD hF hS=>k W hS a W hN hD hF ((hS.lessL hs).dropAt hi hb).snap
theorem PJ.resnap0(hs:∀w∈L',w∈L)(k:∀W,St G L H W->PJ C Q e E D G (W::L') H):PJ C Q e E D G L H:=
 λa W hN hD hF hS=>k W hS a W hN hD hF (hS.lessL hs).snap
theorem CJ.resnap0{c:Code}(hs:∀w∈L',w∈L)(k:∀W,St G L H W->CJ C c Q E D G (W::L') H):CJ C c Q E D G L H:=
 λa W hN hD hF hS=>k W hS a W hN hD hF (hS.lessL hs).snap
end
end Px
