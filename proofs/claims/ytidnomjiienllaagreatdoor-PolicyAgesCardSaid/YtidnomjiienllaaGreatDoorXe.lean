/- The memory of a call, its operations, iterators, slices, maps: lemmas by which the walks go. No condition beyond those that each theorem states. -/
import Derived.Test.YtidnomjiienllaaGreatDoorXd
set_option linter.unusedSimpArgs false
set_option linter.unusedVariables false
set_option linter.unusedSectionVars false
set_option maxRecDepth 20000
set_option maxHeartbeats 8000000
namespace Px
open Go Go.RowKit
section
variable {C:Cx} {Q:Post} {E:Env} {D:List Deferred} {G:Gh} {L:List World} {H:Heap} {id:Nat}
def nVe (C:Cx) (l:List Oper) (G:Gh) (E:Env) (D:List Deferred) (sp:Sp) (ch:List Nat) (rqs:List (List Nat)) (Ph:List (Option Value)->List World->Heap->Prop):Nat->List Nat->Prop
 |_,[]=>True
 |k,c::rest=>(∀(rq:List Nat) (o:Oper) (ds:List Nat),rqs[k]? =some rq->l[c]? =some o->sp[c]? =some (ds,none)->∀cv L' H',cv.length=ch.length->n5b rq k cv=true->Ph cv L' H'->∀(F:Env) (Q':Post),
  (∀v L'' H'',Ph (cv.set k (some v)) L'' H''->PJ C Q' .normal (putE o v (envN l.toArray sp ch cv ds++(E++F))) D G L'' H'')->OJ C l.toArray Q' [o] (envN l.toArray sp ch cv ds++(E++F)) D G L' H')/\nVe C l G E D sp ch rqs Ph (k+1) rest
theorem n1f{l:List Oper}{sp:Sp}{ch:List Nat}{rqs:List (List Nat)}{Ph:List (Option Value)->List World->Heap->Prop}:∀(rest:List Nat) (n:Nat),nVe C l G E D sp ch rqs Ph n rest->∀(k c:Nat) (rq:List Nat) (o:Oper) (ds:List Nat),rest[k]? =some c->rqs[n+k]? =some rq->l[c]? =some o->sp[c]? =some (ds,none)->∀cv L' H',cv.length=ch.length->n5b rq (n+k) cv=true->Ph cv L' H'->∀(F:Env) (Q':Post),(∀v L'' H'',Ph (cv.set (n+k) (some v)) L'' H''->PJ C Q' .normal (putE o v (envN l.toArray sp ch cv ds++(E++F))) D G L'' H'')->OJ C l.toArray Q' [o] (envN l.toArray sp ch cv ds++(E++F)) D G L' H'
 | [],_,_,k,c,_,_,_,h,_,_,_=>by simp at h
 |c'::rest,n,h,k,c,rq,o,ds,hk,hr,hl,hs=>by
  cases k with
  |zero=>simp at hk;subst hk;exact h.1 rq o ds hr hl hs
  |succ k=>
   rw[show n+(k+1)=n+1+k by omega]at hr ⊢;exact n1f rest (n+1) h.2 k c rq o ds zUc hr hl hs
variable {cs:Array Value} {rqs:List (List Nat)} {Ph:List (Option Value)->List World->Heap->Prop} {ch ds rest:List Nat} {T b et i k kt:Nat} {x:Operand} {zv:Value}
theorem ncS{l:List Oper}{sp:Sp}{c:Nat}{rq:List Nat}{o:Oper}(h0:rqs[k]? =some rq)(h1:l[c]? =some o)(h2:sp[c]? =some (ds,none))(h:∀cv L' H',cv.length=ch.length->n5b rq k cv=true->Ph cv L' H'->∀(F:Env) (Q':Post),(∀v L'' H'',Ph (cv.set k (some v)) L'' H''->PJ C Q' .normal (putE o v (envN l.toArray sp ch cv ds++(E++F))) D G L'' H'')->OJ C l.toArray Q' [o] (envN l.toArray sp ch cv ds++(E++F)) D G L' H')(t:nVe C l G E D sp ch rqs Ph (k+1) rest):nVe C l G E D sp ch rqs Ph k (c::rest):=
 ⟨λrq' o' ds' e0 e1 e2=>by
  rw[h0]at e0;cases e0;rw[h1]at e1;cases e1;rw[h2]at e2;cases e2;exact h,t⟩
theorem nnS{l:List Oper}{sp:Sp}:nVe C l G E D sp ch rqs Ph k []:=trivial
theorem CJ.ntS{l:List Oper}(nA:Nat)(ch:List Nat)(sp:Sp)(rqs:List (List Nat))(Ph:List (Option Value)->List World->Heap->Prop)(hm:C.P.follows .mixedOrders=true)(h0:Ph (ch.map λ_=>none) L H)(hok:nJc l.toArray nA (sp.map (·.1)) E=true)(hsl:nFc l sp=true)(hN:nQc C.N l=true)(hch:netB l ch 0 rqs=true)(hnd:nsc ch=true)(hpt:nFb ch 0 sp=true)(hlt':ch.all (λc=>Nat.blt c nA)=true)(hrq:rqs.length=ch.length)(pure:nZb C l.toArray G E sp ch Ph l sp)(step:nVe C l G E D sp ch rqs Ph 0 ch)(fin:∀cv L' H',cv.length=ch.length->cv.all (λx=>x.isSome)=true->Ph cv L' H'->OJ C l.toArray Q (l.drop nA) (envN l.toArray sp ch cv (List.range nA)++E) D G L' H'):CJ C (.region id l.toArray true) Q E D G L H:=
 nSi nA ch sp rqs Ph hm h0 hok hsl hN hch hnd hpt hlt' (nBd l sp pure)
  (λk c rq o ds d hk hr hl hs hd cv L' H' hlen hrd hP F Q' hc=>by
   have:=n1f ch 0 step k c rq o ds hk (by rw[aVo];exact hr) hl hs cv L' H' hlen;rw[aVo]at this;exact this hrd hP F Q' (λv L'' H'' hP2=>by have:=hc v L'' H'' hP2;simpa only[putE,hd]using this))
  (λk c rq o ds hk hr hl hs hd cv L' H' hlen hrd hP F Q' hc=>by
   have:=n1f ch 0 step k c rq o ds hk (by rw[aVo];exact hr) hl hs cv L' H' hlen;rw[aVo]at this;exact this hrd hP F Q' (λv L'' H'' hP2=>by have:=hc v L'' H'' hP2;simpa only[putE,hd]using this)) hrq fin
end
section
variable {K β:Type} [DecidableEq K] {ek:K->Value} {ev:β->Value}
variable {C:Cx} {Q:Post} {E:Env} {D:List Deferred} {G:Gh} {L:List World} {H:Heap} {ops:Array Oper} {l:List Oper}
variable {d ty:Nat} {pos:String} {aft:Array Edge} {g:Option (Nat×Bool)} {xs:List Operand} {vs:List Value} {tys:Array Nat} {f:Nat}
variable {b i:Nat}
theorem callMK{v:Value}{m:Mq}{kv kv':List (K×β)}(hi:H[i]? =some (b,m.obj ek ev kv))(hent:Ent C.P f)(hw:nm ops E g=some true)(hN:Nat.blt d C.N=true)(ha:evs E xs=some vs)(hc:∀W,St G L H W->W.heap[b]? =some (m.obj ek ev kv)->Calls C.P f vs.toArray W (λe W'=>e= .returned v/\∃m':Mq,m'.Ok kv'/\Keep (· =b) W W'/\W'.heap[b]? =some (m'.obj ek ev kv')))(k:∀m':Mq,m'.Ok kv'->OJ C ops Q l ((d,v)::E) D G L (H.set i (b,m'.obj ek ev kv'))):OJ C ops Q (⟨some d,.call ⟨.value (.func f),xs.toArray,tys⟩,ty,pos,aft,g⟩::l) E D G L H:=
 nN rfl hw rfl ha zS hent λa W hN' hD hF hS=>(hc W hS (hS.own _ (ajo hi))).mono (by
  rintro e W' ⟨rfl,m',hm',hk,hb⟩;exact k m' hm' (a.put (some d) v) W' zrb zpb (hF.put _ zqb) (hS.put hi hk hb))
end
/-! ### sets -/
def uv:Unit->Value:=λ_=>.agg #[]
theorem uvD(o:Option Unit):(o.map uv).getD (.agg #[])= .agg #[]:=by cases o<;>rfl
def dset (l:List Dk):List (Dk×Unit):=l.foldl (λs k=>gput s k ()) []
theorem nRn(l:List Dk)(x:Dk):dset (l++[x])=gput (dset l) x ():=by unfold dset;rw[awp];rfl
theorem nSk(k:Dk):∀(l:List Dk) (s:List (Dk×Unit)),(gget (l.foldl (λs k=>gput s k ()) s) k).isSome=(decide (k∈l)||(gget s k).isSome)
 | [],s=>by simp
 |x::l,s=>by
  rw[List.foldl_cons,nSk k l,nFh];by_cases h:k=x
  ·simp[h]
  simp[h]
theorem dset_has(l:List Dk)(k:Dk):(gget (dset l) k).isSome=decide (k∈l):=by
 unfold dset;rw[nSk];simp[gget,gidx]
theorem dk_list(x:List Int)(h:x.length=32):∃f:Nat->Int,(∀i (hi:i<32),x[i]'zG=f i):=⟨λi=>x.getD i 0,λi hi=>by simp[aKo,aNo (show i<x.length by omega)]⟩
section
variable {C:Cx} {G:Gh} {L:List World} {H:Heap} {E:Env}
variable {T et kt:Nat} {x:Operand} {zv:Value}
theorem glookN_r{y:Operand}{K:Type}[DecidableEq K]{ek:K->Value}{k:K}(hU:C.P.underlying T=some (.map kt et))(hK:KeyF C.P kt ek)(hz:nvb C.P et zv)(hx:Px.ev E x=some (.map none))(hy:Px.ev E y=some (ek k)):RV C G L H E (.lookup T x y true) (.tuple #[zv,.bool false]):=λd ty pos aft g a W hF hS=>by
 have h1:=ntf (P:=C.P) (W:=W) hK uv k (l:=[]) (bs:=[]) rfl;have e:gidx k ([]:List (K×Unit)) 0=none:=rfl;rw[e]at h1;have e2:(mkE ek uv ([]:List (K×Unit)) [])=[]:=rfl;rw[e2]at h1;simp[execOp,hF.ev hx,hF.ev hy,Instr.lookup,run_underlying hU,hK.chk,hz W,h1]
end
section
variable {C:Cx} {G:Gh} {L:List World} {H:Heap} {E:Env} {x:Operand}
theorem mkIf_r{t:Nat}{v:Value}(hc:C.P.concrete t=true)(hx:ev E x=some v):RV C G L H E (.makeInterface t x) (.iface t v):=λd ty pos aft g a W hF _=>by
 simp[execOp,hF.ev hx,run_makeInterface W t v hc]
theorem tAsY_r{t xT:Nat}{v:Value}(hc:C.P.concrete t=true)(hx:ev E x=some (.iface t v)):RV C G L H E (.typeAssert x xT t true) (.tuple #[v,.bool true]):=λd ty pos aft g a W hF _=>by
 unfold Program.concrete at hc;cases hd:C.P.underlying t with
 |none=>simp[hd]at hc
 |some u=>cases u<;>first|(simp[hd]at hc;done)|simp[execOp,hF.ev hx,Instr.typeAssert,run_underlying hd]
theorem tAsN_r{t s xT:Nat}{v z:Value}(hc:C.P.concrete s=true)(hz:nvb C.P s z)(hn:t≠s)(hx:ev E x=some (.iface t v)):RV C G L H E (.typeAssert x xT s true) (.tuple #[z,.bool false]):=λd ty pos aft g a W hF _=>by
 unfold Program.concrete at hc;cases hd:C.P.underlying s with
 |none=>simp[hd]at hc
 |some u=>cases u<;>first|(simp[hd]at hc;done)|simp[execOp,hF.ev hx,Instr.typeAssert,run_underlying hd,hn,hz W]
variable {cs:Array Value} {T:Nat}
theorem fldV_r{f:Nat}{fs:Array Field}{fi:Field}{v:Value}(hU:C.P.underlying T=some (.struct fs))(hf:fs[f]? =some fi)(hA:AggF C.P fi.type false)(hx:ev E x=some (.agg cs))(hv:cs[fi.offset]? =some v):RV C G L H E (.field T x f) v:=λd ty pos aft g a W hF _=>by
 have p1:(part fi.type cs fi.offset).run C.P W= .ok v W:=by simp[part,hA W,hv]
 simp[execOp,hF.ev hx,Instr.field,run_underlying hU,hf,asAgg,p1]
end
section
variable {C:Cx} {Q:Post} {E E0:Env} {D:List Deferred} {G:Gh} {L:List World} {H:Heap} {α:Type} {v:α->Value} {Φ:World->α->Prop} {t:Nat}
def midXQ (C:Cx) (t:Nat) (v:α->Value) (Φ:World->α->Prop) (E0:Env) (D:List Deferred) (G:Gh) (L:List World) (H:Heap):Post:=λe a W=>e= .normal/\a.tmps.size=C.N/\a.defers=D/\St G L H W/\∃x,Fits ((t,v x)::E0) a/\Φ W x
theorem CJ.midX{c:Code}(h0:Sub E0 E)(h:CJ C c (midXQ C t v Φ E0 D G L H) E D G L H)(k:∀x w1,Φ w1 x->(∀w∈L,w.heap.size<=w1.heap.size)->(∀p∈H,p.1<w1.heap.size)->PJ C Q .normal ((t,v x)::E0) D G (w1::L) H):CJ C c Q E D G L H:=by
 intro a W hN hD hF hS;refine wpIn_mono (h a W hN hD hF hS) ?_;rintro e a' W' ⟨rfl,h1,h2,h4,x,h3,hΦ⟩;exact k x W' hΦ (λw hw=>(h4.links w hw).size) (λp hp=>h4.lt p hp) a' W' h1 h2 h3 h4.snap
theorem PJ.midX{E':Env}{L0:List World}(hl:∀w∈L0,w∈L)(x:α)(hE:Sub ((t,v x)::E0) E')(hΦ:∀W,St G L H W->Φ W x):PJ C (midXQ C t v Φ E0 D G L0 H) .normal E' D G L H:=
 λa W hN hD hF hS=>⟨rfl,hN,hD,hS.lessL hl,x,hE.fits hF,hΦ W hS⟩
end
end Px
