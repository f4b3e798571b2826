/- Memory, operations, iterators, slices, maps. No conditions. -/
import Derived.Test.YtjhfonpoebkgeaaGreatDoorXa
import Derived.Laws.BytesArg
import Derived.RecoverIn
import Derived.Laws.StructEq
import Derived.ProofKit
import Derived.LaidMore
import Derived.OpenShut
import Derived.Stop.Joined
import Derived.Carry
import Derived.Deep.Slices
import Derived.Shelf.SlSortCmp.NoneTotal
import Derived.Maps.RangeRun
import Derived.WideKeyRuns
import Derived.Sort.Grow
import Derived.Deep.Draws
set_option linter.unusedSimpArgs false
set_option linter.unusedVariables false
set_option linter.unusedSectionVars false
set_option maxRecDepth 20000
set_option maxHeartbeats 8000000
namespace Px
open Go Go.RowKit
/-! ### rows of bytes -/
def ub (l:List UInt8):List Value:=l.map λb=>Value.int .u8 b.toNat
theorem Bj(l:List UInt8):(ub l).length=l.length:=by simp[ub]
theorem DP(a b:List UInt8):ub (a++b)=ub a++ub b:=by simp[ub]
theorem nfk(l:List UInt8):∀u∈ub l,u.oneCell'=true:=by
 intro u hu;obtain⟨i,_,rfl⟩:=dO.1 hu;rfl
def fU (l:List UInt8) (i:Nat):Int:=((l[i]?.getD 0).toNat:Int)
theorem nFq(l:List UInt8):ub l=dM l.length (fU l):=by
 apply xL
 grind [ub,dM,fU]
theorem X8(l:List UInt8)(sp:List Value)(i:Nat)(h:i<l.length):((ub l++sp).toArray)[0+i]? =some (.int .u8 (fU l i)):=by grind [ub,fU]
abbrev bB (b n cap:Nat):Value:=.slice (some ⟨b,0,none⟩) n cap
abbrev bF (e:Nat) (xs:List UInt8) (sp:List Value):Obj:=.cells (ub xs++sp).toArray e (0,0)
structure cS (xs:List UInt8) (cap:Nat) (sp:List Value):Prop where
 le:xs.length<=cap
 sp:sp.length=cap-xs.length
structure zw (P:Program) (t e:Nat):Prop where
 und:P.underlying t=some (.slice e)
 el:P.underlying e=some (.int .u8)
 info:∃ti,P.info? e=some ti/\ti.zero=some (.int .u8 0)/\ti.size=1/\ti.bytes=1
 sz:nV P e 1
section
variable {G:Gh} {L:List World} {H:ae} {W:World}
variable {aD:Array Edge} {es:Array MapEntry} {eY:Array Nat} {os:Array Obj} {cs:Array Value} {c:Code} {R:Ending->World->Prop} {e ex:Exit} {Q:Exit->Act->List Frame->World->Prop} {fn:Func} {bs:List Nat} {rs:List ResultVar} {ys zs:List UInt8} {cap first sp cq vs:List Value} {N b et i j k kt m n t tx:Nat} {fr:Nat×Nat} {o:Obj} {fv x:Operand} {g:Option (Nat×Bool)} {a:Option Addr} {P:Program} {pos:String} {sv zv:Value} {v:Value->Value} {w:World} {I:World->Prop}
theorem St.renewF(h:St G L H W)(J:Obj)(hi:H[i]? =some (b,o))(ha:Fr G L b):St G L (H.set i (W.heap.size,J)) (W.alloc J):=by
 have wD:=(qe.1 hi).1;have hp:H.Perm ((b,o)::H.eraseIdx i):=Uk H i _ hi;exact(((h.perm hp).dropF ha).alloc J).perm (nHg H i _ wD).symm
theorem St.dropAtF(h:St G L H W)(hi:H[i]? =some (b,o))(ha:Fr G L b):St G L (H.eraseIdx i) W:=
 (h.perm (Uk H i _ hi)).dropF ha
section
variable (h:St G L H W)(hb:W.heap.size<=b)
include h hb
theorem Fr.up:Fr G L b:=.inr (ah.of_mem λw hw=>dS (h.links w hw).size hb)
theorem M4:ah L b:=ah.of_mem λw hw=>dS (h.links w hw).size hb
theorem Ca:cu H b:=cu.of_mem λhm=>by
 obtain⟨p,hp,e⟩:=dO.1 hm;have:=h.lt p hp;omega
end
theorem St.app{e len cap ty:Nat}{ti:TypeInfo}{z:Value}{ys news:List Value}(hS:St G L H W)(hi:H[i]? =some (b,.cells (ys++sp).toArray e (0,0)))(hU:P.underlying t=some (.slice e))(qC:P.info? e=some ti)(hz:ti.zero=some z)(hm:ti.size=m)(IG:z.cells.size=m)(J:Src P m tx sv n news W)(hlen:ys.length=len*m)(zu:sp.length=(cap-len)*m)(bw:len<=cap)(ha:Fr G L b)(bI:len+n<=9223372036854775807)(vc:(len+n)*ti.bytes<=140737488355328):∃b' aR cq W',(Builtin.append_ #[t,tx] ty #[.slice (some ⟨b,0,none⟩) len cap,sv]).run P W= .ok (.slice (some ⟨b',0,none⟩) (len+n) aR) W'/\St G L (H.set i (b',.cells (ys++news++cq).toArray e (0,0))) W'/\(b'=b\/W.heap.size<=b')/\len+n<=aR/\cq.length=(aR-(len+n))*m:=by
 subst hm;have hb:=hS.own _ (cF hi);have Cy:=J.newsLen;by_cases lA:len+n<=cap
 ·have hle:(len+n)*ti.size<=cap*ti.size:=BM _ lA;have kr:(ys++sp).toArray.size=cap*ti.size:=by
   simp only[act,eU,hlen,zu];rw[<-IN];congr 1;omega
  have hr:=run_append_room_src (P:=P) W t tx ty e ti hU qC b 0 len cap sv n news J lA
   (λj hj=>by rw[fb hb];grind)
   (λj hj=>by simp[World.frozen?,hb])
  obtain⟨h1,h2⟩:=nSe b news (0+len*ti.size) W _ _ hb;have ur:(sp.drop (n*ti.size)).length=(cap-(len+n))*ti.size:=by
   rw[yp,zu,<-Nat.sub_mul];congr 1;omega
  have hc:setCells (ys++sp).toArray (0+len*ti.size) news=(ys++news++sp.drop (n*ti.size)).toArray:=by
   exact zyj
  rw[hc]at h2;exact⟨_,_,_,_,hr,hS.put hi h1 h2,.inl rfl,lA,ur⟩
 have hold:(Builtin.firstCells ti.size len (.slice (some ⟨b,0,none⟩) len cap)).run P W.drew= .ok ys.toArray W.drew:=by
  exact zRj
 have hr:=run_append_grow_src (P:=P) W t tx ty e ti z hU qC hz (some ⟨b,0,none⟩) len cap ys hold sv n news J aa aa (growslice_fits aa vc);have hg:=grownCap_ge W (len+n) cap e;have gW:=(hS.step (IC W (W.drawn+1))).renewF (.cells ((ys++news).toArray++Builtin.zeroCells z.cells (grownCap W (len+n) cap e-(len+n))) e (0,0)) hi ha;have Vq:(Builtin.zeroCells z.cells (grownCap W (len+n) cap e-(len+n))).toList.length=(grownCap W (len+n) cap e-(len+n))*ti.size:=by
  simp[Builtin.zeroCells,IG]
 have hc:(ys++news).toArray++Builtin.zeroCells z.cells (grownCap W (len+n) cap e-(len+n))=(ys++news++(Builtin.zeroCells z.cells (grownCap W (len+n) cap e-(len+n))).toList).toArray:=by
  apply Array.ext';simp
 rw[hc]at gW hr;exact⟨_,_,_,_,hr,gW,.inr (aC _),hg,Vq⟩
theorem St.appN{e ty:Nat}{ti:TypeInfo}{z:Value}{news:List Value}(hS:St G L H W)(hU:P.underlying t=some (.slice e))(qC:P.info? e=some ti)(hz:ti.zero=some z)(hm:ti.size=m)(IG:z.cells.size=m)(wS:Src P m tx sv n news W)(h0:0<n)(a8:n<=9223372036854775807)(vc:n*ti.bytes<=140737488355328):∃aR cq W',(Builtin.append_ #[t,tx] ty #[.slice none 0 0,sv]).run P W= .ok (.slice (some ⟨W.heap.size,0,none⟩) n aR) W'/\St G L ((W.heap.size,.cells (news++cq).toArray e (0,0))::H) W'/\n<=aR/\cq.length=(aR-n)*m:=by
 subst hm;have hold:(Builtin.firstCells ti.size 0 (.slice none 0 0)).run P W.drew= .ok ([]:List Value).toArray W.drew:=by simp[Builtin.firstCells]
 have hr:=run_append_grow_src (P:=P) W t tx ty e ti z hU qC hz none 0 0 [] hold sv n news wS aa aa (growslice_fits aa cM);rw[rM]at hr;have hg:=grownCap_ge W n 0 e;have J:=(hS.step (IC W (W.drawn+1))).alloc (.cells (([]++news:List Value).toArray++Builtin.zeroCells z.cells (grownCap W n 0 e-n)) e (0,0));have hc:([]++news:List Value).toArray++Builtin.zeroCells z.cells (grownCap W n 0 e-n)=(news++(Builtin.zeroCells z.cells (grownCap W n 0 e-n)).toList).toArray:=by
  apply Array.ext';simp
 rw[hc]at J hr;exact⟨_,_,_,hr,J,hg,by simp[Builtin.zeroCells,IG]⟩
end
section
variable {C:Cx} {Q:bA} {E:Env} {D:List Deferred} {G:Gh} {L:List World} {H:ae} {ops:Array Oper} {l:List Oper}
variable {d T ty f:Nat} {pos:String} {aD:Array Edge} {g:Option (Nat×Bool)} {x y:Operand} {xs:List Operand} {vs:List Value} {eY:Array Nat}
def fQ (C:Cx) (G:Gh) (L:List World) (H:ae) (tx:Nat) (sv:Value) (zs:List UInt8):Prop:=ib C G L H 1 tx sv zs.length (ub zs)
variable {zs:List UInt8} {sp:List Value} {b i t tx:Nat} {fr:Nat×Nat}
theorem fQ.own{J c:Nat}(hU:C.P.underlying tx=some (.slice J))(hi:H[i]? =some (b,.cells (ub zs++sp).toArray t fr)):fQ C G L H tx (bB b zs.length c) zs:=
 ib.sl hU (Rd.own hi (by grind [Bj]) (by grind [Bj])) (by rw[Bj,Bd]) (nfk _)
theorem fQ.old{J c:Nat}{w1:World}(hU:C.P.underlying tx=some (.slice J))(hm:w1∈L)(hb:w1.heap[b]? =some (.cells (ub zs++sp).toArray t fr))(hG:¬G.X b)(hO:cu H b):fQ C G L H tx (bB b zs.length c) zs:=
 ib.sl hU (Rd.old hm hb hG hO (by grind [Bj]) (by grind [Bj])) (by rw[Bj,Bd]) (nfk _)
theorem fQ.str{s:ByteArray}(hU:C.P.underlying tx=some .string):fQ C G L H tx (.string s) s.data.toList:=
 ⟨.inr hU,λ_=>rfl,Rd.str,by rw[Bj,Bd],nfk _⟩
variable {sv:Value}
theorem wY{e cap:Nat}{xs:List UInt8}(hi:H[i]? =some (b,bF e xs sp))(hB:zw C.P t e)(hw:nr ops E g=some true)(hN:Nat.blt d C.N=true)(hx:ev E x=some (bB b xs.length cap))(hy:ev E y=some sv)(hs:fQ C G L H tx sv zs)(hr:cS xs cap sp)(ha:Fr G L b)(fF:xs.length+zs.length<=1000000000000)(k:∀(b' aR:Nat) (cq:List Value),Fr G L b'->cS (xs++zs) aR cq->OJ C ops Q l ((d,bB b' (xs++zs).length aR)::E) D G L (H.set i (b',bF e (xs++zs) cq))):OJ C ops Q (⟨some d,.call ⟨.builtin .append,#[x,y],#[t,tx]⟩,ty,pos,aD,g⟩::l) E D G L H:=
 rF zP hw hN λa W hF hS=>by
  obtain⟨ti,qC,hz,kr,p6⟩:=hB.info;obtain⟨b',aR,cq,W',iJ,gW,gp,Ue,ur⟩:=hS.app (P:=C.P) (ty:=ty) hi hB.und qC hz kr rfl (hs.src hS) (by rw[Bj,Bd]) (by rw[hr.sp,Bd]) hr.le ha aa cM;have J:Fr G L b':=by
   rcases gp with rfl|gp
   ·exact ha
   grind [Fr.up]
  have hl:(xs++zs).length=xs.length+zs.length:=eU;refine⟨.slice (some ⟨b',0,none⟩) (xs.length+zs.length) aR,W',L,_,?_,gW,?_⟩
  ·simp[execOp,hF.ev hx,hF.ev hy,resolve,invoke,builtin,iJ]
  have:=k b' aR cq J ⟨by omega,by grind⟩;simp_all[bF,DP]
theorem apN{e:Nat}(hB:zw C.P t e)(hw:nr ops E g=some true)(hN:Nat.blt d C.N=true)(hx:ev E x=some (.slice none 0 0))(hy:ev E y=some sv)(hs:fQ C G L H tx sv zs)(h0:0<zs.length)(fF:zs.length<=1000000000000)(k:∀(b' aR:Nat) (cq:List Value),ah L b'->cu H b'->¬G.X b'->cS zs aR cq->OJ C ops Q l ((d,bB b' zs.length aR)::E) D G L ((b',bF e zs cq)::H)):OJ C ops Q (⟨some d,.call ⟨.builtin .append,#[x,y],#[t,tx]⟩,ty,pos,aD,g⟩::l) E D G L H:=
 rF zP hw hN λa W hF hS=>by
  obtain⟨ti,qC,hz,J,p6⟩:=hB.info;obtain⟨aR,cq,W',iJ,gW,Ue,ur⟩:=hS.appN (P:=C.P) (ty:=ty) hB.und qC hz J rfl (hs.src hS) h0 aa cM;refine⟨.slice (some ⟨W.heap.size,0,none⟩) zs.length aR,W',L,_,?_,gW,k W.heap.size aR cq hS.sizes hS.offNew hS.mNew ⟨Ue,by grind⟩⟩;simp[execOp,hF.ev hx,hF.ev hy,resolve,invoke,builtin,iJ]
/-! #### functions that are lent a row and give one back -/
def P1 (w:World) (b e:Nat) (ys:List UInt8):Ending->World->Prop:=λed w'=>
 ∃b' aR cq,ed= .returned (bB b' ys.length aR)/\aQ (· =b) w w'/\(b'=b\/w.heap.size<=b')/\cS ys aR cq/\w'.heap[b']? =some (bF e ys cq)
def Ck (w:World) (e:Nat) (ys:List UInt8):Ending->World->Prop:=λed w'=>
 ∃b' aR cq,ed= .returned (bB b' ys.length aR)/\Below w.heap.size w w'/\w.heap.size<=b'/\cS ys aR cq/\w'.heap[b']? =some (bF e ys cq)
variable {o:Obj} {w:World}
theorem Dm(h:w.heap[b]? =some o):St (Gh.lent (· =b)) [w] [(b,o)] w where
 ghost:=trivial
 vlt:=λ_ h=>h.elim
 xlt:=λk hk=>by
  have:k=b:=hk
  grind
 links:=λw' hw=>by grind [aQ.refl]
 own:=λp hp=>by grind
 nodup:=λi j p q hi hj _=>by
  grind
 apart:=λ_ _ h=>h.elim
def lv (Z:Nat->Prop) (n:Nat):ae->Prop
 | []=>True
 |p::H=>(Z p.1\/n<=p.1)/\lv Z n H
variable {n:Nat}
theorem lv.mem{Z:Nat->Prop}(h:lv Z n H):∀p∈H,Z p.1\/n<=p.1:=by
 exact zjk
variable {W:World}
theorem St.baseX{Z:Nat->Prop}(h:St (Gh.lent Z) L H W)(hw:w∈L)(ho:lv Z w.heap.size H):aQ Z w W:=
 (h.links w hw).mono λk hk hx=>by
  rcases hx with hx|hx
  ·exact hx
  obtain⟨p,hp,rfl⟩:=dO.1 hx;rcases ho.mem p hp with h|h
  ·exact h
  omega
section
variable {fn:Func}
variable {ex:Exit} {ys:List UInt8} {cq:List Value}
section
variable {b' e aR:Nat}(he:ex= .ret\/ex= .normal)(hr:fn.results=#[.tmp t])(hv:look E t=some (bB b' ys.length aR))(hi:H[i]? =some (b',bF e ys cq))(hw:w∈L)
include b' aR he hr hv hi hw
theorem ngk(ho:lv (· =b) w.heap.size H)(hk:cS ys aR cq):PJ C (bodyPost C.P fn (P1 w b e ys)) ex E [] (Gh.lent (· =b)) L H:=
 bH he (rs:=[.tmp t]) hr (RS.t hv RS.n) λW hS=>⟨b',aR,cq,rfl,hS.baseX hw ho,ho.mem _ (cF hi),hk,hS.own _ (cF hi)⟩
theorem P8(ho:Over w.heap.size H)(hk:cS ys aR cq):PJ C (bodyPost C.P fn (Ck w e ys)) ex E [] Gh.no L H:=
 bH he (rs:=[.tmp t]) hr (RS.t hv RS.n) λW hS=>⟨b',aR,cq,rfl,hS.base hw ho,ho.mem _ (cF hi),hk,hS.own _ (cF hi)⟩
end
end
variable {ys:List UInt8} {cap first:List Value}
theorem UZ{e:Nat}(hi:H[i]? =some (b,o))(hx:ev E x=some (.func (.func f) first.toArray cap.toArray))(aF:fh C.P f)(hw:nr ops E g=some true)(hN:Nat.blt d C.N=true)(ha:jt E xs=some vs)(hF:Fr G L b)(hc:∀W,St G L H W->W.heap[b]? =some o->Calls C.P f (first++vs++cap).toArray W (P1 W b e ys))(k:∀b' aR cq,Fr G L b'->cS ys aR cq->OJ C ops Q l ((d,bB b' ys.length aR)::E) D G L (H.set i (b',bF e ys cq))):OJ C ops Q (⟨some d,.call ⟨.value x,xs.toArray,eY⟩,ty,pos,aD,g⟩::l) E D G L H:=
 sZ rfl hw hx ha zP aF λa W jY hD aq hS=>(hc W hS (hS.own _ (cF hi))).mono (by
  rintro ed W' ⟨b',aR,cq,rfl,hk,gp,hr,gi⟩;have J:=λa6 gW=>k b' aR cq a6 hr (a.put (some d) (bB b' ys.length aR)) W' mV lz (aq.put _ z2) gW;rcases gp with rfl|gp
  ·exact J hF (hS.put hi hk gi)
  refine J (Fr.up hS gp) ?_;have kx:=(bO.1 (hS.own _ (cF hi))).1;obtain⟨ob,CG⟩:∃ob,W'.heap[b]? =some ob:=⟨W'.heap[b]'(oh kx hk.size),Array.getElem?_eq_getElem _⟩;have h1:=hS.put hi hk CG;have wD:=(qe.1 hi).1;have h2:(H.set i (b,ob))[i]? =some (b,ob):=by rw[List.getElem?_set_self wD]
  have h3:=(h1.perm (Uk _ _ _ h2)).dropF hF;have a8:(H.set i (b,ob)).eraseIdx i=H.eraseIdx i:=by rw[List.eraseIdx_set_eq]
  rw[a8]at h3;have jB:cu (H.eraseIdx i) b':=cu.of_mem λhm=>by
   obtain⟨p,hp,e⟩:=dO.1 hm;have:=hS.lt p (List.mem_of_mem_eraseIdx hp);omega
  have h4:=h3.adopt gi jB (λhv=>zYY);exact h4.perm (nHg H i _ wD).symm)
theorem JK{e:Nat}(aF:fh C.P f)(hw:nr ops E g=some true)(hN:Nat.blt d C.N=true)(ha:jt E xs=some vs)(hc:∀W,St G L H W->Calls C.P f vs.toArray W (Ck W e ys))(k:∀b' aR cq,ah L b'->cu H b'->¬G.X b'->cS ys aR cq->OJ C ops Q l ((d,bB b' ys.length aR)::E) D G L ((b',bF e ys cq)::H)):OJ C ops Q (⟨some d,.call ⟨.value (.func f),xs.toArray,eY⟩,ty,pos,aD,g⟩::l) E D G L H:=
 sZ rfl hw rfl ha zP aF λa W jY hD hF hS=>(hc W hS).mono (by
  rintro ed W' ⟨b',aR,cq,rfl,hb,J,hr,gi⟩;exact k b' aR cq (M4 hS J) (Ca hS J) (λhx=>zYBY) hr (a.put (some d) (bB b' ys.length aR)) W' mV lz (hF.put _ z2)
   ((hS.step hb).adopt gi (Ca hS J) (λhv=>zYY)))
theorem OJ.dropF(hi:H[i]? =some (b,o))(ha:Fr G L b)(k:OJ C ops Q l E D G L (H.eraseIdx i)):OJ C ops Q l E D G L H:=λa W hN hD hF hS=>k a W hN hD hF (hS.dropAtF hi ha)
theorem PJ.dropF{J:Exit}(hi:H[i]? =some (b,o))(ha:Fr G L b)(k:PJ C Q J E D G L (H.eraseIdx i)):PJ C Q J E D G L H:=λa W hN hD hF hS=>k a W hN hD hF (hS.dropAtF hi ha)
theorem Dp{e:Nat}{z:Value}{ps:List (Nat×Operand)}{vs:List (Nat×Value)}(zs:List UInt8)(hB:zw C.P T e)(hz:zc C.P e z)(hw:nr ops E g=some true)(hN:Nat.blt d C.N=true)(ha:M1 E ps=some vs)(J:Nat.ble (n*1) 16777216=true)(hs:vs=wR 0 (vs.map (·.2)))(hl:vs.length=n)(hm:Pu 1 (vs.map (·.2))=true)(IG:I8 (vs.map (·.2))=ub zs)(hn:n=zs.length)(k:∀(b:Nat),ah L b->cu H b->¬G.X b->cS zs n []->OJ C ops Q l ((d,bB b zs.length n)::E) D G L ((b,bF e zs [])::H)):OJ C ops Q (⟨some d,.buildSlice T n ps.toArray,ty,pos,aD,g⟩::l) E D G L H:=
 rF zP hw hN λa W hF hS=>⟨_,_,_,_,npe hB.und hB.sz hz (Uh hF ps vs ha) J (Ui (by
  have:=nHf 1 (vs.map (·.2)) 0 [] ((Array.range (n*1)).map (λj=>((if n*1=0 then #[]else z.cells)[j%(if n*1=0 then #[]else z.cells).size]!))).toList hm zP cM;rw[<-hs]at this;exact this)),hS.alloc _,by
   have:=k W.heap.size hS.sizes hS.offNew hS.mNew ⟨by omega,by simp;omega⟩
   grind⟩
end
/-! ### values of the codec -/
inductive V where
 |int (n:Int)
 |text (s:ByteArray)
 |list (l:List V)
theorem V.ind{p:V->Prop}(h1:∀n,p (.int n))(h2:∀s,p (.text s))(h3:∀l,(∀y∈l,p y)->p (.list l)):∀x,p x:=by
 intro x;exact V.rec (motive_1:=p) (motive_2:=λl=>∀y∈l,p y) h1 h2 h3 zP (λx l hx hl y hy=>by
  grind) x
def V.kind:V->Int
 | .int _=>1
 | .text _=>2
 | .list _=>3
def num (u:Nat):List UInt8:=if h:u<128 then[UInt8.ofNat u]else UInt8.ofNat (u%128+128)::num (u/128)
termination_by u
decreasing_by omega
theorem UU{u:Nat}(h:u<128):num u=[UInt8.ofNat u]:=by rw[num,dif_pos h]
theorem nEk{u:Nat}(h:¬u<128):num u=UInt8.ofNat (u%128+128)::num (u/128):=by rw[num,dif_neg h]
theorem JC(u:Nat):0<(num u).length:=by grind [UU,nEk]
theorem M5:∀(k u:Nat),u<128^k->0<k->(num u).length<=k:=
 by intro x;induction x<;>(grind [UU,nEk])
theorem zy{u:Nat}(h:u<18446744073709551616):(num u).length<=10:=M5 10 u (oh h zF) aa
def zx (n:Int):Nat:=if 0<=n then(2*n).toNat else(-2*n-1).toNat
mutual
def V.enc:V->List UInt8
 | .int n=>1::num (zx n)
 | .text s=>2::(num s.size++s.data.toList)
 | .list l=>3::(num l.length++V.encL l)
def V.encL:List V->List UInt8
 | []=>[]
 |x::l=>V.enc x++V.encL l
end
mutual
def V.depth:V->Nat
 | .int _=>0
 | .text _=>0
 | .list l=>V.depthL l+1
def V.depthL:List V->Nat
 | []=>0
 |x::l=>max (V.depth x) (V.depthL l)
end
theorem V.encL_take_le(l:List V):∀i,(V.encL (l.take i)).length<=(V.encL l).length:=by
 induction l with
 |nil=>simp
 |cons x l ih=>intro i;cases i<;>grind [V.encL]
theorem V.depthL_snoc(l:List V)(x:V):V.depthL (l++[x])=max (V.depthL l) x.depth:=by
 induction l<;>grind [V.depthL]
theorem V.depthL_take(l:List V)(i:Nat)(h:i<l.length):V.depthL (l.take (i+1))=max (V.depthL (l.take i)) (l[i]).depth:=by
 rw[aAt h,V.depthL_snoc]
mutual
def V.fine:V->Prop
 | .int n=> -9223372036854775808<=n/\n<=9223372036854775807
 | .text s=>s.size<=1000000000
 | .list l=>l.length<=1000000000/\V.depthL l<=1000000000/\V.fineL l
def V.fineL:List V->Prop
 | []=>True
 |x::l=>V.fine x/\V.fineL l
end
theorem V.fineL_mem:∀{l:List V},V.fineL l->∀x∈l,x.fine
 | [],_,x,hx=>by cases hx
 |y::l,h,x,hx=>by
  rcases ft.1 hx with rfl|hx
  ·exact h.1
  exact V.fineL_mem h.2 x hx
theorem V.depthL_mem:∀{l:List V} (x:V),x∈l->x.depth<=V.depthL l
 | [],x,hx=>by cases hx
 |y::l,x,hx=>by
  simp[V.depthL];rcases ft.1 hx with rfl|hx
  ·omega
  have:=V.depthL_mem (l:=l) x hx;omega
abbrev vI (n:Int):Value:=.agg #[.int .i64 1,.int .i64 n,.string ⟨#[]⟩,.slice none 0 0]
abbrev vT (s:ByteArray):Value:=.agg #[.int .i64 2,.int .i64 0,.string s,.slice none 0 0]
abbrev vL (base:Option Addr) (n cap:Nat):Value:=.agg #[.int .i64 3,.int .i64 0,.string ⟨#[]⟩,.slice base n cap]
mutual
def ef (N:Nat) (w:World):V->Value->Prop
 | .int n,v=>v=vI n
 | .text s,v=>v=vT s
 | .list l,v=>∃base cap,v=vL base l.length cap/\l.length<=cap/\(l=[]\/∃b cs t fr,base=some ⟨b,0,none⟩/\b<N/\w.heap[b]? =some (.cells cs t fr)/\iT N w cs 0 l)
def iT (N:Nat) (w:World) (cs:Array Value):Nat->List V->Prop
 |_,[]=>True
 |off,x::l=>off+4<=cs.size/\ef N w x (.agg (cut cs off 4))/\iT N w cs (off+4) l
end
theorem iT.get{N:Nat}{w:World}{cs:Array Value}:∀{l:List V} {off:Nat},iT N w cs off l->∀(i:Nat) (h:i<l.length),off+4*i+4<=cs.size/\ef N w l[i] (.agg (cut cs (off+4*i) 4))
 | [],_,_,i,h=>by simp at h
 |x::l,off,hv,i,h=>by
  simp[iT]at hv;cases i with
  |zero=>grind
  |succ i=>
   have:=iT.get hv.2.2 i cM
   grind
variable {N:Nat} {w:World}
theorem ef.up{N':Nat}{w':World}(hN:N<=N')(hw:∀k,k<N->w'.heap[k]? =w.heap[k]?):∀(x:V) (v:Value),ef N w x v->ef N' w' x v:=by
 refine V.ind ?_ ?_ ?_
 ·grind [ef]
 ·grind [ef]
 intro l ih v h;obtain⟨base,cap,hv,hc,hl⟩:=h;refine⟨base,cap,hv,hc,?_⟩;rcases hl with hl|⟨b,cs,t,fr,hb,hlt,hcs,hs⟩
 ·grind
 refine .inr ⟨b,cs,t,fr,hb,by omega,(hw b hlt).trans hcs,?_⟩;clear hb hlt hcs hc hv;generalize 0=off at *;induction l generalizing off<;>grind [iT]
theorem ef.us{w':World}(hw:∀k,k<N->w'.heap[k]? =w.heap[k]?):∀(x:V) (v:Value),ef N w x v->ef N w' x v:=ef.up (aC _) hw
theorem ef.shape:∀{x:V} {v:Value},ef N w x v->∃n s p m c,v= .agg #[.int .i64 x.kind,.int .i64 n,.string s,.slice p m c]
 | .int n,v,h=>by grind [V.kind,ef]
 | .text s,v,h=>by grind [V.kind,ef]
 | .list l,v,h=>by grind [V.kind,ef]
variable {G:Gh} {H:ae} {L:List World} {W:World}
theorem St.same(h:St G L H W)(hw:w∈L)(hN:N<=w.heap.size)(J:∀k,k<N->¬G.X k)(hH:Over N H):∀k,k<N->W.heap[k]? =w.heap[k]? :=λk hk=>
 (h.links w hw).block k aa (λhx=>by
  rcases hx with hx|hx
  ·grind
  obtain⟨p,hp,rfl⟩:=dO.1 hx;have:=hH.mem p hp;omega)
theorem St.sm(h:St G L H W)(hw:w∈L:=by first|exact A0|exact A1|exact A2|exact A3|exact A4|exact A5|exact A6|exact A7|exact A8|exact A9)(hN:N<=w.heap.size:=by assumption)(J:∀k,k<N->¬G.X k:=by exact λ_ _ h=>h)(hH:Over N H:=by first|exact True.intro|(simp only[Over,book,gU,fP,dG,lP,eI,gB,vh,zz,and_true];omega)|(simp[Over]<;>omega)):∀k,k<N->W.heap[k]? =w.heap[k]? :=h.same hw hN J hH
section
variable {C:Cx} {Q:bA} {E:Env} {D:List Deferred} {G:Gh} {L:List World} {H:ae} {ops:Array Oper} {l:List Oper}
variable {d T U ty f:Nat} {pos:String} {aD:Array Edge} {g:Option (Nat×Bool)} {x y:Operand} {xs:List Operand} {vs:List Value} {eY:Array Nat}
variable {t:Nat}
theorem qL{s:ByteArray}(hU:C.P.underlying t=some .string)(hx:ev E x=some (.string s)):RV C G L H E (.call ⟨.builtin .len,#[x],#[t]⟩) (.int .i64 (s.size:Int)):=λd ty pos aD g a W hF _=>by
 simp[execOp,hF.ev hx,resolve,invoke,builtin,Builtin.len_,run_underlying hU,goInt]
theorem xR{s t:ByteArray}(hx:ev E x=some (.string s))(hy:ev E y=some (.string t)):RV C G L H E (.binOp .eql T x y U) (.bool (s.toList==t.toList)):=λd ty pos aD g a W hF _=>by
 simp[execOp,eqGuard,binOp,Op.stringOp,hF.ev hx,hF.ev hy]
theorem xT{K:IntKind}{m n:Int}{t1 t2:Nat}(hx:ev E x=some (.int K m))(hy:ev E y=some (.int K n)):RV C G L H E (.call ⟨.builtin .max,#[x,y],#[t1,t2]⟩) (.int K (max m n)):=λd ty pos aD g a W hF _=>by
 have:(if m<n then n else m)=max m n:=by omega
 simp[execOp,hF.ev hx,hF.ev hy,resolve,invoke,builtin,Builtin.max_,Builtin.max2,this]
end
theorem gh{α:Type}{l:List α}(h:l.length=1):∃a,l=[a]:=by
 (cases l<;>grind)
theorem kY{α:Type}{l:List α}(h:l.length=2):∃a b,l=[a,b]:=by
 match l,h with
 | [a,b],_=>simp
theorem gO{α:Type}{l:List α}(h:l.length=3):∃a b c,l=[a,b,c]:=by
 match l,h with
 | [a,b,c],_=>simp
theorem uQ{α:Type}{l:List α}(h:l.length=4):∃a b c d,l=[a,b,c,d]:=by
 match l,h with
 | [a,b,c,d],_=>simp
theorem RQ{α:Type}{l:List α}(h:l.length=5):∃a b c d e,l=[a,b,c,d,e]:=by
 match l,h with
 | [a,b,c,d,e],_=>simp
section
variable {C:Cx} {Q:bA} {E:Env} {D:List Deferred} {G:Gh} {L:List World} {H:ae} {id:Nat}
variable {e:Exit}
theorem nHo{p q:Nat×Obj}(k:PJ C Q e E D G L (p::q::H)):PJ C Q e E D G L (q::p::H):=λa W hN hD hF hS=>k a W hN hD hF (hS.perm (List.Perm.swap p q H))
end
section
variable {C:Cx} {Q:bA} {E:Env} {D:List Deferred} {G:Gh} {L:List World} {H:ae} {ops:Array Oper} {l:List Oper}
variable {d T ty f:Nat} {pos:String} {aD:Array Edge} {g:Option (Nat×Bool)} {x y:Operand} {xs:List Operand} {vs:List Value} {eY:Array Nat}
variable {ys:List UInt8} {cap first:List Value}
theorem P9{e:Nat}(hx:ev E x=some (.func (.func f) first.toArray cap.toArray))(aF:fh C.P f)(hw:nr ops E g=some true)(hN:Nat.blt d C.N=true)(ha:jt E xs=some vs)(hc:∀W,St G L H W->Calls C.P f (first++vs++cap).toArray W (Ck W e ys))(k:∀b' aR cq,ah L b'->cu H b'->¬G.X b'->cS ys aR cq->OJ C ops Q l ((d,bB b' ys.length aR)::E) D G L ((b',bF e ys cq)::H)):OJ C ops Q (⟨some d,.call ⟨.value x,xs.toArray,eY⟩,ty,pos,aD,g⟩::l) E D G L H:=
 sZ rfl hw hx ha zP aF λa W jY hD hF hS=>(hc W hS).mono (by
  rintro ed W' ⟨b',aR,cq,rfl,hb,J,hr,gi⟩;exact k b' aR cq (M4 hS J) (Ca hS J) (λhx=>zYBY) hr (a.put (some d) (bB b' ys.length aR)) W' mV lz (hF.put _ z2)
   ((hS.step hb).adopt gi (Ca hS J) (λhv=>zYY)))
def nFj (w:World) (e:Nat) (ys:List UInt8):Ending->World->Prop:=λed w'=>
 ∃b' aR cq,ed= .returned (.tuple #[bB b' ys.length aR,.int .i64 0])/\Below w.heap.size w w'/\w.heap.size<=b'/\cS ys aR cq/\w'.heap[b']? =some (bF e ys cq)
variable {ex:Exit} {fn:Func} {cq:List Value} {i t:Nat}
theorem Dz{u b' e aR:Nat}(he:ex= .ret\/ex= .normal)(hr:fn.results=#[.tmp t,.tmp u])(hv:look E t=some (bB b' ys.length aR))(hu:look E u=some (.int .i64 0))(hi:H[i]? =some (b',bF e ys cq))(hw:w∈L)(ho:Over w.heap.size H)(hk:cS ys aR cq):PJ C (bodyPost C.P fn (nFj w e ys)) ex E [] Gh.no L H:=
 bH he (rs:=[.tmp t,.tmp u]) hr (RS.t hv (RS.t hu RS.n)) λW hS=>⟨b',aR,cq,rfl,hS.base hw ho,ho.mem _ (cF hi),hk,hS.own _ (cF hi)⟩
theorem nkg{e:Nat}(aF:fh C.P f)(hw:nr ops E g=some true)(hN:Nat.blt d C.N=true)(ha:jt E xs=some vs)(hc:∀W,St G L H W->Calls C.P f vs.toArray W (nFj W e ys))(k:∀b' aR cq,ah L b'->cu H b'->¬G.X b'->cS ys aR cq->OJ C ops Q l ((d,.tuple #[bB b' ys.length aR,.int .i64 0])::E) D G L ((b',bF e ys cq)::H)):OJ C ops Q (⟨some d,.call ⟨.value (.func f),xs.toArray,eY⟩,ty,pos,aD,g⟩::l) E D G L H:=
 sZ rfl hw rfl ha zP aF λa W jY hD hF hS=>(hc W hS).mono (by
  rintro ed W' ⟨b',aR,cq,rfl,hb,J,hr,gi⟩;exact k b' aR cq (M4 hS J) (Ca hS J) (λhx=>zYBY) hr (a.put (some d) _) W' mV lz (hF.put _ z2)
   ((hS.step hb).adopt gi (Ca hS J) (λhv=>zYY)))
theorem Ye{v:Value}(hx:ev E x=some (.func (.func f) first.toArray cap.toArray))(aF:fh C.P f)(hw:nr ops E g=some true)(hN:Nat.blt d C.N=true)(ha:jt E xs=some vs)(hc:∀W,St G L H W->Calls C.P f (first++vs++cap).toArray W (ar W v))(k:OJ C ops Q l ((d,v)::E) D G L H):OJ C ops Q (⟨some d,.call ⟨.value x,xs.toArray,eY⟩,ty,pos,aD,g⟩::l) E D G L H:=
 sZ rfl hw hx ha zP aF λa W jY hD hF hS=>(hc W hS).mono (by
  rintro e W' ⟨rfl,hb⟩;exact k (a.put (some d) v) W' mV lz (hF.put _ z2) (hS.step hb))
theorem nUp{Pre:World->Prop}{Φ:Value->World->Prop}{v:Value}(hx:ev E x=some (.func (.func f) first.toArray cap.toArray))(aF:fh C.P f)(hw:nr ops E g=some true)(ha:jt E xs=some vs)(hc:∀W,St G L H W->Pre W->Calls C.P f (first++vs++cap).toArray W (ar W v))(J:∀W,Φ v W):X C ops G L H E Pre ⟨some d,.call ⟨.value x,xs.toArray,eY⟩,ty,pos,aD,g⟩ Φ:=by
 intro a W K Q jY hF hS hP hk;rw[if_pos (zb hF hw)];refine⟨λ_ _=>trivial,?_⟩;have hr:(execOp a.eval ⟨some d,.call ⟨.value x,xs.toArray,eY⟩,ty,pos,aD,g⟩).run C.P W= .ok (.enter f (first++vs++cap).toArray) W:=by
  have h2:(xs.toArray).map a.eval=vs.toArray:=by rw[CS,MQ hF xs vs ha]
  simp only[execOp,resolve,hF.ev hx,Deferred.ofValue,h2];simp[invoke,aF _ W]
 rw[Oper.semAt_eq _ _ _ zP,hr];refine⟨by simp,I6.2 ((hc W hS hP).mono ?_)⟩;rintro e W' ⟨rfl,hb⟩
 grind
end
/-! ### deferred calls, and recover -/
def Ih (cs:List Frame):Value×List Frame:=match recoverD cs with|some p=>p|none=>(.nilIface,cs)
theorem npp(cs:List Frame):(Ih cs).2.length=cs.length:=by
 grind [Ih,recoverD_length]
variable {Q:Exit->Act->List Frame->World->Prop} {n:Nat} {P:Program}
theorem nIs{F:Fence}{a:Act}{cs:List Frame}{w':World}{id:Nat}{ops:Array Oper}{o:Oper}{rest:List Nat}(U3:F.round=none)(a6:List.range ops.size=0::rest)(ho:ops[0]? =some o)(hw:Region.wanted o (yielded ops a.tmps)=true)(BS:∀f,o.about P w a.eval=some f->F.fn f)(hr:(execOp a.eval o).run P w= .ok .recover w')(h:wpOpsIn F n P ops (λe a' w'=>Q e a' (Ih cs).2 w') rest (a.put o.dst (Ih cs).1) w'):(Code.region id ops false).wpSIn F n P Q a cs w:=by
 intro b k hb aq hF lA;have h0:(lone (b.atR a (.inRegion ops (0::rest)::k)) cs w).fenced P F:=fenced_oper hF lA ho BS;have hg:=stepGR_op (P:=P) (b:=b) (k:=k) (cs:=cs) (w:=w) (rest:=rest) ho hw;rw[aq,Oper.semAt_none]at hg;have cC:∀v,(b.atR a (.inRegion ops (0::rest)::k)).finish v=b.atR (a.put o.dst v) (.inRegion ops rest::k):=by
  intro v;rw[Frame.finish_atR,ho];rfl
 have hk:(b.atR a (.inRegion ops (0::rest)::k)).kind= .deferred:=hb;have fe:=tryRecover_deferred hk cs;have hlen:=npp cs;obtain⟨e,a',a8,hq,bg⟩:=wp_opsIn rest (a.put o.dst (Ih cs).1) w' h b k (Ih cs).2 (aq.trans U3.symm) hF cM;refine⟨e,a',(Ih cs).2,a8,hlen,hq,?_⟩;have J:=stepR_region (P:=P) (b:=b) (a:=a) (id:=id) (ops:=ops) (k:=k) (cs:=cs) (w:=w);rw[a6]at J;refine .of_steps (.head (fenced_calm hF lA rfl) J (.one h0 (step_lone_go ?_))) bg;unfold Ih;cases vd:recoverD cs<;>simp_all[Frame.atR,stepG.apply]
variable {aD:Array Edge} {eY:Array Nat} {R:Ending->World->Prop} {fn:Func} {vs:List Value} {pos:String}
theorem J0{f:Nat}{l:List Oper}{id d ty:Nat}(u u':FrameMode)(rv:Value)(hu:∀(J:Frame) (cs:List Frame),J.mode=u->Ih (J::cs)=(rv,{J with mode:=u'}::cs))(hf:P.funcs[f]? =some fn)(hb:fn.body=some (.region id ((⟨some d,.call ⟨.builtin .recover,#[],eY⟩,ty,pos,aD,none⟩:Oper)::l).toArray false))(hN:fn.ntmps=N)(hl:Nat.ble vs.length N=true)(hd:Nat.blt d N=true)(hS:St G [w] H w)(h:OJ ⟨P,none,N⟩ ((⟨some d,.call ⟨.builtin .recover,#[],eY⟩,ty,pos,aD,none⟩:Oper)::l).toArray (bodyPost P fn R) l ((d,rv)::AN 0 vs) [] G [w] H):CallsDIn (FW none) 0 P f vs.toArray u w (λe aq w'=>aq=u'/\R e w'):=by
 refine callsDIn_of_wpSIn hf hb trivial λJ cs hc=>?_;have jY:(vs.toArray++Array.replicate (fn.ntmps-vs.toArray.size) undef).size=N:=by
  have:=fy hl;simp[hN];omega
 have hF:Fits (AN 0 vs) ⟨vs.toArray++Array.replicate (fn.ntmps-vs.toArray.size) undef,[]⟩:=n6d vs _;have pJ:=hu J cs hc;refine nIs (w':=w) (rest:=List.range' 1 l.length) rfl ?_ rfl ?_ (λ_ _=>trivial) ?_ ?_
 ·simp[List.range_eq_range',List.range'_succ]
 ·rfl
 ·rfl
 rw[pJ,wpOpsIn_eq_wpListIn l 1 (λj=>by simp[Nat.add_comm])];have bu:=h ((⟨vs.toArray++Array.replicate (fn.ntmps-vs.toArray.size) undef,[]⟩:Act).put (some d) rv) w (by grind [Act.put]) rfl (hF.put rv z2) hS;have mono:∀(l':List Oper) (a:Act) (W:World),wpListIn (FW none) 0 P ((⟨some d,.call ⟨.builtin .recover,#[],eY⟩,ty,pos,aD,none⟩:Oper)::l).toArray (bodyPost P fn R) l' a W->
  wpListIn (FW none) 0 P ((⟨some d,.call ⟨.builtin .recover,#[],eY⟩,ty,pos,aD,none⟩:Oper)::l).toArray (λe a' w'=>bodyPostS P fn J cs (λe aq w'=>aq=u'/\R e w') e a' ({J with mode:=u'}::cs) w') l' a W:=by
  intro l';induction l' with
  |nil=>
   intro a W hq;obtain⟨h1,v,h2,h3⟩:=hq;exact⟨h1,u',rfl,v,h2,rfl,h3⟩
  |cons o l' ih=>
   intro a W hq;unfold wpListIn at hq ⊢;split
   ·rename_i a8;rw[if_pos a8]at hq;refine n0j (λa' W' hk=>ih a' W' hk) (λc a' W' hk=>?_) (λhk=>?_) hq
    ·obtain⟨h1,h2⟩:=hk;exact⟨h1,u',rfl,rfl,h2⟩
    obtain⟨a0,w0,hk⟩:=hk;exact⟨a0,w0,u',rfl,hk⟩
   grind
 grind
theorem nzm(J:Frame)(cs:List Frame)(h:J.mode= .returning):Ih (J::cs)=(.nilIface,{J with mode:=.returning}::cs):=by
 simp[Ih,recoverD,h];rw[<-h]
variable {c:Code}
theorem Qs{f:Nat}(G:Gh)(H:ae)(hf:P.funcs[f]? =some fn)(hb:fn.body=some c)(hN:fn.ntmps=N)(hl:Nat.ble vs.length N=true)(hS:St G [w] H w)(h:CJ ⟨P,none,N⟩ c (bodyPostDIn (FW none) 0 P fn R) (AN 0 vs) [] G [w] H):Calls P f vs.toArray w R:=by
 rw[<-I6 (r:=none) (n:=0)];refine callsIn_of_wp_defers hf hb trivial (h _ w ?_ rfl ?_ hS);all_goals simp_all[n6d]
section
variable {P:Program} {N:Nat} {Q:bA} {E:Env} {D:List Deferred} {G:Gh} {L:List World} {H:ae} {ops:Array Oper} {l:List Oper}
variable {ty f:Nat} {pos:String} {aD:Array Edge} {g:Option (Nat×Bool)} {x:Operand}
variable {cap:List Value}
theorem OJ.defer(hw:nr ops E g=some true)(hx:ev E x=some (.func (.func f) #[] cap.toArray))(k:OJ ⟨P,none,N⟩ ops Q l E ({target:=.fn (.func f) cap.toArray,args:=#[]}::D) G L H):OJ ⟨P,none,N⟩ ops Q (⟨none,.defer ⟨.value x,#[],eY⟩,ty,pos,aD,g⟩::l) E D G L H:=by
 intro a W jY hD hF hS;unfold wpListIn;rw[if_pos (zb hF hw)];refine⟨λ_ _=>trivial,?_⟩;have hr:(execOp a.eval ⟨none,.defer ⟨.value x,#[],eY⟩,ty,pos,aD,g⟩).run P W= .ok (.defer {target:=.fn (.func f) cap.toArray,args:=#[]}) W:=by
  simp[execOp,resolve,hF.ev hx,Deferred.ofValue]
 rw[Oper.semAt_none,hr];exact k _ W jY lz (λt v hv=>hF t v hv) hS
variable {ex:Exit} {rs:List ResultVar}
theorem ahY(he:ex= .ret\/ex= .normal)(aF:fh P f)(hc:∀W,St G L H W->CallsDIn (FW none) 0 P f cap.toArray .returning W (λe u' w'=>u'= .returning/\(∃v,e= .returned v)/\Below W.heap.size W w'))(hr:fn.results=rs.toArray)(h:RS ⟨P,none,N⟩ G L H E rs vs)(hR:∀W,St G L H W->R (.returned (Ug vs)) W):PJ ⟨P,none,N⟩ (bodyPostDIn (FW none) 0 P fn R) ex E [{target:=.fn (.func f) cap.toArray,args:=#[]}] G L H:=by
 intro a W jY hD hF hS;have key:LeavesIn (FW none) 0 P fn a.tmps R a.defers .returning W:=by
  rw[hD];refine leavesIn_cons (f:=f) (args:=cap.toArray) zP zP (by simp[invoke,aF _ W]) (λ_ _=>trivial) ?_;refine(hc W hS).mono ?_;rintro e u' w' ⟨rfl,⟨v,rfl⟩,hb⟩;exact⟨_,h.res hr hF (hS.step hb),hR w' (hS.step hb)⟩
 exact WR
end
/-! ### several blocks that are lent -/
def keys (H:ae):List Nat:=H.map (·.1)
def uc (G:Gh) (L:List World):ae->Prop
 | []=>True
 |p::H=>Fr G L p.1/\uc G L H
theorem uc.mem{G:Gh}{L:List World}:∀{H:ae},uc G L H->∀p∈H,Fr G L p.1
 | [],_,p,hp=>by cases hp
 |q::H,h,p,hp=>by
  rcases ft.1 hp with rfl|hp
  ·exact h.1
  exact uc.mem h.2 p hp
theorem St.swapZ{Hz H0 Hn:ae}{W':World}(h:St G L (Hz++H0) W)(hk:aQ (λk=>k∈keys Hz) W W')(sk:uc G L Hz)(hn:∀p∈Hn,W'.heap[p.1]? =some p.2/\(p.1∈keys Hz\/W.heap.size<=p.1))(hd:ky Hn):St G L (Hn++H0) W':=by
 have hnd:=(AO (Hz++H0)).1 h.nodup;rw[iM,List.nodup_append]at hnd;obtain⟨eO,dz,dK⟩:=hnd;have Up:∀p∈H0,p.1∉keys Hz:=λp hp hm=>dK p.1 hm p.1 (dO.2 ⟨p,hp,rfl⟩) rfl;have a8:∀p∈H0,W'.heap[p.1]? =some p.2:=λp hp=>by
  rw[hk.block p.1 (h.lt p (by simp[hp])) (Up p hp)];exact h.own p (by simp[hp])
 refine⟨?_,λk hv=>oh (h.vlt k hv) hk.size,λk hv=>oh (h.xlt k hv) hk.size,λw hw=>?_,λp hp=>?_,?_,λp hp=>?_⟩
 ·refine G.stab W W' h.ghost hk.os hk.tape hk.output hk.drawn hk.size (λk hv=>hk.block k (h.vlt k hv) λhm=>?_);obtain⟨p,hp,rfl⟩:=dO.1 hm;exact h.apart p (by simp[hp]) hv
 ·have hl:=h.links w hw;refine⟨hk.os.trans hl.os,hk.tape.trans hl.tape,hk.output.trans hl.output,dS hl.drawn hk.drawn,dS hl.size hk.size,λk aq hx=>?_⟩;have J:k∉keys Hz:=λhm=>by
   obtain⟨p,hp,rfl⟩:=dO.1 hm;rcases sk.mem p hp with hf|hf
   ·grind
   have:=hf.mem w hw;omega
  rw[hk.block k (oh aq hl.size) J];refine hl.block k aq λhy=>?_;simp only[iM,dQ]at hy;rcases hy with hy|hy|hy
  ·grind
  ·exact J hy
  grind
 ·grind
 ·rw[AO,iM,List.nodup_append];refine⟨(AO Hn).1 hd,dz,λa ha b hb e=>?_⟩;obtain⟨p,hp,rfl⟩:=dO.1 ha;obtain⟨q,hq,e⟩:=dO.1 hb;rcases(hn p hp).2 with h1|h1
  ·grind
  have:=h.lt q (by simp[hq]);omega
 rcases dQ.1 hp with hp|hp
 ·intro hv;rcases(hn p hp).2 with h1|h1
  ·obtain⟨q,hq,e⟩:=dO.1 h1;exact h.apart q (by simp[hq]) (e▸hv)
  have:=h.vlt _ hv;omega
 exact h.apart p (by simp[hp])
def vS {α:Type} (w:World) (Z:List Nat) (v:α->Value) (Hn:α->ae) (Φ:α->Prop):Ending->World->Prop:=λe w'=>
 ∃x,e= .returned (v x)/\aQ (λk=>k∈Z) w w'/\Φ x/\(∀p∈Hn x,w'.heap[p.1]? =some p.2/\(p.1∈Z\/w.heap.size<=p.1))/\ky (Hn x)
theorem Yi{Hz:ae}(h:∀p∈Hz,w.heap[p.1]? =some p.2)(hd:ky Hz):St (Gh.lent (λk=>k∈keys Hz)) [w] Hz w where
 ghost:=trivial
 vlt:=λ_ h=>h.elim
 xlt:=λk hk=>by
  obtain⟨p,hp,rfl⟩:=dO.1 (show k∈keys Hz from hk)
  grind
 links:=λw' hw=>by grind [aQ.refl]
 own:=h
 nodup:=hd
 apart:=λ_ _ h=>h.elim
def jC (w:World):ae->Prop
 | []=>True
 |p::H=>w.heap[p.1]? =some p.2/\jC w H
theorem jC.mem{w:World}:∀{H:ae},jC w H->∀p∈H,w.heap[p.1]? =some p.2
 | [],_,p,hp=>by cases hp
 |q::H,h,p,hp=>by
  rcases ft.1 hp with rfl|hp
  ·exact h.1
  exact jC.mem h.2 p hp
theorem Yj(p:Nat×Obj):ky [p]:=by rw[AO];simp
theorem Yq{p q:Nat×Obj}(h:p.1≠q.1):ky [p,q]:=by rw[AO];simp[h]
def ue (Z:List Nat) (n:Nat):ae->Prop
 | []=>True
 |p::H=>(p.1∈Z\/n<=p.1)/\ue Z n H
theorem ue.mem{Z:List Nat}{n:Nat}:∀{H:ae},ue Z n H->∀p∈H,p.1∈Z\/n<=p.1
 | [],_,p,hp=>by cases hp
 |q::H,h,p,hp=>by
  rcases ft.1 hp with rfl|hp
  ·exact h.1
  exact ue.mem h.2 p hp
section
variable {C:Cx} {Q:bA} {E:Env} {D:List Deferred} {G:Gh} {L:List World} {H:ae} {ops:Array Oper} {l:List Oper}
variable {d T ty f:Nat} {pos:String} {aD:Array Edge} {g:Option (Nat×Bool)} {x:Operand} {xs:List Operand} {vs:List Value} {eY:Array Nat} {fn:Func}
variable {ex:Exit} {rs:List ResultVar}
theorem DN{α:Type}{v:α->Value}{Hn:α->ae}{Φ:α->Prop}{Hz H0:ae}{us:List Value}(z:α)(he:ex= .ret\/ex= .normal)(hr:fn.results=rs.toArray)(h:RS C (Gh.lent (λk=>k∈keys Hz)) L (Hn z++H0) E rs us)(hw:w∈L)(ho:ue (keys Hz) w.heap.size (Hn z++H0))(hv:Ug us=v z)(J:Φ z):PJ C (bodyPost C.P fn (vS w (keys Hz) v Hn Φ)) ex E [] (Gh.lent (λk=>k∈keys Hz)) L (Hn z++H0):=
 bH he hr h λW hS=>⟨z,by rw[hv],(hS.links w hw).mono (λk hk hx=>by
  rcases hx with hx|hx
  ·exact hx
  ·obtain⟨p,hp,rfl⟩:=dO.1 hx;rcases ho.mem p hp with h|h
   ·exact h
   omega),J,λp hp=>⟨hS.own p (by simp[hp]),ho.mem p (by simp[hp])⟩,by
  have:=(AO _).1 hS.nodup
  grind [AO]⟩
variable {cap first:List Value}
theorem Yo{α:Type}{v:α->Value}{Hn:α->ae}{Φ:α->Prop}{Hz H0:ae}(hH:H=Hz++H0)(hx:ev E x=some (.func (.func f) first.toArray cap.toArray))(aF:fh C.P f)(hw:nr ops E g=some true)(hN:Nat.blt d C.N=true)(ha:jt E xs=some vs)(sk:uc G L Hz)(hc:∀W,St G L (Hz++H0) W->Calls C.P f (first++vs++cap).toArray W (vS W (keys Hz) v Hn Φ))(k:∀z,Φ z->(∀p∈Hn z,p.1∈keys Hz\/(ah L p.1/\cu H p.1))->OJ C ops Q l ((d,v z)::E) D G L (Hn z++H0)):OJ C ops Q (⟨some d,.call ⟨.value x,xs.toArray,eY⟩,ty,pos,aD,g⟩::l) E D G L H:=by
 subst hH;exact sZ rfl hw hx ha zP aF λa W jY hD hF hS=>(hc W hS).mono (by
  rintro ed W' ⟨z,rfl,hk,J,hn,hd⟩;refine k z J (λp hp=>?_) (a.put (some d) (v z)) W' mV lz (hF.put _ z2) (hS.swapZ hk sk hn hd)
  grind [M4,Ca])
variable {i j:Nat}
theorem nIj{p q:Nat×Obj}(hi:H[i]? =some p)(hj:H[j]? =some q)(J:i≠j)(k:p.1≠q.1->OJ C ops Q l E D G L H):OJ C ops Q l E D G L H:=
 λa W hN hD hF hS=>k (λe=>J (hS.nodup i j p q hi hj e)) a W hN hD hF hS
end
/-! ### equality of plain data -/
inductive TK where|i|b|s
def Vb:Value->Value->Bool
 | .int _ a,.int _ b=>a==b
 | .bool a,.bool b=>a==b
 | .string a,.string b=>a.toList==b.toList
 |_,_=>false
def WU:TK->Value->Value->Bool
 | .i,.int k _,.int k' _=>decide (k=k')
 | .b,.bool _,.bool _=>true
 | .s,.string _,.string _=>true
 |_,_,_=>false
def tz:List Value->List Value->Bool
 |x::xs,y::ys=>Vb x y&&tz xs ys
 |_,_=>true
def mw:List TK->List Value->List Value->Bool
 |k::ks,x::xs,y::ys=>WU k x y&&mw ks xs ys
 | [],[],[]=>true
 |_,_,_=>false
theorem Ii{k:TK}{x y:Value}(h:WU k x y=true):Vb x x=true:=by cases k<;>cases x<;>cases y<;>simp_all[WU,Vb]
theorem nZm:∀{ks:List TK} {xs ys:List Value},mw ks xs ys=true->tz xs xs=true
 | [],[],_,_=>rfl
 |k::ks,x::xs,y::ys,h=>by
  simp[mw]at h;simp[tz,Ii h.1,nZm h.2]
 |_::_,[],_,_=>rfl
 |_::_,_::_,[],h=>by simp[mw]at h
 | [],_::_,_,h=>by simp[mw]at h
theorem ndq:∀{ks:List TK} {xs ys:List Value},mw ks xs ys=true->xs.length=ks.length/\ys.length=ks.length
 | [],[],[],_=>⟨rfl,rfl⟩
 |k::ks,x::xs,y::ys,h=>by
  simp[mw]at h;have:=ndq h.2
  grind
 | [],_::_,_,h=>by simp[mw]at h
 | [],[],_::_,h=>by simp[mw]at h
 |_::_,[],_,h=>by simp[mw]at h
 |_::_,_::_,[],h=>by simp[mw]at h
theorem nlk:∀{a b c d:List Value},a.length=c.length->tz (a++b) (c++d)=(tz a c&&tz b d)
 | [],b,[],d,_=>by rfl
 |x::a,b,y::c,d,h=>by
  simp[tz];rw[nlk cM,Bool.and_assoc]
 | [],b,y::c,d,h=>by simp at h
 |x::a,b,[],d,h=>by simp at h
theorem nMj:∀{k1 J:List TK} {a b c d:List Value},a.length=k1.length->c.length=k1.length->mw (k1++J) (a++b) (c++d)=(mw k1 a c&&mw J b d)
 | [],J,[],b,[],d,_,_=>by rfl
 |k::k1,J,x::a,b,y::c,d,h,h'=>by
  simp[mw];rw[nMj cM cM,Bool.and_assoc]
 | [],J,x::a,b,c,d,h,h'=>by simp at h
 | [],J,[],b,y::c,d,h,h'=>by simp at h'
 |k::k1,J,[],b,c,d,h,h'=>by simp at h
 |k::k1,J,x::a,b,[],d,h,h'=>by simp at h'
def J8 (P:Program) (k t:Nat) (ks:List TK):Prop:=∀(d:Nat) (xs ys:List Value) (w:World),mw ks xs ys=true->(Op.equalIn (d+k) t (.agg xs.toArray) (.agg ys.toArray)).run P w= .ok (tz xs ys) w
def Bs (P:Program) (k t:Nat) (ks:List TK):Prop:=∀(d:Nat) (p1 c1 q1 p2 c2 q2:List Value) (w:World),p1.length=p2.length->mw ks c1 c2=true->
 ∃a b,(part t (p1++(c1++q1)).toArray p1.length).run P w= .ok a w/\(part t (p2++(c2++q2)).toArray p1.length).run P w= .ok b w/\(Op.equalIn (d+k) t a b).run P w= .ok (tz c1 c2) w
variable {ks:List TK} {k t:Nat}
theorem Bs.up{k':Nat}(h:Bs P k t ks)(hk:k<=k'):Bs P k' t ks:=λd J c1 q1 p2 c2 q2 w h1 h2=>by
 have:=h (d+(k'-k)) J c1 q1 p2 c2 q2 w h1 h2
 grind
theorem Bs.one{k:TK}(hA:fp P t false)(h:∀(d:Nat) (v u:Value) (w:World),WU k v u=true->(Op.equalIn (d+1) t v u).run P w= .ok (Vb v u) w):Bs P 1 t [k]:=by
 intro d J c1 q1 p2 c2 q2 w h1 h2
 match c1,c2,h2 with
 | [v],[u],h2=>
  simp_all[mw,part,tz]
 | [],_,h2=>simp[mw]at h2
 | [_],[],h2=>simp[mw]at h2
 |_::_::_,[],h2=>simp[mw]at h2
 | [_],_::_::_,h2=>simp[mw]at h2
 |_::_::_,_::_,h2=>simp[mw]at h2
theorem Bs.int{K:IntKind}(hU:P.underlying t=some (.int K))(hA:fp P t false):Bs P 1 t [.i]:=Bs.one hA (by
 intro d v u w h;cases v<;>cases u<;>simp only[WU,Bool.false_eq_true]at h
 rename_i k a k' b;have:k=k':=by simpa using h
 subst this;rw[run_equalIn_int w d t k K a b hU];rfl)
def pQ:Nat->List TK->List TK
 |0,_=>[]
 |n+1,ks=>ks++pQ n ks
variable {m:Nat}
theorem J8.array{len e:Nat}(hU:P.underlying t=some (.array len e))(hZ:nV P e m)(hm:ks.length=m)(h:Bs P k e ks):J8 P (k+1) t (pQ len ks):=by
 intro d xs ys w hs;have key:∀(n i:Nat) (J c1 p2 c2:List Value),J.length=i*m->p2.length=i*m->mw (pQ n ks) c1 c2=true->
  (do
   for j in List.range' i n do
    if !(<-Op.equalIn (d+k) e (<-part e (J++c1).toArray (j*m)) (<-part e (p2++c2).toArray (j*m)))then return false
   pure true:Sem Bool).run P w= .ok (tz c1 c2) w:=by
  intro n;induction n with
  |zero=>
   intro i J c1 p2 c2 _ _ hs
   match c1,c2,hs with
   | [],[],_=>rfl
   |_::_,_,hs=>simp[pQ,mw]at hs
   | [],_::_,hs=>rfl
  |succ n ih=>
   intro i J c1 p2 c2 Se Lf hs;have hl:=ndq hs;simp only[pQ,eU]at hl;obtain⟨a1,b1,rfl,dC⟩:∃a b,c1=a++b/\a.length=ks.length:=⟨c1.take ks.length,c1.drop ks.length,(J2 _ _).symm,by simp;omega⟩;obtain⟨a2,b2,rfl,cL⟩:∃a b,c2=a++b/\a.length=ks.length:=⟨c2.take ks.length,c2.drop ks.length,(J2 _ _).symm,by simp;omega⟩;simp[pQ]at hs;rw[nMj dC cL,vU]at hs;obtain⟨x,y,hx,hy,he⟩:=h d J a1 b1 p2 a2 b2 w aa hs.1;have a6:=ih (i+1) (J++a1) b1 (p2++a2) b2 cM cM hs.2;rw[nlk aa];simp[List.range'_succ]at a6 ⊢;cases hq:tz a1 a2<;>simp_all
 have:=key len 0 [] xs [] ys zP zP hs;simp only[fP]at this;rw[<-Nat.add_assoc];simp only[Op.equalIn,Sem.run_bind,run_underlying hU,Result.andThen_ok,hZ w];simp_all
section
variable {C:Cx} {E:Env} {G:Gh} {L:List World} {H:ae} {T U:Nat} {x y:Operand}
section
variable {ll bs:Array Value}(h:J8 C.P k T ks)(hk:Nat.ble k 10000=true)(hg:C.P.eqGuardType C.P.depth T=false)(hx:ev E x=some (.agg ll))(hy:ev E y=some (.agg bs))(hs:mw ks ll.toList bs.toList=true)
include ll h hk hg hx hy hs
theorem lR:RV C G L H E (.binOp .eql T x y U) (.bool (tz ll.toList bs.toList)):=λd ty pos aD g a W hF _=>by
 have h1:=h (10000-k) ll.toList bs.toList W hs;rw[show 10000-k+k=10000 by simp_all]at h1;have h2:=run_eql_struct (P:=C.P) W T ll bs;rw[h1]at h2;have h3:=run_eqGuard_agg (P:=C.P) W .eql T x y ll bs hg;simp only[execOp,hF.ev hx,hF.ev hy,Sem.run_bind,h3,h2,Result.andThen];rfl
theorem iV:RV C G L H E (.binOp .neq T x y U) (.bool (!tz ll.toList bs.toList)):=λd ty pos aD g a W hF _=>by
 have h1:=h (10000-k) ll.toList bs.toList W hs;rw[show 10000-k+k=10000 by simp_all]at h1;have h2:=run_neq_struct (P:=C.P) W T ll bs;rw[h1]at h2;have h3:=run_eqGuard_agg (P:=C.P) W .neq T x y ll bs hg;simp only[execOp,hF.ev hx,hF.ev hy,Sem.run_bind,h3,h2,Result.andThen];rfl
end
theorem nRp{T e:Nat}(hU:P.underlying T=some (.slice e))(n c:Nat)(d:Nat)(W:World):(Op.equalIn (d+1) T (.slice none n c) (.slice none 0 0)).run P W= .ok true W:=by
 exact Yg
theorem Qt{e:Nat}(hU:C.P.underlying T=some (.slice e))(hx:ev E x=some (.slice none 0 0))(hy:ev E y=some (.slice none 0 0)):RV C G L H E (.binOp .eql T x y U) (.bool true):=λd ty pos aD g a W hF _=>by
 have h1:(eqGuard .eql T x y (.slice none 0 0) (.slice none 0 0)).run C.P W= .ok () W:=by simp[eqGuard]
 have h2:(binOp .eql T (.slice none 0 0) (.slice none 0 0)).run C.P W= .ok (.bool true) W:=by
  have e:binOp .eql T (.slice none 0 0) (.slice none 0 0)=(do pure (.bool (<-Op.equalIn (9999+1) T (.slice none 0 0) (.slice none 0 0)))):=rfl;rw[e,Sem.run_bind,nRp hU];rfl
 exact zfk
end
variable {kt:Nat}
theorem WV(hK:P.underlying kt=some (.int .i64))(b:Bool)(k:Int):(Instr.checkKey b 10000 kt (.int .i64 k)).run P W= .ok () W:=by
 show(Instr.checkKey b (9999+1) kt (.int .i64 k)).run P W= .ok () W;generalize 9999=n;simp[Instr.checkKey,run_underlying hK]
variable {es:Array MapEntry} {b:Nat}
theorem I9{c:Nat}(h:W.heap[b]? =some (.map es c)):(getObj b).run P W= .ok (.map es c) W:=by simp[getObj,Sem.run,h]
theorem WW{c:Nat}(J:Obj)(h:W.heap[b]? =some (.map es c)):(setObj b J).run P W= .ok () (W.putObj b J):=by simp[setObj,Sem.run,h,World.putObj]
section
variable {C:Cx} {Q:bA} {E:Env} {D:List Deferred} {G:Gh} {L:List World} {H:ae} {ops:Array Oper} {l:List Oper}
variable {d T ty:Nat} {pos:String} {aD:Array Edge} {g:Option (Nat×Bool)} {x y z:Operand}
def bL (G:Gh) (L:List World) (H:ae) (b:Nat) (o:Obj):Prop:=∀W,St G L H W->W.heap[b]? =some o
variable {i:Nat} {o:Obj}
theorem bL.own(hi:H[i]? =some (b,o)):bL G L H b o:=λ_ hS=>hS.own _ (cF hi)
theorem bL.old(hm:w∈L)(hb:w.heap[b]? =some o)(hG:¬G.X b)(hO:cu H b):bL G L H b o:=λ_ hS=>hS.old hm hb hG hO
end
def aj {α:Type} (enc:α->Array Value) (n N:Nat) (w:World) (a:Option Addr) (xs:List α):Prop:=
 xs=[]\/∃b off cs t fr,a=some ⟨b,off,none⟩/\b<N/\w.heap[b]? =some (.cells cs t fr)/\∀i (h:i<xs.length),off+i*n+n<=cs.size/\cut cs (off+i*n) n=enc xs[i]
section
variable {α:Type} {enc:α->Array Value} {n N N':Nat} {w w':World} {a:Option Addr} {xs:List α}
theorem aj.up(h:aj enc n N w a xs)(hN:N<=N')(hw:∀k,k<N->w'.heap[k]? =w.heap[k]?):aj enc n N' w' a xs:=by
 grind [aj]
theorem aj.us(h:aj enc n N w a xs)(hw:∀k,k<N->w'.heap[k]? =w.heap[k]?):aj enc n N w' a xs:=h.up (aC _) hw
theorem aj.get(h:aj enc n N w a xs)(hx:0<xs.length):∃b off cs t fr,a=some ⟨b,off,none⟩/\b<N/\w.heap[b]? =some (.cells cs t fr)/\∀i (h:i<xs.length),off+i*n+n<=cs.size/\cut cs (off+i*n) n=enc xs[i]:=by
 grind [cut,aj]
variable {cs:Array Value} {fr:Nat×Nat}
theorem aj.block(hb:b<N)(h:w.heap[b]? =some (.cells cs t fr))(hx:∀i (h:i<xs.length),i*n+n<=cs.size/\cut cs (i*n) n=enc xs[i]):aj enc n N w (some ⟨b,0,none⟩) xs:=
 .inr ⟨b,0,cs,t,fr,rfl,hb,h,λi hi=>by grind⟩
end
variable {cs:Array Value}
theorem yI{r:Array Value}(h:cut cs k n=r)(j:Nat)(hj:j<n):cs[k+j]? =r[j]? :=by grind [cut]
section
variable {α:Type} {enc:α->Array Value} {n off:Nat} {cs:Array Value} {xs:List α}
variable {j:Nat}
section
variable (h:∀i (h:i<xs.length),off+i*n+n<=cs.size/\cut cs (off+i*n) n=enc xs[i])
include h
theorem nu{x:α}(hj:xs[j]? =some x){i:Int}(hi:i=(j:Int))(k:Nat)(hk:k<n):cs[off+i.toNat*n+k]? =(enc x)[k]? :=by
 grind [yI,cut]
theorem nI{x:α}(hj:xs[j]? =some x){i:Int}(hi:i=(j:Int))(hn:0<n):cs[off+i.toNat*n]? =(enc x)[0]? :=by
 have:=nu h hj hi 0 hn
 grind
theorem Hv{x:α}(hj:xs[j]? =some x){i:Int}(hi:i=(j:Int)):cut cs (off+i.toNat*n) n=enc x:=by grind
theorem AG{x:α}(hj:xs[j]? =some x){i:Int}(hi:i=(j:Int)):off+i.toNat*n+n<=cs.size:=by grind
theorem Uq{i:Int}(hi:i=(j:Int)){x:α}(hj:xs[j]? =some x):cut cs (off+i.toNat*n) n=enc x:=Hv h hj hi
theorem Ur{i:Int}(hi:i=(j:Int)){x:α}(hj:xs[j]? =some x):off+i.toNat*n+n<=cs.size:=AG h hj hi
end
end
def encI (x:Int):Array Value:=#[.int .i64 x]
variable {j:Nat}
theorem nk{α:Type}{xs:List α}{x:α}(h:xs[j]? =some x):xs.take (j+1)=xs.take j++[x]:=by
 grind [List.take_succ_eq_append_getElem]
theorem ng{α:Type}(xs:List α)(j:Nat)(h:j<xs.length):∃x,xs[j]? =some x:=⟨_,kC h⟩
theorem aG{α:Type}{xs:List α}{x:α}(h:xs[j]? =some x):j<xs.length:=(qe.1 h).1
section
variable {C:Cx} {Q:bA} {fn:Func} {R:Ending->World->Prop} {E:Env} {D:List Deferred} {G:Gh} {L L':List World} {H:ae} {e:Exit}
theorem PJ.fewL(h:∀w∈L',w∈L)(k:PJ C Q e E D G L' H):PJ C Q e E D G L H:=λa W hN hD hF hS=>k a W hN hD hF (hS.lessL h)
end
section
variable {C:Cx} {E:Env} {G:Gh} {L:List World} {H:ae} {T:Nat} {x y:Operand}
end
variable {x:Operand}
theorem yz{C:Cx}{E:Env}{T U:Nat}{y:Operand}{a b:Bool}(hU:C.P.underlying T=some .bool)(hx:ev E x=some (.bool a))(hy:ev E y=some (.bool b)):RV C G L H E (.binOp .eql T x y U) (.bool (a==b)):=λd ty pos aD g ac W hF _=>by
 have h1:(Op.equalIn (9999+1) T (.bool a) (.bool b)).run C.P W= .ok (a==b) W:=by
  generalize 9999=n;exact Yg
 have h2:(binOp .eql T (.bool a) (.bool b)).run C.P W= .ok (.bool (a==b)) W:=by
  have e:binOp .eql T (.bool a) (.bool b)=(do pure (.bool (<-Op.equalIn (9999+1) T (.bool a) (.bool b)))):=rfl;rw[e,Sem.run_bind,h1];rfl
 have h3:(eqGuard .eql T x y (.bool a) (.bool b)).run C.P W= .ok () W:=by simp[eqGuard]
 simp only[execOp,hF.ev hx,hF.ev hy,Sem.run_bind,h3,h2,Result.andThen];rfl
section
variable {H:Type} {enc:TypeId×Value->H} {P:Program} {w:World} {held:Bool}
end
/-! ### rows of elements: a list that grows from nil -/
/-- the cells of a list of elements -/
def gL {α:Type} (enc:α->List Value) (xs:List α):List Value:=xs.flatMap enc
theorem vm{α:Type}{enc:α->List Value}(h:∀x,(enc x).length=m)(xs:List α):(gL enc xs).length=xs.length*m:=by induction xs<;>grind [gL]
theorem Vg{α:Type}(enc:α->List Value)(xs ys:List α):gL enc (xs++ys)=gL enc xs++gL enc ys:=by simp[gL]
theorem M6{α:Type}(enc:α->List Value)(x:α):gL enc [x]=enc x:=by simp[gL]
theorem VM{α:Type}{enc:α->List Value}{m:Nat}(h:∀x,(enc x).length=m):∀(xs:List α) (sp:List Value) (i:Nat) (hi:i<xs.length),((gL enc xs++sp).drop (i*m)).take m=enc xs[i]
 | [],_,i,hi=>by simp at hi
 |x::xs,sp,0,_=>by
  grind [gL]
 |x::xs,sp,i+1,hi=>by
  have:=VM h xs sp i cM;simp[gL]at *;rw[show(i+1)*m=m+i*m by grind,<-List.drop_drop,List.drop_left' (h x)];exact this
theorem Ij{α:Type}{enc:α->List Value}(h:∀x,∀u∈enc x,u.oneCell'=true)(xs:List α):∀u∈gL enc xs,u.oneCell'=true:=by
 grind [gL]
inductive Rw where
 |nil
 |row (b cap:Nat) (sp:List Value)
def Rw.val (n:Nat):Rw->Value
 | .nil=>.slice none 0 0
 | .row b cap _=>.slice (some ⟨b,0,none⟩) n cap
theorem Rw.val_cells(n:Nat)(r:Rw):(r.val n).cells=#[r.val n]:=by cases r<;>rfl
theorem Rw.val_size(n:Nat)(r:Rw):(r.val n).cells.size=1:=by cases r<;>rfl
theorem Rw.val_one(n:Nat)(r:Rw):rK (r.val n).cells.toList=true:=by cases r<;>rfl
abbrev cT {α:Type} (enc:α->List Value) (t:Nat) (xs:List α) (sp:List Value):Obj:=.cells (gL enc xs++sp).toArray t (0,0)
def Rw.hp {α:Type} (enc:α->List Value) (t:Nat) (xs:List α):Rw->ae
 | .nil=>[]
 | .row b _ sp=>[(b,cT enc t xs sp)]
def Rw.Fit {α:Type} (m:Nat) (xs:List α):Rw->Prop
 | .nil=>xs=[]
 | .row _ cap sp=>xs.length<=cap/\sp.length=(cap-xs.length)*m
def Rw.Fr (G:Gh) (L:List World):Rw->Prop
 | .nil=>True
 | .row b _ _=>Px.Fr G L b
def Rw.ge (n:Nat):Rw->Prop
 | .nil=>True
 | .row b _ _=>n<=b
def Rw.isAt (k:Nat):Rw->Prop
 | .nil=>False
 | .row b _ _=>b=k
variable {r:Rw}
theorem Rw.Fr_at(h:r.Fr G L)(hk:r.isAt k):Px.Fr G L k:=by
 cases r with
 |nil=>exact hk.elim
 |row b cap sp=>cases hk;exact h
theorem Rw.ge_at(h:r.ge n)(hk:r.isAt k):n<=k:=by
 cases r with
 |nil=>exact hk.elim
 |row b cap sp=>cases hk;exact h
def Rw.At {α:Type} (enc:α->List Value) (t:Nat) (xs:List α) (w:World):Rw->Prop
 | .nil=>True
 | .row b _ sp=>w.heap[b]? =some (cT enc t xs sp)
theorem Rw.mem_at{α:Type}{enc:α->List Value}{xs:List α}(hk:r.isAt k):k∈(r.hp enc t xs).map (·.1):=by
 cases r with
 |nil=>exact hk.elim
 |row b cap sp=>cases hk;simp[Rw.hp]
theorem Rw.off_ge{α:Type}{enc:α->List Value}{xs:List α}(h:r.ge n)(hk:k<n):cu (r.hp enc t xs) k:=by
 cases r with
 |nil=>trivial
 |row b cap sp=>grind [cu,Rw.hp,Rw.ge]
theorem Rw.ge_mono{J:Nat}(h:r.ge n)(hn:J<=n):r.ge J:=by
 cases r with
 |nil=>trivial
 |row b cap sp=>exact dS hn h
theorem Rw.over{α:Type}{enc:α->List Value}{xs:List α}(h:r.ge n):Over n (r.hp enc t xs):=by
 cases r with
 |nil=>trivial
 |row b cap sp=>exact⟨h,trivial⟩
theorem eJ{H':ae}:cu (H++H') k↔cu H k/\cu H' k:=by induction H<;>grind [cu]
theorem nl{H':ae}:Over k (H++H')↔Over k H/\Over k H':=by induction H<;>grind [Over]
theorem Fr.ge(h:Px.Fr G L b)(J:¬G.X b)(hw:w∈L):w.heap.size<=b:=by
 rcases h with h|h
 ·grind
 exact h.mem w hw
theorem Rw.ge_of(h:r.Fr Gh.no L)(hw:w∈L):r.ge w.heap.size:=by
 cases r with
 |nil=>trivial
 |row b cap sp=>exact Fr.ge (G:=Gh.no) h zL hw
theorem Rw.mem_ge{α:Type}{enc:α->List Value}{xs:List α}(h:r.ge n)(hk:k∈(r.hp enc t xs).map (·.1)):n<=k:=by
 cases r with
 |nil=>simp[Rw.hp]at hk
 |row b cap sp=>grind [Rw.hp,Rw.ge]
structure mD (P:Program) (t e m:Nat):Prop where
 und:P.underlying t=some (.slice e)
 info:∃ti z,P.info? e=some ti/\ti.zero=some z/\ti.size=m/\z.cells.size=m/\ti.bytes<=100000
section
variable {C:Cx} {Q:bA} {E:Env} {D:List Deferred} {G:Gh} {L:List World} {H H0 H1:ae} {ops:Array Oper} {l:List Oper}
variable {d T ty f:Nat} {pos:String} {aD:Array Edge} {g:Option (Nat×Bool)} {x y:Operand} {xo:List Operand} {vs:List Value} {eY:Array Nat}
variable {α:Type} {enc:α->List Value} {m:Nat}
def bN (C:Cx) (G:Gh) (L:List World) (H:ae) (enc:α->List Value) (m tx:Nat) (sv:Value) (zs:List α):Prop:=ib C G L H m tx sv zs.length (gL enc zs)
variable {tx:Nat} {fr:Nat×Nat}
theorem bN.at{J off c:Nat}{zs:List α}(hm:∀x,(enc x).length=m)(h1:∀x,∀u∈enc x,u.oneCell'=true)(hU:C.P.underlying tx=some (.slice J))(hb:bL G L H b (.cells cs t fr))(hn:off+zs.length*m<=cs.size)(he:(cs.toList.drop off).take (zs.length*m)=gL enc zs):bN C G L H enc m tx (.slice (some ⟨b,off,none⟩) zs.length c) zs:=
 ib.sl hU (λW hS=>by rw[n7j (hb W hS) hn];grind [cut]) (vm hm zs) (Ij h1 zs)
theorem bN.one{J c:Nat}{z:α}(hm:∀x,(enc x).length=m)(h1:∀x,∀u∈enc x,u.oneCell'=true)(hU:C.P.underlying tx=some (.slice J))(hb:bL G L H b (.cells (enc z).toArray t fr)):bN C G L H enc m tx (.slice (some ⟨b,0,none⟩) 1 c) [z]:=
 bN.at (zs:=[z]) hm h1 hU hb (by simp[hm]) (by simp[M6];grind)
variable {sv:Value}
theorem jf{e:Nat}{xs zs:List α}(hH:H=H0++(r.hp enc e xs++H1))(hT:mD C.P t e m)(hm:∀x,(enc x).length=m)(hw:nr ops E g=some true)(hN:Nat.blt d C.N=true)(hx:ev E x=some (r.val xs.length))(hy:ev E y=some sv)(hs:bN C G L H enc m tx sv zs)(hr:r.Fit m xs)(hf:r.Fr G L)(h0:0<zs.length)(fF:xs.length+zs.length<=1000000)(k:∀(b' aR:Nat) (cq:List Value),(r.isAt b'\/ah L b')->(Rw.row b' aR cq).Fit m (xs++zs)->OJ C ops Q l ((d,.slice (some ⟨b',0,none⟩) (xs++zs).length aR)::E) D G L (H0++((b',cT enc e (xs++zs) cq)::H1))):OJ C ops Q (⟨some d,.call ⟨.builtin .append,#[x,y],#[t,tx]⟩,ty,pos,aD,g⟩::l) E D G L H:=
 rF zP hw hN λa W hF hS=>by
  obtain⟨ti,z,qC,hz,kr,wu,p6⟩:=hT.info;have hl:(xs++zs).length=xs.length+zs.length:=eU;have hB:(xs.length+zs.length)*ti.bytes<=140737488355328:=dS (Nat.mul_le_mul fF p6) zF;cases r with
  |nil=>
   have mI:xs=[]:=hr;subst mI;rw[oe,rM]at hB;obtain⟨aR,cq,W',iJ,gW,Ue,ur⟩:=hS.appN (P:=C.P) (ty:=ty) hT.und qC hz kr wu (hs.src hS) h0 aa hB;refine⟨.slice (some ⟨W.heap.size,0,none⟩) zs.length aR,W',L,H0++((W.heap.size,cT enc e ([]++zs) cq)::H1),?_,?_,?_⟩
   ·have J:ev E x=some (.slice none 0 0):=hx;simp[execOp,hF.ev J,hF.ev hy,resolve,invoke,builtin,iJ]
   ·rw[hH]at gW;exact gW.perm (by simpa[Rw.hp]using List.perm_middle.symm)
   exact k _ _ _ (.inr hS.sizes) ⟨by grind,by grind⟩
  |row b cap sp=>
   obtain⟨hc,zu⟩:=hr;have hi:H[H0.length]? =some (b,.cells (gL enc xs++sp).toArray e (0,0)):=by rw[hH];simp[Rw.hp]
   obtain⟨b',aR,cq,W',iJ,gW,gp,Ue,ur⟩:=hS.app (P:=C.P) (ty:=ty) hi hT.und qC hz kr wu (hs.src hS) (vm hm xs) zu hc hf aa hB;have a6:(Rw.row b cap sp).isAt b'\/ah L b':=by
    rcases gp with rfl|gp
    ·exact .inl rfl
    grind [M4]
   refine⟨.slice (some ⟨b',0,none⟩) (xs.length+zs.length) aR,W',L,_,?_,gW,?_⟩
   ·have J:ev E x=some (.slice (some ⟨b,0,none⟩) xs.length cap):=hx;simp[execOp,hF.ev J,hF.ev hy,resolve,invoke,builtin,iJ]
   have:=k b' aR cq a6 ⟨by omega,by grind⟩;simp_all[Rw.hp,cT,Vg]
theorem Rw.sl{xs:List α}(hm:∀x,(enc x).length=m)(hr:r.Fit m xs)(hA:r.At enc t xs w)(hN:w.heap.size<=N):∃a cap,r.val xs.length= .slice a xs.length cap/\aj (λx=>(enc x).toArray) m N w a xs:=by
 cases r with
 |nil=>
  simp_all[Rw.val,aj,Rw.Fit,Rw.At]
 |row b cap sp=>
  have J:w.heap[b]? =some (cT enc t xs sp):=hA;refine⟨_,_,rfl,aj.block (oh (bO.1 J).1 hN) J λi hi=>⟨?_,?_⟩⟩
  ·have h1:(i+1)*m<=xs.length*m:=BM _ hi
   grind [vm]
  grind [cut,VM]
def nv (w:World) (enc:α->List Value) (m t:Nat) (xs:List α) (v:Value->Value):Ending->World->Prop:=λe w'=>
 ∃r:Rw,e= .returned (v (r.val xs.length))/\Below w.heap.size w w'/\r.ge w.heap.size/\r.Fit m xs/\r.At enc t xs w'
variable {cap first:List Value} {fv:Operand} {v:Value->Value}
section
variable {xs:List α}(hx:ev E fv=some (.func (.func f) first.toArray cap.toArray))(aF:fh C.P f)(hw:nr ops E g=some true)(hN:Nat.blt d C.N=true)(ha:jt E xo=some vs)
include hx aF hw hN ha
theorem IB(hc:∀W,St G L H W->Calls C.P f (first++vs++cap).toArray W (nv W enc m t xs v))(k:∀r:Rw,r.Fr G L->r.Fit m xs->OJ C ops Q l ((d,v (r.val xs.length))::E) D G L (r.hp enc t xs++H)):OJ C ops Q (⟨some d,.call ⟨.value fv,xo.toArray,eY⟩,ty,pos,aD,g⟩::l) E D G L H:=
 sZ rfl hw hx ha zP aF λa W jY hD hF hS=>(hc W hS).mono (by
  rintro ed W' ⟨r,rfl,hb,pF,J,gi⟩;refine k r ?_ J (a.put (some d) (v (r.val xs.length))) W' mV lz (hF.put _ z2) ?_
  ·cases r with
   |nil=>trivial
   |row b cap sp=>exact Fr.up hS pF
  cases r with
  |nil=>exact hS.step hb
  |row b cap sp=>exact(hS.step hb).adopt gi (Ca hS pF) (λhv=>zYBe))
theorem nN(hm:∀x,(enc x).length=m)(hc:∀W,St G L H W->Calls C.P f (first++vs++cap).toArray W (nv W enc m t xs v))(k:∀W a cp w1,St G L H W->Below W.heap.size W w1->aj (λx=>(enc x).toArray) m w1.heap.size w1 a xs->(∀b,a=some b->W.heap.size<=b.block)->OJ C ops Q l ((d,v (.slice a xs.length cp))::E) D G (w1::L) H):OJ C ops Q (⟨some d,.call ⟨.value fv,xo.toArray,eY⟩,ty,pos,aD,g⟩::l) E D G L H:=
 sZ rfl hw hx ha zP aF λac W jY hD hF hS=>(hc W hS).mono (by
  rintro ed W' ⟨r,rfl,hb,pF,J,gi⟩;obtain⟨a,cp,he,aA⟩:=r.sl hm J gi (aC _);have:=k W a cp W' hS hb aA (by
   intro b BS;cases r with
   |nil=>grind [Rw.val]
   |row b' cap sp=>simp[Rw.val]at he;rw[<-he.1]at BS;cases BS;exact pF) (ac.put (some d) (v (.slice a xs.length cp))) W' mV lz (hF.put _ z2) (hS.step hb).snap
  grind)
end
variable {e:Exit} {rs:List ResultVar}
theorem nB{xs:List α}{us:List Value}(he:e= .ret\/e= .normal)(hr:fn.results=rs.toArray)(h:RS C Gh.no L H E rs us)(hw:w∈L)(ho:Over w.heap.size H)(hv:Ug us=v (r.val xs.length))(J:r.Fit m xs)(pF:r.ge w.heap.size)(hH:H=H0++(r.hp enc t xs++H1)):PJ C (bodyPost C.P fn (nv w enc m t xs v)) e E [] Gh.no L H:=
 bH he hr h λW hS=>⟨r,by rw[hv],hS.base hw ho,pF,J,by
  cases r with
  |nil=>trivial
  |row b cap sp=>exact hS.own (b,cT enc t xs sp) (by grind [Rw.hp])⟩
end
def ak (x:Int):List Value:=[.int .i64 x]
theorem nh(x:Int):(ak x).length=1:=rfl
theorem v7(x:Int):∀u∈ak x,u.oneCell'=true:=by intro u hu;simp[ak]at hu;subst hu;rfl
theorem nBq{L:List World}{b:Nat}(h:ah L b):∀J:List World,(∀w∈J,w∈L)->ah J b
 | [],_=>True.intro
 |w::J,hs=>⟨h.mem w (hs w A0),nBq h J λx hx=>hs x (.tail _ hx)⟩
def Cb (G:Gh) (L:List World):ae->Prop
 | []=>True
 |p::H=>Fr G L p.1/\Cb G L H
theorem Cb.app:∀{A B:ae},Cb G L A->Cb G L B->Cb G L (A++B)
 | [],_,_,h=>h
 |_::_,_,h,k=>⟨h.1,h.2.app k⟩
theorem St.pre:∀{B A:ae} {W:World},St G L (B++A) W->Cb G L B->St G L A W
 | [],_,_,h,_=>h
 |_::_,_,_,h,k=>(h.dropF k.1).pre k.2
theorem St.tl{A B:ae}(h:St G L (A++B) W)(k:Cb G L B):St G L A W:=(h.perm List.perm_append_comm).pre k
theorem St.none:∀{H:ae} {W:World},St G L H W->Cb G L H->St G L [] W
 | [],_,h,_=>h
 |_::_,_,h,k=>(h.dropF k.1).none k.2
theorem Us{α:Type}{enc:α->List Value}{xs:List α}(h:r.Fr G L):Cb G L (r.hp enc t xs):=by
 cases r with
 |nil=>exact trivial
 |row b cap sp=>exact⟨h,trivial⟩
theorem Ut{α:Type}{enc:α->List Value}{xs:List α}{J:List World}(h:r.Fr G L)(hs:∀w∈J,w∈L):Cb G J (r.hp enc t xs):=by
 cases r with
 |nil=>exact trivial
 |row b cap sp=>exact⟨h.imp id λh=>nBq h _ hs,trivial⟩
variable {sp:List Value}
theorem Uu{α:Type}{enc:α->List Value}{xs:List α}{cap:Nat}(h:r.isAt b\/ah L b)(h0:r.Fr G L):Cb G L ((Rw.row b cap sp).hp enc t xs):=⟨h.elim (λh=>Rw.Fr_at h0 h) .inr,trivial⟩
/-! ### iterators whose consumer lays blocks on the way -/
abbrev aJ:=Nat->Prop
def rV (V:aJ) (W1 W2:World):aJ:=λk=>V k\/(W1.heap.size<=k/\k<W2.heap.size)
def zj (P:Program) (f:Nat) (cap:List Value) {α:Type} (enc:α->List Value) (Pre Fin:List α->Prop) (MI RO:aJ) (W:World):Prop:=
 ∀(l:Nat) (M:aJ) (I:List α->aJ->World->Prop) (X:aJ->World->Prop),
  (∀k,M k->k<W.heap.size/\¬MI k/\¬RO k)->
  (∀pre V,fG (λk=>(k<W.heap.size/\¬MI k)\/V k) (I pre V))->(∀V,fG (λk=>(k<W.heap.size/\¬MI k)\/V k) (X V))->
  (∀pre x V W1,Pre (pre++[x])->(∀k,V k->W.heap.size<=k/\k<W1.heap.size)->I pre V W1->Pp P l (enc x).toArray W1 (λb W2=>aQ (λk=>M k\/V k) W1 W2/\(if b then I (pre++[x]) (rV V W1 W2) W2 else X (rV V W1 W2) W2)))->
  I [] (λ_=>False) W->
  Calls P f (yv l::cap).toArray W (λe W'=>(∃v,e= .returned v)/\aQ (λk=>M k\/MI k) W W'/\∃V,(∃xs,Fin xs/\I xs V W')\/X V W')
abbrev zk {α:Type} (xs:List α):List α->Prop:=(· <+:xs)
abbrev Is {α:Type} (xs:List α):List α->Prop:=(· =xs)
theorem St.yield2{G':Gh}{W':World}(h:St G L H W)(hk:aQ G.M W W')(hX:∀k,G.X k->G'.X k)(J:∀k,G'.X k->G.X k\/(W.heap.size<=k/\k<W'.heap.size))(hV:∀k,G'.V k->G.V k\/(W.heap.size<=k/\k<W'.heap.size))(hR:G'.R W'):St G' L H W' where
 ghost:=hR
 vlt:=λk hv=>by
  rcases hV k hv with h1|h1
  ·exact oh (h.vlt k h1) hk.size
  omega
 xlt:=λk hv=>by
  rcases J k hv with h1|h1
  ·exact oh (h.xlt k h1) hk.size
  omega
 links:=λw hw=>((h.links w hw).mono (Y:=λk=>G'.X k\/k∈H.map (·.1)) λk _ hx=>hx.imp (hX k) id).trans (hk.mono λk _ hm=>.inl (hX k (G.subX k hm)))
 own:=λp hp=>by rw[hk.block p.1 (h.lt p hp) (λhm=>h.apart p hp (G.sub _ hm))];exact h.own p hp
 nodup:=h.nodup
 apart:=λp hp hv=>by
  rcases hV _ hv with h1|h1
  ·exact h.apart p hp h1
  have:=h.lt p hp;omega
section
variable {C:Cx} {Q:bA} {E:Env} {D:List Deferred} {G:Gh} {L:List World} {H:ae} {ops:Array Oper} {l:List Oper}
variable {d ty:Nat} {pos:String} {aD:Array Edge} {g:Option (Nat×Bool)} {x:Operand} {xs:List Operand} {vs:List Value} {eY:Array Nat}
structure Next (G:Gh) (W W':World) (G':Gh):Prop where
 x:∀k,G.X k->G'.X k
 x':∀k,G'.X k->G.X k\/(W.heap.size<=k/\k<W'.heap.size)
 v:∀k,G'.V k->G.V k\/(W.heap.size<=k/\k<W'.heap.size)
 r:G'.R W'
theorem Uv{y:Nat}(T1 T2:Gh->Prop)(hw:nr ops E g=some true)(hN:Nat.blt d C.N=true)(hx:ev E x=some (yv y))(ha:jt E xs=some vs)(hy:∀W,St G L H W->Pp C.P y vs.toArray W (λb W'=>aQ G.M W W'/\∃G',(if b then T1 G' else T2 G')/\Next G W W' G'))(k1:∀G',T1 G'->OJ C ops Q l ((d,.bool true)::E) D G' L H)(k2:∀G',T2 G'->OJ C ops Q l ((d,.bool false)::E) D G' L H):OJ C ops Q (⟨some d,.call ⟨.value x,xs.toArray,eY⟩,ty,pos,aD,g⟩::l) E D G L H:=by
 intro a W jY hD hF hS;obtain⟨fn,tmps,assign,body,iJ,iZ⟩:=hy W hS;unfold wpListIn;rw[if_pos (zb hF hw)];refine⟨λ_ _=>trivial,?_⟩;have hr:(execOp a.eval ⟨some d,.call ⟨.value x,xs.toArray,eY⟩,ty,pos,aD,g⟩).run C.P W= .ok (.round y fn tmps assign body) W:=by
  exact z7j
 rw[Oper.semAt_eq _ _ _ zP,hr];refine⟨by simp,(nbk iZ).mono ?_⟩;rintro e W' ⟨b,rfl,hk,G',hT,hn⟩;have cQ:=λv=>hF.put (d:=d) v z2;have J:=hS.yield2 hk hn.x hn.x' hn.v hn.r;cases b with
 |true=>exact k1 G' hT (a.put (some d) (.bool true)) W' mV lz (cQ _) J
 |false=>exact k2 G' hT (a.put (some d) (.bool false)) W' mV lz (cQ _) J
end
def dI {W:World} {MI RO M:aJ} (hM:∀k,M k->k<W.heap.size/\¬MI k/\¬RO k) (V:aJ) {R:World->Prop} (hR:fG (λk=>(k<W.heap.size/\¬MI k)\/V k) R):Gh where
 M:=λk=>M k\/V k
 V:=λk=>(k<W.heap.size/\¬MI k)\/V k
 R:=R
 X:=λk=>M k\/V k
 sub:=λk hk=>hk.imp (λh=>⟨(hM k h).1,(hM k h).2.1⟩) id
 subX:=λ_ hk=>hk
 stab:=hR
def Gh.ext (G:Gh) (Z:aJ):Gh:={G with X:=λk=>G.X k\/Z k,subX:=λk h=>.inl (G.subX k h)}
theorem Rw.Fr_ext{α:Type}{enc:α->List Value}{xs:List α}{Z:aJ}(h:∀p∈r.hp enc t xs,Z p.1):r.Fr (G.ext Z) L:=by
 cases r with
 |nil=>trivial
 |row b cap sp=>exact .inl (.inr (h (b,cT enc t xs sp) qw))
theorem Nl{MI RO M:aJ}(hM:∀k,M k->k<W.heap.size/\¬MI k/\¬RO k){R:World->Prop}(hR:fG (λk=>(k<W.heap.size/\¬MI k)\/(λ_=>False) k) R)(h0:R W)(ho:∀p∈H,W.heap[p.1]? =some p.2)(hd:ky H)(hm:∀p∈H,MI p.1):St (dI hM (λ_=>False) hR) [W] H W where
 ghost:=h0
 vlt:=λk hk=>by simp_all[fG,ae,ky,Gh.V,dI]
 xlt:=λk hk=>by rcases hk with h|h;all_goals grind
 links:=λw hw=>by grind [aQ.refl]
 own:=ho
 nodup:=hd
 apart:=λp hp hv=>by rcases hv with h|h;all_goals grind
section
variable {C:Cx} {Q:bA} {E:Env} {D:List Deferred} {L:List World} {H:ae} {ops:Array Oper} {l:List Oper}
variable {d ty:Nat} {pos:String} {aD:Array Edge} {g:Option (Nat×Bool)} {x:Operand} {xs:List Operand} {vs:List Value} {eY:Array Nat}
variable {W0:World} {MI RO M:aJ} {hM:∀k,M k->k<W0.heap.size/\¬MI k/\¬RO k}
variable {I1 X1:aJ->World->Prop} {I:World->Prop}
theorem CY{y:Nat}{V:aJ}{hI:fG (λk=>(k<W0.heap.size/\¬MI k)\/V k) I}(mY:∀V,fG (λk=>(k<W0.heap.size/\¬MI k)\/V k) (I1 V))(oc:∀V,fG (λk=>(k<W0.heap.size/\¬MI k)\/V k) (X1 V))(hV:∀k,V k->W0.heap.size<=k)(a6:W0∈L)(hw:nr ops E g=some true)(hN:Nat.blt d C.N=true)(hx:ev E x=some (yv y))(ha:jt E xs=some vs)(hy:∀W1,(∀k,V k->W0.heap.size<=k/\k<W1.heap.size)->I W1->Pp C.P y vs.toArray W1 (λb W2=>aQ (λk=>M k\/V k) W1 W2/\(if b then I1 (rV V W1 W2) W2 else X1 (rV V W1 W2) W2)))(k1:∀J,(∀k,J k->W0.heap.size<=k)->OJ C ops Q l ((d,.bool true)::E) D (dI hM J (mY J)) L H)(k2:∀J,(∀k,J k->W0.heap.size<=k)->OJ C ops Q l ((d,.bool false)::E) D (dI hM J (oc J)) L H):OJ C ops Q (⟨some d,.call ⟨.value x,xs.toArray,eY⟩,ty,pos,aD,g⟩::l) E D (dI hM V hI) L H:=by
 refine Uv (λG'=>∃J,(∀k,J k->W0.heap.size<=k)/\G'=dI hM J (mY J)) (λG'=>∃J,(∀k,J k->W0.heap.size<=k)/\G'=dI hM J (oc J)) hw hN hx ha (λW1 hS=>?_) cM cM;obtain⟨fn,tmps,assign,body,iJ,iZ⟩:=hy W1 (λk hk=>⟨hV k hk,hS.xlt k (.inr hk)⟩) hS.ghost;have h0:W0.heap.size<=W1.heap.size:=(hS.links W0 a6).size;have hv:∀W2 k,rV V W1 W2 k->W0.heap.size<=k:=λW2 k hk=>by
  rcases hk with hk|hk;all_goals grind
 refine⟨fn,tmps,assign,body,iJ,iZ.mono ?_⟩;rintro e W2 ⟨b,rfl,hk,hb⟩;refine⟨b,rfl,hk,?_⟩;have aq:∀{p:aJ} (k:Nat),(p k\/rV V W1 W2 k)->(p k\/V k)\/(W1.heap.size<=k/\k<W2.heap.size):=λk h=>h.elim (λh=>.inl (.inl h)) (λh=>h.elim (λh=>.inl (.inr h)) .inr);cases b with
 |true=>exact⟨dI hM (rV V W1 W2) (mY _),⟨_,hv W2,rfl⟩,⟨λk h=>h.imp id .inl,λk h=>aq (p:=M) k h,λk h=>aq (p:=λk=>k<W0.heap.size/\¬MI k) k h,hb⟩⟩
 |false=>exact⟨dI hM (rV V W1 W2) (oc _),⟨_,hv W2,rfl⟩,⟨λk h=>h.imp id .inl,λk h=>aq (p:=M) k h,λk h=>aq (p:=λk=>k<W0.heap.size/\¬MI k) k h,hb⟩⟩
variable {e:Exit}
theorem CZ{V:aJ}{hI:fG (λk=>(k<W0.heap.size/\¬MI k)\/V k) I}{α:Type}{Fin:List α->Prop}{J:List α->aJ->World->Prop}{X:aJ->World->Prop}(he:e= .ret\/e= .normal)(hr:fn.results=#[])(hw:W0∈L)(hV:∀k,V k->W0.heap.size<=k)(hH:∀k,k<W0.heap.size->k∈H.map (·.1)->MI k)(h:∀A,I A->(∃xs,Fin xs/\J xs V A)\/X V A):PJ C (bodyPost C.P fn (λe W'=>(∃v,e= .returned v)/\aQ (λk=>M k\/MI k) W0 W'/\∃V,(∃xs,Fin xs/\J xs V W')\/X V W')) e E [] (dI hM V hI) L H:=by
 intro a W' _ hD _ hS;have key:bodyPost C.P fn (λe W'=>(∃v,e= .returned v)/\aQ (λk=>M k\/MI k) W0 W'/\∃V,(∃xs,Fin xs/\J xs V W')\/X V W') .normal a W':=by
  refine⟨hD,.tuple #[],results_none hr _ _ _,⟨_,rfl⟩,(hS.links W0 hw).mono λk hk hx=>?_,V,h W' hS.ghost⟩;rcases hx with(hx|hx)|hx
  ·grind
  ·grind
  grind
 exact WR
end
/-! #### the consumer -/
section
variable {α:Type}
structure Loc (W1:World) (MI M V:aJ) (G':Gh) (Hc:ae):Prop where
 v:∀k,G'.V k->(k<W1.heap.size/\¬MI k)\/V k
 x:∀k,G'.X k->M k\/V k
 h:∀p∈Hc,M p.1\/V p.1
def rI2 (W1:World) (MI M:aJ) (L:List World) (Inv:List α->Gh->ae->Prop) (l:Nat) (rec:Loop) (bx:ae) (pre:List α) (V:aJ) (W:World):Prop:=
 ∃G' Hc,Inv pre G' Hc/\Loc W1 MI M V G' Hc/\St G' L (book Hc l rec bx) W
def rX2 (W1:World) (MI M:aJ) (L:List World) (cO:Code->Gh->ae->Prop) (l:Nat) (rec:Loop) (bx:ae) (V:aJ) (W:World):Prop:=
 ∃c G' Hc,cO c G' Hc/\Loc W1 MI M V G' Hc/\St G' L (book Hc l {rec with state:=.done,pending:=some c} bx) W
def nyl (P:Program) (W1:World) (MI M:aJ) (L:List World) (V:aJ) (Wy:World) (Inv:List α->Gh->ae->Prop) (cO:Code->Gh->ae->Prop) (l:Nat) (rec:Loop) (bx:ae) (pre:List α):bA:=
 roundPost P l (λe W'=>∃b,e= .returned (.bool b)/\aQ (λk=>M k\/V k) Wy W'/\(if b then rI2 W1 MI M L Inv l rec bx pre (rV V Wy W') W' else rX2 W1 MI M L cO l rec bx (rV V Wy W') W'))
structure zh (G:Gh) (H:ae) (L:List World) (Dk:Nat) (W1:World) (MI M V:aJ) (Wy:World) (G':Gh) (Hc:ae):Prop where
 loc:Loc W1 MI M V G' Hc
 m:∀k,M k->G.X k\/k∈H.map (·.1)\/k=Dk\/k=Dk+1
 m':∀k,k=Dk\/k=Dk+1->M k
 vge:∀k,V k->W1.heap.size<=k
 dk:Dk+1<W1.heap.size
 above:∀w∈L,w.heap.size<=Dk
theorem zh.z{Dk:Nat}{W1:World}{MI M V:aJ}{Wy:World}{G':Gh}{Hc:ae}(h:zh G H L Dk W1 MI M V Wy G' Hc)(hk:k<Dk)(hX:¬G.X k)(hH:k∉H.map (·.1))(J:¬G'.X k):¬(G'.ext (λk=>M k\/V k)).X k:=by
 rintro(hx|hx|hx)
 ·grind
 ·rcases h.m k hx with hx|hx|hx|hx;all_goals grind
 have:=h.vge k hx;have:=h.dk;omega
section
variable {C:Cx} {E:Env} {D:List Deferred} {G G' G2:Gh} {L:List World} {H Hc Hc2:ae} {W1 Wy:World} {MI M V:aJ} {Inv:List α->Gh->ae->Prop} {cO:Code->Gh->ae->Prop} {l Dk:Nat} {rec lq:Loop} {pre:List α}
structure M7 (G G' G2:Gh) (H Hc Hc2:ae) (L:List World) (Wy:World):Prop where
 gx:∀k,G.X k->G2.X k
 x:∀k,G2.X k->G'.X k\/Wy.heap.size<=k
 v:∀k,G2.V k->G'.V k\/Wy.heap.size<=k
 h:∀p∈Hc2,p.1∈Hc.map (·.1)\/Wy.heap.size<=p.1
 gone:∀p∈H,p.1∈Hc2.map (·.1)\/G2.X p.1\/ah L p.1
theorem M7.ok(he:M7 G G' G2 H Hc Hc2 L Wy)(hl:zh G H L Dk W1 MI M V Wy G' Hc)(jA:l=Dk+1){W':World}{o:Loop}(hS:St (G2.ext λk=>M k\/V k) (Wy::L) (book Hc2 l o (eV Dk)) W'):aQ (λk=>M k\/V k) Wy W'/\Loc W1 MI M (rV V Wy W') G2 Hc2/\St G2 L (book Hc2 l o (eV Dk)) W':=by
 have hin:∀p∈Hc,M p.1\/V p.1:=hl.loc.h;have J:∀k,k∈Hc.map (·.1)->M k\/V k:=λk hk=>by grind
 have hb:∀k,k∈(book Hc2 l o (eV Dk)).map (·.1)↔k∈Hc2.map (·.1)\/k=Dk+1\/k=Dk:=λk=>by grind
 refine⟨(hS.links Wy A0).mono λk hk hx=>?_,⟨λk hv=>?_,λk hx=>?_,λp hp=>?_⟩,?_⟩
 ·rcases hx with(hx|hx)|hx
  ·rcases he.x k hx with h1|h1
   ·exact hl.loc.x k h1
   omega
  ·exact hx
  rcases(hb k).1 hx with hx|hx
  ·obtain⟨p,hp,rfl⟩:=dO.1 hx;rcases he.h p hp with h1|h1;all_goals grind
  exact .inl (hl.m' k hx.symm)
 ·rcases he.v k hv with h1|h1
  ·exact(hl.loc.v k h1).imp id .inl
  exact .inr (.inr ⟨h1,hS.vlt k hv⟩)
 ·rcases he.x k hx with h1|h1
  ·exact(hl.loc.x k h1).imp id .inl
  exact .inr (.inr ⟨h1,hS.xlt k (.inl hx)⟩)
 ·rcases he.h p hp with h1|h1
  ·exact(J _ h1).imp id .inl
  exact .inr (.inr ⟨h1,hS.lt p cM⟩)
 refine⟨hS.ghost,hS.vlt,λk hk=>hS.xlt k (.inl hk),λw hw=>(hS.links w (.tail _ hw)).mono λk hk hx=>?_,hS.own,hS.nodup,hS.apart⟩;rcases hx with(hx|hx|hx)|hx
 ·grind
 ·rcases hl.m k hx with hx|hx|hx
  ·exact .inl (he.gx k hx)
  ·obtain⟨p,hp,rfl⟩:=dO.1 hx;rcases he.gone p hp with h1|h1|h1
   ·grind
   ·grind
   have:=h1.mem w hw;omega
  grind
 ·have:=hl.vge k hx;have:=hl.above w hw;have:=hl.dk;omega
 grind
theorem nej{β:Type}{enc:β->List Value}{A J:ae}(hA:J.map (·.1)=A.map (·.1)){b' c:Nat}{xs ys:List β}(hf:r.isAt b'\/n<=b'):∀p∈(J++((Rw.row b' c sp).hp enc t ys++[]):ae),p.1∈(A++(r.hp enc t xs++[]):ae).map (·.1)\/n<=p.1:=by grind [Rw.hp,Rw.mem_at]
theorem Jl{rec:Loop}(h1:rec.state= .ready)(h2:rec.pending=none):{({rec with state:=.busy}:Loop)with state:=.ready,pending:=none}=rec:=by cases rec;simp_all
theorem Jk(hl:zh G H L Dk W1 MI M V Wy G' Hc)(J:l=Dk+1)(he:M7 G G' G2 H Hc Hc2 L Wy)(hr:{lq with state:=.ready,pending:=none}=rec)(hI:Inv pre G2 Hc2):PJ C (nyl C.P W1 MI M L V Wy Inv cO l rec (eV Dk) pre) .normal E D (G2.ext λk=>M k\/V k) (Wy::L) (book Hc2 l lq (eV Dk)):=by
 intro a W hN hD hF hS;have gW:=hS.loop {lq with state:=.ready,pending:=none};obtain⟨h1,h2,h3⟩:=he.ok hl J gW;refine⟨_,W.putObj l (.loop {lq with state:=.ready,pending:=none}),run_endRound none hS.loopAt,true,rfl,h1,G2,Hc2,hI,h2,?_⟩
 grind
variable {e:Exit}
theorem nWe(hl:zh G H L Dk W1 MI M V Wy G' Hc)(jA:l=Dk+1)(J:M7 G G' G2 H Hc Hc2 L Wy)(he:(e= .ret/\c= .ret)\/∃id,e= .exit id/\c= .exit id)(hr:{lq with state:=.done,pending:=some c}={rec with state:=.done,pending:=some c})(hI:cO c G2 Hc2):PJ C (nyl C.P W1 MI M L V Wy Inv cO l rec (eV Dk) pre) e E D (G2.ext λk=>M k\/V k) (Wy::L) (book Hc2 l lq (eV Dk)):=by
 intro a W hN hD hF hS;have gW:=hS.loop {lq with state:=.done,pending:=some c};obtain⟨h1,h2,h3⟩:=J.ok hl jA gW;have key:∃v w',(Instr.endRound l (some c)).run C.P W= .ok v w'/\∃b,Ending.returned v= .returned (.bool b)/\aQ (λk=>M k\/V k) Wy w'/\(if b then rI2 W1 MI M L Inv l rec (eV Dk) pre (rV V Wy w') w' else rX2 W1 MI M L cO l rec (eV Dk) (rV V Wy w') w'):=by
  refine⟨_,W.putObj l (.loop {lq with state:=.done,pending:=some c}),run_endRound (some c) hS.loopAt,false,rfl,h1,c,G2,Hc2,hI,h2,?_⟩;rw[hr]at h3 ⊢;exact h3
 rcases he with⟨rfl,rfl⟩|⟨id,rfl,rfl⟩<;>exact key
end
variable {e:Exit}
theorem YU{C:Cx}{Q:bA}{E:Env}{D:List Deferred}(h:∀W,St G L H W->PJ C Q e E D G L H):PJ C Q e E D G L H:=λa W hN hD hF hS=>h W hS a W hN hD hF hS
theorem Vf{Hc:ae}{l Dk:Nat}{rec:Loop}(hS:St G L (book Hc l rec (eV Dk)) W):∀p∈Hc,p.1≠Dk/\p.1≠l:=by
 have h:=(AO _).1 hS.nodup
 grind
def AL (P:Program) (f:Nat) (cap:List Value) {α:Type} (enc:α->List Value) (Pre Fin:List α->aJ->World->Prop) (MI RO:aJ) (W:World):Prop:=
 ∀(l:Nat) (M:aJ) (I:List α->aJ->World->Prop) (X:aJ->World->Prop),
  (∀k,M k->k<W.heap.size/\¬MI k/\¬RO k)->
  (∀pre V,fG (λk=>(k<W.heap.size/\¬MI k)\/V k) (I pre V))->(∀V,fG (λk=>(k<W.heap.size/\¬MI k)\/V k) (X V))->
  (∀pre x V W1,Pre (pre++[x]) (λk=>M k\/V k) W1->(∀k,V k->W.heap.size<=k/\k<W1.heap.size)->I pre V W1->Pp P l (enc x).toArray W1 (λb W2=>aQ (λk=>M k\/V k) W1 W2/\(if b then I (pre++[x]) (rV V W1 W2) W2 else X (rV V W1 W2) W2)))->
  I [] (λ_=>False) W->
  Calls P f (yv l::cap).toArray W (λe W'=>(∃v,e= .returned v)/\aQ (λk=>M k\/MI k) W W'/\∃V,(∃xs,Fin xs (λk=>M k\/V k) W'/\I xs V W')\/X V W')
variable {P:Program} {N:Nat} {Q:bA} {E:Env} {D:List Deferred} {G:Gh} {L:List World} {H0 H:ae} {g:Operand} {ps:Array Tmp} {assign body:Code} {f:Nat} {cap:List Value} {enc:α->List Value} {MI RO:aJ}
abbrev RgR (P:Program) (N:Nat) (ps:Array Tmp) (assign body:Code) (E:Env) (G:Gh) (H:ae) (L:List World) (enc:α->List Value) (MI:aJ) (Pre:List α->aJ->World->Prop) (Inv:List α->Gh->ae->Prop) (cO:Code->Gh->ae->Prop):Prop:=
 ∀(pre:List α) (x:α) (G':Gh) (Hc:ae) (l Dk:Nat) (rec:Loop) (W1:World) (M V:aJ) (Wy:World),rec.state= .ready->rec.pending=none->Pre (pre++[x]) (λk=>M k\/V k) Wy->Inv pre G' Hc->ah L Dk->l=Dk+1->l<Wy.heap.size->ah L Wy.heap.size->zh G H L Dk W1 MI M V Wy G' Hc->St G' L (book Hc l rec (eV Dk)) Wy->
  CJ ⟨P,some l,N⟩ assign (n7m ⟨P,some l,N⟩ l body (nyl P W1 MI M L V Wy Inv cO l rec (eV Dk) (pre++[x]))) ((ps.toList.zip (enc x)).reverse++E) [] (G'.ext λk=>M k\/V k) (Wy::L) (book Hc l rec (eV Dk))
abbrev RgX (P:Program) (N:Nat) (Q:bA) (E:Env) (D:List Deferred) (L:List World) (cO:Code->Gh->ae->Prop):Prop:=∀l Dk rec c G' Hc,ah L Dk->l=Dk+1->cO c G' Hc->CJ ⟨P,none,N⟩ c Q E (jo Dk::D) G' L (book Hc l rec (eV Dk))
abbrev RgD (P:Program) (N:Nat) (Q:bA) (E:Env) (D:List Deferred) (L:List World) (Fin:List α->Prop) (Inv:List α->Gh->ae->Prop):Prop:=∀xs l Dk rec G' Hc,Fin xs->ah L Dk->l=Dk+1->Inv xs G' Hc->PJ ⟨P,none,N⟩ Q .normal E (jo Dk::D) G' L (book Hc l rec (eV Dk))
abbrev RgO (G:Gh) (L:List World) (H:ae) (RO:aJ):Prop:=∀W,St G L H W->(∀k,RO k->k<W.heap.size/\k∉H.map (·.1)/\¬G.X k)
theorem CJ.rg{B:World->Prop}{Pre Fin:List α->aJ->World->Prop}(cB:∀W,St G L H0 W->St G L H W/\B W/\∀k,MI k->k<W.heap.size/\ah L k/\k∉H.map (·.1)/\¬G.V k/\¬G.X k)(hg:ev E g=some (.func (.func f) #[] cap.toArray))(aF:fh P f)(sA:∀W W2,St G L H W->B W->Below W.heap.size W W2->AL P f cap enc Pre Fin MI RO W2)(rP:RgO G L H RO)(uT:∀x,(enc x).length=ps.size)(Inv:List α->Gh->ae->Prop)(cO:Code->Gh->ae->Prop)(h0:Inv [] G H)(xv:∀p∈ps.toList,p<N)(round:RgR P N ps assign body E G H L enc MI Pre Inv cO)(done:∀xs l Dk rec G' Hc (Z:aJ) (Wd:World),Fin xs Z Wd->(∀p∈book Hc l rec (eV Dk),Z p.1)->ah L Dk->l=Dk+1->Inv xs G' Hc->PJ ⟨P,none,N⟩ Q .normal E (jo Dk::D) G' (Wd::L) (book Hc l rec (eV Dk)))(stop:RgX P N Q E D L cO):CJ ⟨P,none,N⟩ (.rangeFunc g ps assign body) Q E D G L H0:=by
 intro a W hN hD hF cy;obtain⟨hS,c0,wO⟩:=cB W cy;refine wpIn_rangeFunc ?_;intro fn _;have kr:(W.alloc (.deferred (some []))).heap.size=W.heap.size+1:=by simp
 obtain⟨rec,vd⟩:∃rec:Loop,rec={state:=.ready,pending:=none,fn,tmps:=a.tmps,params:=ps,assign,body,defers:=W.heap.size}:=⟨_,rfl⟩;obtain⟨W1,WX⟩:∃W1,W1=(W.alloc (.deferred (some []))).alloc (.loop rec):=⟨_,rfl⟩;have sX:St G L (book H (W.heap.size+1) rec (eV W.heap.size)) W1:=by
  have h1:=(hS.alloc (.deferred (some []))).alloc (.loop rec);rw[kr]at h1;rw[WX];exact h1.perm (List.perm_append_comm (l₁:=[_,_]) (l₂:=H))
 have bR:Below W.heap.size W W1:=by
  rw[WX];exact((Below.refl _ _).alloc (aC _) _).alloc zP _
 have ea:W1.heap.size=W.heap.size+2:=by rw[WX];simp
 have he:(Instr.enterLoop fn a.tmps ps assign body (none:Option Nat)).run P W= .ok (W.heap.size+1,[jo W.heap.size]) W1:=by
  rw[WX,vd];exact run_enterLoop_outer _ _ _ _ _
 refine⟨W.heap.size+1,[jo W.heap.size],W1,{target:=.fn (.func f) cap.toArray,args:=#[yv (W.heap.size+1)]},W1,f,(yv (W.heap.size+1)::cap).toArray,W1,he,?_,λ_ _=>trivial,?_,by simp,?_⟩
 ·simp[resolve,hF.ev hg];rfl
 ·simp[invoke,aF _ W1]
 refine I6.2 ?_
 let M:aJ:=λk=>G.X k\/k∈H.map (·.1)\/k=W.heap.size\/k=W.heap.size+1
 have Uw:∀k,M k->k<W1.heap.size/\¬MI k/\¬RO k:=by
  rintro k (hk|hk|hk|hk)
  ·exact⟨sX.xlt k hk,λh=>(wO k h).2.2.2.2 hk,λh=>(rP W hS k h).2.2 hk⟩
  ·exact⟨by obtain⟨p,hp,rfl⟩:=dO.1 hk;have:=hS.lt p hp;omega,λh=>(wO k h).2.2.1 hk,λh=>(rP W hS k h).2.1 hk⟩
  ·grind
  grind
 have stab:∀{V:aJ} {G':Gh} {Hc:ae} {o:Loop},Loc W1 MI M V G' Hc->fG (λk=>(k<W1.heap.size/\¬MI k)\/V k) (St G' L (book Hc (W.heap.size+1) o (eV W.heap.size))):=by
  intro V G' Hc o J A B hA ho ht xb y4 hs iz;refine⟨G'.stab A B hA.ghost ho ht xb y4 hs (λk hv=>iz k (J.v k hv)),λk hv=>oh (hA.vlt k hv) hs,λk hv=>oh (hA.xlt k hv) hs,λw hw=>?_,λp hp=>?_,hA.nodup,hA.apart⟩
  ·have h1:=hA.links w hw;exact⟨ho.trans h1.os,ht.trans h1.tape,xb.trans h1.output,dS h1.drawn y4,dS h1.size hs,λk hk hx=>(iz k (.inl ⟨oh hk (sX.links w hw).size,λhm=>by have:=(wO k hm).2.1.mem w hw;omega⟩)).trans (h1.block k hk hx)⟩
  have hq:M p.1\/V p.1:=by
   simp only[book,dQ,ft,jc,or_false]at hp;rcases hp with hp|rfl|rfl
   ·exact J.h p hp
   ·grind
   grind
  rw[iz p.1 (hq.imp (λh=>⟨(Uw _ h).1,(Uw _ h).2.1⟩) id)];exact hA.own p hp
 have bI:Loc W1 MI M (λ_=>False) G H:=⟨λk hv=>.inl ⟨sX.vlt k hv,λhm=>(wO k hm).2.2.2.1 hv⟩,λk hx=>.inl (.inl hx),λp hp=>.inl (.inr (.inl (dO.2 ⟨p,hp,rfl⟩)))⟩;have H6:∀x,(ps.zip (enc x).toArray).foldl (λtmps (p:Tmp×Value)=>match p with|(t,a)=>tmps.setIfInBounds t a) a.tmps=(ps.toList.zip (enc x)).foldl (λt (p:Nat×Value)=>t.setIfInBounds p.1 p.2) a.tmps:=by
  intro x;rw[<-Array.foldl_toList,Array.toList_zip]
 have H7:=sA W W1 hS c0 bR (W.heap.size+1) M (rI2 W1 MI M L Inv (W.heap.size+1) rec (eV W.heap.size)) (rX2 W1 MI M L cO (W.heap.size+1) rec (eV W.heap.size)) Uw
  (λpre V A B hA ho ht xb y4 hs iz=>by
   obtain⟨G',Hc,hi,J,cB⟩:=hA;exact⟨G',Hc,hi,J,stab J A B cB ho ht xb y4 hs iz⟩)
  (λV A B hA ho ht xb y4 hs iz=>by
   obtain⟨c,G',Hc,hi,J,cB⟩:=hA;exact⟨c,G',Hc,hi,J,stab J A B cB ho ht xb y4 hs iz⟩)
  (λpre x V Wy gX hV hI=>by
   obtain⟨G',Hc,hi,J,cB⟩:=hI;have hy:=run_yield (P:=P) (args:=(enc x).toArray) cB.loopAt cM;refine⟨_,_,_,_,hy,roundIn_of_wpIn (F:=FW none) trivial ?_⟩;have Io:W1.heap.size<=Wy.heap.size:=by
    have h1:=cB.lt (W.heap.size+1,.loop rec) zP;simp only at h1;omega
   have cI:zh G H L W.heap.size W1 MI M V Wy G' Hc:=⟨J,λk hk=>hk,λk hk=>.inr (.inr hk),λk hk=>(hV k hk).1,by omega,λw hw=>(hS.links w hw).size⟩;have D1:St (G'.ext λk=>M k\/V k) (Wy::L) (book Hc (W.heap.size+1) rec (eV W.heap.size)) Wy:=by
    refine⟨cB.ghost,cB.vlt,λk hk=>?_,λw hw=>?_,cB.own,cB.nodup,cB.apart⟩
    ·rcases hk with hk|hk|hk
     ·exact cB.xlt k hk
     ·grind
     grind
    rcases ft.1 hw with rfl|hw
    ·exact aQ.refl _ _
    exact(cB.links w hw).mono λk _ hk=>hk.imp .inl id
   have hr:=round pre x G' Hc (W.heap.size+1) W.heap.size rec W1 M V Wy (by rw[vd]) (by rw[vd]) gX hi hS.sizes rfl (bO.1 cB.loopAt).1 cB.sizes cI cB;have c4:rec.params=ps:=by rw[vd]
   have cz:rec.assign=assign:=by rw[vd]
   have cQ:rec.body=body:=by rw[vd]
   have b0:rec.tmps=a.tmps:=by rw[vd]
   rw[cz,cQ,b0,c4,H6 x];have jd:=nei (zs:=ps.toList.zip (enc x)) hF (λp hp=>zYx);exact hr _ Wy cM rfl jd.2 D1)
  ⟨G,H,h0,bI,sX⟩
 refine H7.mono ?_;rintro e W2 ⟨⟨v,rfl⟩,ed,V,⟨xs,cC,hI⟩|hX⟩
 ·obtain⟨G',Hc,hi,J,cB⟩:=hI;refine⟨rec.pending,_,run_endLoop cB.loopAt cM,?_⟩;rw[show rec.pending=none by rw[vd]];exact done xs _ _ _ G' Hc _ _ cC (λp hp=>by simp at hp;rcases hp with hp|rfl|rfl;(exact J.h p hp);all_goals omega) hS.sizes rfl hi _ _ aa (by simp[hD]) (λt v hv=>hF t v hv) (cB.snap.loop _)
 obtain⟨c,G',Hc,hi,J,cB⟩:=hX;refine⟨some c,_,run_endLoop cB.loopAt zP,?_⟩;exact stop _ _ _ c G' Hc hS.sizes rfl hi _ _ aa (by simp[hD]) (λt v hv=>hF t v hv) (cB.loop _)
theorem CJ.rg2{B:World->Prop}{Pre Fin:List α->Prop}(cB:∀W,St G L H0 W->St G L H W/\B W/\∀k,MI k->k<W.heap.size/\ah L k/\k∉H.map (·.1)/\¬G.V k/\¬G.X k)(hg:ev E g=some (.func (.func f) #[] cap.toArray))(aF:fh P f)(sA:∀W W2,St G L H W->B W->Below W.heap.size W W2->zj P f cap enc Pre Fin MI RO W2)(rP:RgO G L H RO)(uT:∀x,(enc x).length=ps.size)(Inv:List α->Gh->ae->Prop)(cO:Code->Gh->ae->Prop)(h0:Inv [] G H)(xv:∀p∈ps.toList,p<N)(round:RgR P N ps assign body E G H L enc MI (λp _ _=>Pre p) Inv cO)(done:RgD P N Q E D L Fin Inv)(stop:RgX P N Q E D L cO):CJ ⟨P,none,N⟩ (.rangeFunc g ps assign body) Q E D G L H0:=
 CJ.rg (Pre:=λp _ _=>Pre p) (Fin:=λp _ _=>Fin p) cB hg aF sA rP uT Inv cO h0 xv round (λxs l Dk rec G' Hc _ _ h1 _ h2 h3 h4 a W k1 k2 k3 J=>done xs l Dk rec G' Hc h1 h2 h3 h4 a W k1 k2 k3 ⟨J.ghost,J.vlt,J.xlt,λw hw=>J.links w (.tail _ hw),J.own,J.nodup,J.apart⟩) stop
theorem Xd{Pre Fin:List α->Prop}(hg:ev E g=some (.func (.func f) #[] cap.toArray))(aF:fh P f)(sA:∀W W2,St G L H W->Below W.heap.size W W2->zj P f cap enc Pre Fin MI RO W2)(J:∀W,St G L H W->(∀k,MI k->k<W.heap.size/\ah L k/\k∉H.map (·.1)/\¬G.V k/\¬G.X k))(rP:RgO G L H RO)(uT:∀x,(enc x).length=ps.size)(Inv:List α->Gh->ae->Prop)(cO:Code->Gh->ae->Prop)(h0:Inv [] G H)(xv:∀p∈ps.toList,p<N)(round:RgR P N ps assign body E G H L enc MI (λp _ _=>Pre p) Inv cO)(done:RgD P N Q E D L Fin Inv)(stop:RgX P N Q E D L cO):CJ ⟨P,none,N⟩ (.rangeFunc g ps assign body) Q E D G L H:=
 CJ.rg2 (B:=λ_=>True) (λW h=>⟨h,trivial,J W h⟩) hg aF (λW W2 h _ hb=>sA W W2 h hb) rP uT Inv cO h0 xv round done stop
variable {i:Nat} {o:Obj}
theorem nvr{Pre Fin:List α->Prop}(hi:H0[i]? =some (b,o))(hH:H0.eraseIdx i=H)(hb:ah L b)(aq:¬G.X b)(hg:ev E g=some (.func (.func f) #[] cap.toArray))(aF:fh P f)(sA:∀W W2,St G L H W->W.heap[b]? =some o->Below W.heap.size W W2->zj P f cap enc Pre Fin (· =b) RO W2)(rP:RgO G L H RO)(uT:∀x,(enc x).length=ps.size)(Inv:List α->Gh->ae->Prop)(cO:Code->Gh->ae->Prop)(h0:Inv [] G H)(xv:∀p∈ps.toList,p<N)(round:RgR P N ps assign body E G H L enc (· =b) (λp _ _=>Pre p) Inv cO)(done:RgD P N Q E D L Fin Inv)(stop:RgX P N Q E D L cO):CJ ⟨P,none,N⟩ (.rangeFunc g ps assign body) Q E D G L H0:=by
 refine CJ.rg2 (B:=λW'=>W'.heap[b]? =some o) (λW hS=>?_) hg aF sA rP uT Inv cO h0 xv round done stop;have hp:=Uk H0 i _ hi;rw[hH]at hp;have sX:=hS.perm hp;have J:=hS.own _ (cF hi);have hnd:=(AO _).1 sX.nodup;rw[jv,List.nodup_cons]at hnd;refine⟨sX.drop hb,J,λk hk=>?_⟩;subst hk;exact⟨(bO.1 J).1,hb,hnd.1,sX.apart (k,o) zP,aq⟩
theorem nRl{Pre Fin:List α->aJ->World->Prop}(hg:ev E g=some (.func (.func f) #[] cap.toArray))(aF:fh P f)(sA:∀W W2,St G L H W->Below W.heap.size W W2->AL P f cap enc Pre Fin MI RO W2)(MU:∀W,St G L H W->(∀k,MI k->k<W.heap.size/\ah L k/\k∉H.map (·.1)/\¬G.V k/\¬G.X k))(rP:RgO G L H RO)(uT:∀x,(enc x).length=ps.size)(Inv:List α->Gh->ae->Prop)(cO:Code->Gh->ae->Prop)(h0:Inv [] G H)(xv:∀p∈ps.toList,p<N)(round:RgR P N ps assign body E G H L enc MI Pre Inv cO)(done:∀xs l Dk rec G' Hc (Z:aJ) (J:World),Fin xs Z J->(∀p∈book Hc l rec (eV Dk),Z p.1)->ah L Dk->l=Dk+1->Inv xs G' Hc->PJ ⟨P,none,N⟩ Q .normal E (jo Dk::D) G' (J::L) (book Hc l rec (eV Dk)))(stop:RgX P N Q E D L cO):CJ ⟨P,none,N⟩ (.rangeFunc g ps assign body) Q E D G L H:=
 CJ.rg (B:=λ_=>True) (λW h=>⟨h,trivial,MU W h⟩) hg aF (λW W2 h _ hb=>sA W W2 h hb) rP uT Inv cO h0 xv round done stop
section
variable {C:Cx} {fn:Func} {R:Ending->World->Prop} {E:Env} {G:Gh} {L:List World} {H:ae} {enc:α->List Value} {m:Nat}
variable {fr:Nat×Nat}
theorem Ea{Dk u T tt ct:Nat}{uv:Value}{xs:List α}(he:e= .ret\/e= .normal)(hr:fn.results=#[.cell t T,.tmp u])(hA:fp C.P T false)(hx:look E t=some (ptr b 0))(hu:look E u=some uv)(hm:(Dk,.deferred (some []))∈H)(hb:(b,.cells cs ct fr)∈H)(kq:b≠Dk)(hv:cs[0]? =some (r.val xs.length))(cQ:r.Fit m xs)(J:∀p∈r.hp enc tt xs,p∈H/\p.1≠Dk)(pF:r.ge w.heap.size)(h:∀W H',St G L H' W->H'.map (·.1)=H.map (·.1)->Below w.heap.size w W):PJ C (bodyPostM (FW none) 0 C.P fn (nv w enc m tt xs (λs=>.tuple #[s,uv]))) e E [jo Dk] G L H:=
 Bu he hm λa W H' hF hS cB di=>by
  obtain⟨i,hi⟩:=iB.1 (cB _ hb kq);refine⟨_,(RS.w (C:=C) hi hA hx hv (RS.t hu RS.n)).res hr hF hS,r,rfl,h W H' hS di,pF,cQ,?_⟩;cases r with
  |nil=>trivial
  |row b' cap sp=>
   obtain⟨h1,h2⟩:=J (b',cT enc tt xs sp) qw;exact hS.own _ (cB _ h1 h2)
end
theorem Ux{α:Type}{enc:α->List Value}{xs:List α}{V:Nat->Prop}(h:r.Fr G L):Cb (G.ext V) L (r.hp enc t xs):=by
 cases r with
 |nil=>exact trivial
 |row b cap sp=>exact⟨h.imp (λh=>.inl h) id,trivial⟩
end
end Px
namespace Px
open Go Go.RowKit Go.Sort
/-! ### the library's sorts, over own rows -/
theorem nUl(w:World)(os:Array Obj):aQ (λ_=>False) w (grow w os):=
 ⟨rfl,rfl,rfl,aC _,by simp[grow],λk hk _=>by simp only[grow];rw[aYs hk]⟩
theorem nvh(w:World)(b:Nat)(f:Array Value->Array Value):aQ (· =b) w (mapBlock w b f):=
 ⟨rfl,rfl,rfl,aC _,by simp[mapBlock],λk _ hk=>by
  simp only[mapBlock,Array.getElem?_modify];rw[if_neg (λe=>hk e.symm)]⟩
theorem nLj(w:World)(n:Nat):aQ (λ_=>False) w (Sort.ahead w n):=⟨rfl,rfl,rfl,by simp[Sort.ahead],aC _,λ_ _ _=>rfl⟩
variable {cs:Array Value} {b t:Nat} {fr:Nat×Nat} {w:World}
theorem nxh(f:Array Value->Array Value)(h:w.heap[b]? =some (.cells cs t fr)):(mapBlock w b f).heap[b]? =some (.cells (f cs) t fr):=by
 simp only[mapBlock,Array.getElem?_modify,if_true,h];rfl
variable {sp:List Value}
theorem Eb{xs:List Int}(h:w.heap[b]? =some (cT ak t xs sp)):Holds (Value.int .i64) w b 0 xs.toArray:=by
 intro j hj;have J:j<xs.length:=by simpa using hj
 refine⟨?_,by simp[World.frozen?,h]⟩;rw[fb h,rM];have e:=VM (enc:=ak) nh xs sp j J;rw[Bd]at e;have e2:=congrArg (λl=>l[0]?) e;all_goals grind [ak]
variable {os:Array Obj} {n:Nat}
theorem YX{xs ys:List Int}(h:w.heap[b]? =some (cT ak t xs sp))(hl:ys.length=xs.length):aQ (· =b) w (grow (putRow (Value.int .i64) (Sort.ahead w n) b 0 ys.toArray) os)/\(grow (putRow (Value.int .i64) (Sort.ahead w n) b 0 ys.toArray) os).heap[b]? =some (cT ak t ys sp):=by
 have hlt:=(bO.1 h).1;have J:=(nLj w n).mono (Y:=(· =b)) (λ_ _ h=>h.elim);have k2:=nvh (Sort.ahead w n) b (putCells (Value.int .i64) 0 ys.toArray);have k3:=(nUl (mapBlock (Sort.ahead w n) b (putCells (Value.int .i64) 0 ys.toArray)) os).mono (Y:=(· =b)) (λ_ _ h=>h.elim);refine⟨(J.trans k2).trans k3,?_⟩;have h2:=nxh (w:=Sort.ahead w n) (putCells (Value.int .i64) 0 ys.toArray) (show(Sort.ahead w n).heap[b]? =_ from h);have h3:(grow (putRow (Value.int .i64) (Sort.ahead w n) b 0 ys.toArray) os).heap[b]? =(mapBlock (Sort.ahead w n) b (putCells (Value.int .i64) 0 ys.toArray)).heap[b]? :=by
  simp only[grow,putRow];rw[aYs];have:=(bO.1 h2).1;exact this
 rw[h3,h2];congr 2;apply Array.ext';apply xL;intro i;have hx:(gL ak xs).length=xs.length:=by rw[vm nh,Bd]
 have hy:(gL ak ys).length=ys.length:=by rw[vm nh,Bd]
 have key:∀(zs:List Int) (i:Nat),(gL ak zs)[i]? =(zs[i]?).map (Value.int .i64):=by
  intro zs;induction zs with
  |nil=>intro i;simp[gL]
  |cons z zs ih=>intro i;cases i with
   |zero=>simp[gL,ak]
   |succ i=>simpa[gL,ak]using ih i
 rw[aQt,aQt];simp only[putCells,Array.getElem?_mapIdx,Qg,cd,true_and,rM,act,Nat.sub_zero];by_cases hi:i<ys.length
 ·rw[aRt aa,aRt aa,key,key];rw[kC (show i<xs.length by omega),kC hi];simp[hi]
 rw[aSt aa,aSt aa,hx,hy,hl];have:¬i<xs.length:=by omega
 cases sp[i-xs.length]?<;>simp[hl,this]
variable {k:Nat}
theorem nbm{α:Type}[Inhabited α]{enc:α->List Value}(hk:∀x,(enc x).length=k)(xs:List α):flatK enc k xs.toArray=(gL enc xs).toArray:=by
 apply Array.ext';apply List.ext_getElem (by simp[flatK,vm hk]);intro i h1 h2;have hi:i<xs.length*k:=by simpa[vm hk]using h2
 have k0:0<k:=Nat.pos_of_ne_zero (λh=>by subst h;simp at hi);have hj:i/k<xs.length:=Nat.div_lt_of_lt_mul (by rw[Nj];exact hi);have e:=VM hk xs [] (i/k) hj;rw[dG]at e;have hm:i%k<k:=Nat.mod_lt _ k0;have e2:=congrArg (λl=>l[i%k]?) e;simp only[List.getElem?_take_of_lt hm,List.getElem?_drop]at e2;have e3:i/k*k+i%k=i:=by rw[Nj];exact Jh i k
 rw[e3]at e2;have e4:(gL enc xs)[i]? =some ((gL enc xs)[i]'Wf):=kC _;rw[e4]at e2;have J:(xs.toArray[i/k]!)=xs[i/k]:=by simp[hj]
 simp only[flatK,Array.getElem_map,Array.toList_map,List.getElem_map,Array.getElem_toList,Array.getElem_range];rw[J];have h6:(enc xs[i/k])[i%k]? =some ((enc xs[i/k])[i%k]'(by rw[hk];exact hm)):=kC _;rw[h6]at e2;have e7:=Option.some.inj e2;rw[getElem!_pos (enc xs[i/k]) (i%k) (by rw[hk];exact hm),<-e7]
theorem Uy{us:List Value}(h:w.heap[b]? =some (.cells (us++sp).toArray t (0,0))):Holds id w b 0 us.toArray:=by
 intro j hj;have J:j<us.length:=by simpa using hj
 refine⟨?_,by simp[World.frozen?,h]⟩;rw[fb h,rM,Qg,aRt J];simp[J]
variable {vs:List Value}
theorem aoy{us:List Value}(h:w.heap[b]? =some (.cells (us++sp).toArray t (0,0)))(hl:vs.length=us.length):aQ (· =b) w (grow (putRow id (Sort.ahead w n) b 0 vs.toArray) os)/\(grow (putRow id (Sort.ahead w n) b 0 vs.toArray) os).heap[b]? =some (.cells (vs++sp).toArray t (0,0)):=by
 have J:=(nLj w n).mono (Y:=(· =b)) (λ_ _ h=>h.elim);have k2:=nvh (Sort.ahead w n) b (putCells id 0 vs.toArray);have k3:=(nUl (mapBlock (Sort.ahead w n) b (putCells id 0 vs.toArray)) os).mono (Y:=(· =b)) (λ_ _ h=>h.elim);refine⟨(J.trans k2).trans k3,?_⟩;have h2:=nxh (w:=Sort.ahead w n) (putCells id 0 vs.toArray) (show(Sort.ahead w n).heap[b]? =_ from h);have h3:(grow (putRow id (Sort.ahead w n) b 0 vs.toArray) os).heap[b]? =(mapBlock (Sort.ahead w n) b (putCells id 0 vs.toArray)).heap[b]? :=by
  simp only[grow,putRow];rw[aYs];exact(bO.1 h2).1
 rw[h3,h2];congr 2;apply Array.ext';apply xL;intro i;rw[aQt,aQt];simp only[putCells,Array.getElem?_mapIdx,Qg,cd,true_and,rM,act,Nat.sub_zero];by_cases hi:i<vs.length
 ·rw[aRt aa,aRt aa];rw[kC (show i<us.length by omega),kC hi];simp[hi]
 rw[aSt aa,aSt aa,hl];have:¬i<us.length:=by omega
 cases sp[i-us.length]?<;>simp[hl,this]
theorem nio{α:Type}[Inhabited α]{enc:α->List Value}(hk:∀x,(enc x).length=k){xs:List α}(h:w.heap[b]? =some (cT enc t xs sp)):HoldsK enc k w b 0 xs.toArray:=by
 unfold HoldsK;rw[nbm hk];exact Uy h
theorem Au{α:Type}[Inhabited α]{enc:α->List Value}(hk:∀x,(enc x).length=k){xs ys:List α}(h:w.heap[b]? =some (cT enc t xs sp))(hl:ys.length=xs.length):aQ (· =b) w (Go.Proofs.sortWorldK enc k w b 0 n ys.toArray os)/\(Go.Proofs.sortWorldK enc k w b 0 n ys.toArray os).heap[b]? =some (cT enc t ys sp):=by
 unfold Go.Proofs.sortWorldK putRowK;rw[nbm hk];exact aoy h (by rw[vm hk,vm hk,hl])
section
variable {C:Cx} {Q:bA} {E:Env} {D:List Deferred} {G:Gh} {L:List World} {H H0 H1:ae} {ops:Array Oper} {l:List Oper}
variable {d ty f:Nat} {pos:String} {aD:Array Edge} {g:Option (Nat×Bool)} {xo:List Operand} {vs:List Value} {eY:Array Nat}
variable {α:Type} {enc:α->List Value} {m:Nat}
variable {r:Rw}
theorem ID{xs ys:List α}(v:Rw->Value)(hH:H=H0++(r.hp enc t xs++H1))(aF:fh C.P f)(hw:nr ops E g=some true)(hN:Nat.blt d C.N=true)(ha:jt E xo=some vs)(aq:r= .nil->∀W,St G L H W->Calls C.P f vs.toArray W (λe w'=>e= .returned (v .nil)/\ys=[]/\Below W.heap.size W w'))(uw:∀b cap sp,r= .row b cap sp->∀W,St G L H W->W.heap[b]? =some (cT enc t xs sp)->Calls C.P f vs.toArray W (λe w'=>∃cq,e= .returned (v (.row b cap cq))/\aQ (· =b) W w'/\(Rw.row b cap cq).Fit m ys/\w'.heap[b]? =some (cT enc t ys cq)))(k:∀J:Rw,J.Fit m ys->(r.Fr G L->J.Fr G L)->(∀n,r.ge n->J.ge n)->(∀n,J.val n=r.val n)->OJ C ops Q l ((d,v J)::E) D G L (H0++(J.hp enc t ys++H1))):OJ C ops Q (⟨some d,.call ⟨.value (.func f),xo.toArray,eY⟩,ty,pos,aD,g⟩::l) E D G L H:=by
 cases r with
 |nil=>
  refine sZ rfl hw rfl ha zP aF λa W jY hD hF hS=>(aq rfl W hS).mono ?_;rintro e W' ⟨rfl,rfl,hb⟩;refine k .nil rfl id (λ_ h=>h) (λ_=>rfl) (a.put (some d) (v .nil)) W' mV lz (hF.put _ (by rw[jY];exact AM hN)) ?_;rw[hH]at hS;exact hS.step hb
 |row b cap sp=>
  have hi:H[H0.length]? =some (b,cT enc t xs sp):=by rw[hH];simp[Rw.hp]
  refine sZ rfl hw rfl ha zP aF λa W jY hD hF hS=>(uw b cap sp rfl W hS (hS.own _ (cF hi))).mono ?_;rintro e W' ⟨cq,rfl,hk,cQ,gi⟩;refine k (.row b cap cq) cQ zL (λ_ h=>h) (λ_=>rfl) (a.put (some d) (v (.row b cap cq))) W' mV lz (hF.put _ (by rw[jY];exact AM hN)) ?_;have:=hS.put hi hk gi;rw[hH]at this;simpa[Rw.hp]using this
end
end Px
namespace Px
open Go Go.RowKit
/-! ### maps from numbers to values -/
section
variable {β:Type}
variable {i j:Nat}
theorem n7r{l:List Nat}(h:l.Nodup)(hi:i<l.length)(hj:j<l.length)(e:l[i]=l[j]):i=j:=by grind [List.pairwise_iff_getElem]
def eK (k:Int):List (Int×β)->Nat->Option (Nat×β)
 | [],_=>none
 |p::l,i=>if p.1=k then some (i,p.2)else eK k l (i+1)
def al (l:List (Int×β)) (k:Int):Option β:=(eK k l 0).map (·.2)
def cJ (l:List (Int×β)) (k:Int) (v:β):List (Int×β):=match eK k l 0 with|some (i,_)=>l.set i (k,v)|none=>l++[(k,v)]
def gR (l:List (Int×β)) (k:Int):List (Int×β):=match eK k l 0 with|some (i,_)=>l.eraseIdx i|none=>l
theorem nAk(k:Int):∀(l:List (Int×β)) (i j:Nat),eK k l (i+j)=(eK k l i).map λp=>(p.1+j,p.2)
 | [],_,_=>rfl
 |p::l,i,j=>by
  unfold eK;split
  ·rfl
  rw[show i+j+1=i+1+j by omega];exact nAk k l (i+1) j
theorem nSf(k:Int)(l:List (Int×β)):eK k l 1=(eK k l 0).map λp=>(p.1+1,p.2):=by
 have:=nAk k l 0 1;omega
theorem nGe{k:Int}:∀{l:List (Int×β)} {i:Nat} {v:β},eK k l 0=some (i,v)->l[i]? =some (k,v)
 | [],_,_,h=>by simp[eK]at h
 |p::l,i,v,h=>by
  unfold eK at h;split at h
  ·grind
  rw[nSf]at h;obtain⟨q,hq,e⟩:=R5.1 h;obtain⟨rfl,rfl⟩:=e;simpa using nGe hq
theorem n1h{k:Int}:∀{l:List (Int×β)} {i:Nat},eK k l i=none↔k∉l.map (·.1):=
 by intro x;induction x<;>(grind [eK])
theorem n6l{l:List (Int×β)}{k:Int}:al l k=none↔k∉l.map (·.1):=by
 simp_all[al,n1h]
theorem nMe(p:Int×β)(l:List (Int×β))(k:Int):al (p::l) k=if p.1=k then some p.2 else al l k:=by
 unfold al;conv=>lhs;rw[eK]
 split
 ·rfl
 rw[nSf];cases eK k l 0<;>rfl
theorem Ik(l J:List (Int×β))(k:Int):al (l++J) k=(al l k).or (al J k):=by induction l<;>grind [al,eK,nMe]
theorem nS(l:List (Int×β))(k:Int)(v:β)(j:Int):al (cJ l k v) j=if j=k then some v else al l j:=by
 (induction l<;>grind [cJ,eK,Ik,al,nMe,nSf])
theorem nLs(l:List (Int×β))(k:Int)(v:β):(cJ l k v).map (·.1)=if k∈l.map (·.1)then l.map (·.1)else l.map (·.1)++[k]:=by
 unfold cJ;cases hi:eK k l 0 with
 |none=>grind [n1h]
 |some q=>
  have h1:=nGe hi;apply xL
  grind
theorem QT{l:List (Int×β)}{k:Int}{v:β}(h:(l.map (·.1)).Nodup):((cJ l k v).map (·.1)).Nodup:=by grind [nLs]
theorem ndj(l:List (Int×β))(k:Int):(gR l k).Sublist l:=by grind [gR]
theorem nur{l:List (Int×β)}{k:Int}(h:(l.map (·.1)).Nodup):((gR l k).map (·.1)).Nodup:=(((ndj l k).map (·.1)).nodup h)
theorem nwo{l:List (Int×β)}(h:(l.map (·.1)).Nodup)(k j:Int):al (gR l k) j=if j=k then none else al l j:=by
 (induction l<;>grind [gR,eK,n6l,n1h,nMe,nSf,al])
structure Mp where
 bs:List Nat
 c:Nat
def ox (ev:β->Value) (l:List (Int×β)) (bs:List Nat):List MapEntry:=(l.zip bs).map λp=>{key:=.int .i64 p.1.1,val:=ev p.1.2,born:=p.2}
def Mp.obj (ev:β->Value) (l:List (Int×β)) (m:Mp):Obj:=.map (ox ev l m.bs).toArray m.c
structure Mp.Ok (l:List (Int×β)) (m:Mp):Prop where
 len:m.bs.length=l.length
 lt:∀b∈m.bs,b<m.c
 nd:m.bs.Nodup
 keys:(l.map (·.1)).Nodup
variable {bs:List Nat}
theorem Uz{ev:β->Value}{l:List (Int×β)}(h:bs.length=l.length)(i:Nat):(ox ev l bs)[i]? =(l[i]?).map λp=>{key:=.int .i64 p.1,val:=ev p.2,born:=bs.getD i 0}:=by grind [ox]
theorem nLk(ev:β->Value)(k:Int):∀(l:List (Int×β)) (bs:List Nat) (i:Nat),bs.length=l.length->Instr.findNow (.int .i64) (.int .i64 k) (ox ev l bs) i=some ((eK k l i).map λp=>(p.1,ev p.2))
 | [],_,_,_=>rfl
 |p::l,[],_,h=>by simp at h
 |p::l,b::bs,i,h=>by
  have ih:=nLk ev k l bs (i+1) cM;simp[ox,Instr.findNow,Instr.sameNow]at ih ⊢
  grind [eK]
variable {kt:Nat} {P:Program} {W:World}
theorem nJg(hK:P.underlying kt=some (.int .i64))(ev:β->Value)(k:Int){l:List (Int×β)}(h:bs.length=l.length):(Instr.findKey kt (.int .i64 k) (ox ev l bs)).run P W= .ok ((eK k l 0).map λp=>(p.1,ev p.2)) W:=by
 simp_all[Instr.findKey,run_underlying,nLk]
end
section
variable {C:Cx} {Q:bA} {E:Env} {D:List Deferred} {G:Gh} {L:List World} {H:ae} {ops:Array Oper} {l:List Oper}
variable {d T ty:Nat} {pos:String} {aD:Array Edge} {g:Option (Nat×Bool)} {x y z:Operand}
variable {β:Type} {ev:β->Value} {kv:List (Int×β)} {m:Mp}
theorem Mp.nil:(Mp.mk [] 0).Ok ([]:List (Int×β)):=⟨rfl,by simp,by simp,by simp⟩
variable {b et kt:Nat} {P:Program} {zv:Value} {W:World}
theorem nRj{k:Int}(c:Bool)(hU:P.underlying T=some (.map kt et))(hK:P.underlying kt=some (.int .i64))(hz:zc P et zv)(hm:m.Ok kv)(hb:W.heap[b]? =some (m.obj ev kv)):(Instr.lookup T (.map (some b)) (.int .i64 k) c).run P W= .ok (if c then .tuple #[((al kv k).map ev).getD zv,.bool (al kv k).isSome]else((al kv k).map ev).getD zv) W:=by
 have gp:W.heap[b]? =some (.map (ox ev kv m.bs).toArray m.c):=hb;have h1:=nJg (P:=P) (W:=W) hK ev k hm.len;have e:al kv k=(eK k kv 0).map (·.2):=rfl;cases hi:eK k kv 0 with
 |none=>
  rw[hi]at h1;have e1:al kv k=none:=by rw[e,hi];rfl
  cases c<;>simp[Instr.lookup,run_underlying hU,I9 gp,WV hK,h1,hz W,e1]
 |some q=>
  rw[hi]at h1;have e1:al kv k=some q.2:=by rw[e,hi];rfl
  cases c<;>simp[Instr.lookup,run_underlying hU,I9 gp,WV hK,h1,e1]
section
variable {k:Int}(hU:C.P.underlying T=some (.map kt et))(hK:C.P.underlying kt=some (.int .i64))(hz:zc C.P et zv)(hm:m.Ok kv)(hb:bL G L H b (m.obj ev kv))(hx:Px.ev E x=some (.map (some b)))(hy:Px.ev E y=some (.int .i64 k))
include hU hK hz hm hb hx hy
theorem kU:RV C G L H E (.lookup T x y true) (.tuple #[((al kv k).map ev).getD zv,.bool (al kv k).isSome]):=λd ty pos aD g a W hF hS=>by
 have:=nRj (W:=W) (k:=k) true hU hK hz hm (hb W hS);simp[execOp,hF.ev hx,hF.ev hy,this]
theorem uG:RV C G L H E (.lookup T x y false) (((al kv k).map ev).getD zv):=λd ty pos aD g a W hF hS=>by
 have:=nRj (W:=W) (k:=k) false hU hK hz hm (hb W hS);simp[execOp,hF.ev hx,hF.ev hy,this]
end
variable {i:Nat}
theorem N3{k:Int}{v:β}(hi:H[i]? =some (b,m.obj ev kv))(hm:m.Ok kv)(hU:C.P.underlying T=some (.map kt et))(hK:C.P.underlying kt=some (.int .i64))(hw:nr ops E g=some true)(hx:Px.ev E x=some (.map (some b)))(hy:Px.ev E y=some (.int .i64 k))(hz:Px.ev E z=some (ev v))(kk:∀m':Mp,m'.Ok (cJ kv k v)->OJ C ops Q l E D G L (H.set i (b,m'.obj ev (cJ kv k v)))):OJ C ops Q (⟨none,.mapUpdate T x y z,ty,pos,aD,g⟩::l) E D G L H:=by
 have h1:=λW:World=>nJg (P:=C.P) (W:=W) hK ev k hm.len;cases hk:eK k kv 0 with
 |none=>
  have e:cJ kv k v=kv++[(k,v)]:=by unfold cJ;rw[hk]
  have gM:(Mp.mk (m.bs++[m.c]) (m.c+1)).Ok (cJ kv k v):=by
   refine⟨by rw[e];simp[hm.len],λb hb=>?_,?_,QT hm.keys⟩
   ·rcases dQ.1 hb with hb|hb
    ·have:=hm.lt b hb;grind
    grind
   exact zxk
  refine MO rfl zP hw (λa W hF hS=>?_) (kk _ gM);have hb:=hS.own _ (cF hi);have hlt:b<W.heap.size:=(bO.1 hb).1;have gp:W.heap[b]? =some (.map (ox ev kv m.bs).toArray m.c):=hb;refine⟨.skip,_,.inl rfl,?_,hS.put hi (MS W b _) (World.putObj_heap_same hlt)⟩;have h2:=h1 W;rw[hk]at h2;have e2:((ox ev kv m.bs).toArray.push {key:=.int .i64 k,val:=ev v,born:=m.c})=(ox ev (cJ kv k v) (m.bs++[m.c])).toArray:=by
   rw[e];apply Array.ext';simp only[ox,Array.toList_push];rw[List.zip_append hm.len.symm];simp
  simp[execOp,hF.ev hx,hF.ev hy,hF.ev hz,Instr.mapUpdate,run_underlying hU,I9 gp,WV hK,h2,WW _ gp,e2,Mp.obj]
 |some q=>
  obtain⟨j,u⟩:=q;have e:cJ kv k v=kv.set j (k,v):=by unfold cJ;rw[hk]
  have gM:m.Ok (cJ kv k v):=⟨by rw[e];simp[hm.len],hm.lt,hm.nd,QT hm.keys⟩;refine MO rfl zP hw (λa W hF hS=>?_) (kk _ gM);have hb:=hS.own _ (cF hi);have hlt:b<W.heap.size:=(bO.1 hb).1;have gp:W.heap[b]? =some (.map (ox ev kv m.bs).toArray m.c):=hb;refine⟨.skip,_,.inl rfl,?_,hS.put hi (MS W b _) (World.putObj_heap_same hlt)⟩;have h2:=h1 W;rw[hk]at h2;have h3:=nGe hk;have h4:=Uz (ev:=ev) hm.len j;rw[h3]at h4;have J:((((ox ev kv m.bs).toArray[j]?).map (·.key)).getD (.int .i64 k))= .int .i64 k:=by simp[h4]
  have hs:Instr.sameBits 10000 (.int .i64 k) (.int .i64 k)=true:=by
   show Instr.sameBits (9999+1) _ _=true;generalize 9999=n;simp[Instr.sameBits]
  have e2:((ox ev kv m.bs).toArray.modify j λen=>{en with key:=.int .i64 k,val:=ev v})=(ox ev (cJ kv k v) m.bs).toArray:=by
   rw[e];apply Array.ext';apply xL;intro i';simp only[Array.toList_modify,List.getElem?_modify];rw[Uz hm.len,Uz (by simp[hm.len]),List.getElem?_set];by_cases e3:j=i'
   ·grind
   simp[e3]
  simp only[execOp,hF.ev hx,hF.ev hy,hF.ev hz,Instr.mapUpdate,Sem.run_bind,run_underlying hU,Result.andThen,I9 gp,WV hK,h2,VU,J,Instr.keyThatStays,hs,if_true,Sem.run_pure,WW _ gp,e2];rfl
theorem Y1{J:Nat}{k:Int}{d:Option Nat}(hd:d=none)(hi:H[i]? =some (b,m.obj ev kv))(hm:m.Ok kv)(hU:C.P.underlying T=some (.map kt et))(hK:C.P.underlying kt=some (.int .i64))(hw:nr ops E g=some true)(hx:Px.ev E x=some (.map (some b)))(hy:Px.ev E y=some (.int .i64 k))(kk:∀m':Mp,m'.Ok (gR kv k)->OJ C ops Q l E D G L (H.set i (b,m'.obj ev (gR kv k)))):OJ C ops Q (⟨d,.call ⟨.builtin .delete,#[x,y],#[T,J]⟩,ty,pos,aD,g⟩::l) E D G L H:=by
 subst hd;have h1:=λW:World=>nJg (P:=C.P) (W:=W) hK ev k hm.len;cases hk:eK k kv 0 with
 |none=>
  have e:gR kv k=kv:=by unfold gR;rw[hk]
  have gM:m.Ok (gR kv k):=by rw[e];exact hm
  refine MO rfl zP hw (λa W hF hS=>?_) (kk _ gM);have hb:=hS.own _ (cF hi);have hlt:b<W.heap.size:=(bO.1 hb).1;have gp:W.heap[b]? =some (.map (ox ev kv m.bs).toArray m.c):=hb;refine⟨.value (.tuple #[]),_,.inr ⟨_,rfl⟩,?_,hS.put hi (MS W b _) (World.putObj_heap_same hlt)⟩;have h2:=h1 W;rw[hk]at h2;simp[execOp,hF.ev hx,hF.ev hy,resolve,invoke,builtin,Builtin.delete_,run_underlying hU,I9 gp,WV hK,h2,WW _ gp,e,Mp.obj]
 |some q=>
  obtain⟨j,u⟩:=q;have e:gR kv k=kv.eraseIdx j:=by unfold gR;rw[hk]
  have hj:=(qe.1 (nGe hk)).1;have gM:(Mp.mk (m.bs.eraseIdx j) m.c).Ok (gR kv k):=by
   refine⟨by rw[e,List.length_eraseIdx_of_lt hj,List.length_eraseIdx_of_lt (by rw[hm.len];exact hj),hm.len],λb hb=>hm.lt b (List.mem_of_mem_eraseIdx hb),(List.eraseIdx_sublist _ _).nodup hm.nd,nur hm.keys⟩
  refine MO rfl zP hw (λa W hF hS=>?_) (kk _ gM);have hb:=hS.own _ (cF hi);have hlt:b<W.heap.size:=(bO.1 hb).1;have gp:W.heap[b]? =some (.map (ox ev kv m.bs).toArray m.c):=hb;refine⟨.value (.tuple #[]),_,.inr ⟨_,rfl⟩,?_,hS.put hi (MS W b _) (World.putObj_heap_same hlt)⟩;have h2:=h1 W;rw[hk]at h2;have hz:∀(l:List (Int×β)) (bs:List Nat) (j:Nat),(l.zip bs).eraseIdx j=(l.eraseIdx j).zip (bs.eraseIdx j):=by
   intro l;induction l with
   |nil=>simp
   |cons p l ih=>
    intro bs j;cases bs with
    |nil=>simp
    |cons b bs=>cases j<;>simp_all
  have e2:(ox ev kv m.bs).eraseIdx j=ox ev (gR kv k) (m.bs.eraseIdx j):=by
   rw[e];simp only[ox];rw[<-hz,ChangeMaps.map_eraseIdx]
  simp[execOp,hF.ev hx,hF.ev hy,resolve,invoke,builtin,Builtin.delete_,run_underlying hU,I9 gp,WV hK,h2,WW _ gp,e2,Mp.obj]
def Mp.it (b:Nat) (m:Mp) (js:List Nat):Obj:=.mapIter (some b) m.c (js.map λj=>m.bs.getD j 0).toArray m.c
theorem Y2(hU:C.P.underlying T=some (.map kt et))(hb:bL G L H b (m.obj ev kv))(hw:nr ops E g=some true)(hN:Nat.blt d C.N=true)(hx:Px.ev E x=some (.map (some b)))(k:∀J:Nat,ah L J->cu H J->OJ C ops Q l ((d,ptr J 0)::E) D G L ((J,m.it b [])::H)):OJ C ops Q (⟨some d,.range T x,ty,pos,aD,g⟩::l) E D G L H:=
 rF zP hw hN λa W hF hS=>by
  have gp:W.heap[b]? =some (.map (ox ev kv m.bs).toArray m.c):=hb W hS;refine⟨_,_,_,_,?_,hS.alloc (m.it b []),k W.heap.size hS.sizes hS.offNew⟩;have:=run_range_map (P:=C.P) W T kt et b _ _ hU gp;simp[execOp,hF.ev hx,this,Mp.it]
theorem Y5(hU:C.P.underlying T=some (.map kt et))(hw:nr ops E g=some true)(hN:Nat.blt d C.N=true)(hx:Px.ev E x=some (.map none))(k:∀J:Nat,ah L J->cu H J->OJ C ops Q l ((d,ptr J 0)::E) D G L ((J,.mapIter none 0 #[] 0)::H)):OJ C ops Q (⟨some d,.range T x,ty,pos,aD,g⟩::l) E D G L H:=
 rF zP hw hN λa W hF hS=>by
  refine⟨_,_,_,_,?_,hS.alloc (.mapIter none 0 #[] 0),k W.heap.size hS.sizes hS.offNew⟩;have:=run_range_nilMap (P:=C.P) W T kt et hU;simp[execOp,hF.ev hx,this]
theorem QV{J:Nat}(hi:H[i]? =some (J,.mapIter none 0 #[] 0))(hw:nr ops E g=some true)(hN:Nat.blt d C.N=true)(hx:Px.ev E x=some (ptr J 0))(k:OJ C ops Q l ((d,.tuple #[.bool false])::E) D G L H):OJ C ops Q (⟨some d,.next x false,ty,pos,aD,g⟩::l) E D G L H:=
 rF zP hw hN λa W hF hS=>by
  have hr:=hS.own _ (cF hi);refine⟨_,W,L,H,?_,hS,k⟩;simp[execOp,hF.ev hx,Instr.next,getObj,Sem.run,hr]
theorem N6{J:Nat}{js:List Nat}(hi:H[i]? =some (J,m.it b js))(hm:m.Ok kv)(hb:bL G L H b (m.obj ev kv))(uD:∀j∈js,j<kv.length)(hw:nr ops E g=some true)(hN:Nat.blt d C.N=true)(hx:Px.ev E x=some (ptr J 0))(k1:(∀j,j<kv.length->j∈js)->OJ C ops Q l ((d,.tuple #[.bool false])::E) D G L H)(k2:∀(j:Nat) (p:Int×β),kv[j]? =some p->j∉js->OJ C ops Q l ((d,.tuple #[.bool true,.int .i64 p.1,ev p.2])::E) D G L (H.set i (J,m.it b (js++[j])))):OJ C ops Q (⟨some d,.next x false,ty,pos,aD,g⟩::l) E D G L H:=
 rF zP hw hN λa W hF hS=>by
  have hr:W.heap[J]? =some (.mapIter (some b) m.c (js.map λj=>m.bs.getD j 0).toArray m.c):=hS.own _ (cF hi);have gp:W.heap[b]? =some (.map (ox ev kv m.bs).toArray m.c):=hb W hS;have aq:∀e∈(ox ev kv m.bs).toArray.toList,e.born<m.c:=by
   intro e he;obtain⟨j,hj⟩:=iB.1 he;simp only at hj;rw[Uz hm.len]at hj;obtain⟨p,hp,rfl⟩:=R5.1 hj;have UL:=(qe.1 hp).1;have:j<m.bs.length:=by rw[hm.len];exact UL
   exact hm.lt _ cM
  have hin:∀j,j<kv.length->((js.map λj=>m.bs.getD j 0).toArray.contains (m.bs.getD j 0)=true↔j∈js):=by
   intro j hj;rw[Array.contains_iff_mem];simp only[List.mem_toArray,dO];constructor
   ·rintro⟨j',h1,h2⟩;have h3:=uD j' h1;have aW:j<m.bs.length:=by rw[hm.len];exact hj
    have bV:j'<m.bs.length:=by rw[hm.len];exact h3
    simp[kC aW,kC bV]at h2;have:=n7r hm.nd bV aW h2
    grind
   grind
  have hex:∀{v W'},(Instr.next (.pointer (some ⟨J,0,none⟩)) false ty).run C.P W= .ok v W'->(execOp a.eval ⟨some d,.next x false,ty,pos,aD,g⟩).run C.P W= .ok (.value v) W':=by
   intro v W' hh;simp[execOp,hF.ev hx,hh]
  rcases run_next_at (P:=C.P) W ty J b m.c m.c _ _ m.c hr gp aq (aC _)with⟨h0,iJ⟩|⟨e,he,W1,WX,iJ⟩
  ·refine⟨_,W,L,H,hex iJ,hS,k1 λj hj=>?_⟩;have gi:=Uz (ev:=ev) hm.len j;rw[kC hj]at gi;have mG:=cF gi;have:(leftOf (ox ev kv m.bs).toArray (js.map λj=>m.bs.getD j 0).toArray)=#[]:=Array.eq_empty_of_size_eq_zero h0;unfold leftOf at this;rw[Array.filter_eq_empty_iff]at this;have h2:=this _ (by simpa using mG)
   grind
  unfold leftOf at he;rw[Array.toList_filter,vy]at he;obtain⟨bJ,bj⟩:=he;obtain⟨j,hj⟩:=iB.1 bJ;rw[Uz hm.len]at hj;obtain⟨p,hp,rfl⟩:=R5.1 hj;have sX:St G L H W1:=by
   rcases WX with rfl|rfl
   ·exact hS
   exact hS.step (IC W _)
  have T8:J<W1.heap.size:=(bO.1 (sX.own _ (cF hi))).1;have Ud:=sX.put hi (MS W1 J (m.it b (js++[j]))) (World.putObj_heap_same T8)
  grind [ChangeMaps.setBlock,World.putObj,Mp.it]
variable {j:Nat}
theorem Em{J:Nat}{js:List Nat}{p:Int×β}(hi:H[i]? =some (J,m.it b (js++[j])))(hm:m.Ok kv)(hb:bL G L H b (m.obj ev kv))(hp:kv[j]? =some p)(hx:Px.ev E x=some (ptr J 0)):RV C G L H E (.entry x) (.tuple #[.int .i64 p.1,ev p.2]):=λd ty pos aD g a W hF hS=>by
 have hr:W.heap[J]? =some (.mapIter (some b) m.c (((js++[j]).map λj=>m.bs.getD j 0).toArray) m.c):=hS.own _ (cF hi);have gp:W.heap[b]? =some (.map (ox ev kv m.bs).toArray m.c):=hb W hS;have gi:=Uz (ev:=ev) hm.len j;rw[hp]at gi;have hnd:((ox ev kv m.bs).toArray.toList.map (·.born)).Nodup:=by
  have:(ox ev kv m.bs).toArray.toList.map (·.born)=m.bs:=by
   simp only[ox,List.map_map];rw[show((λx:MapEntry=>x.born)∘λp:(Int×β)×Nat=>({key:=.int .i64 p.1.1,val:=ev p.1.2,born:=p.2}:MapEntry))=Prod.snd from rfl];rw[List.map_snd_zip];exact Nat.le_of_eq hm.len
  rw[this];exact hm.nd
 have:=run_entry_at (P:=C.P) W J b m.c (js.map λj=>m.bs.getD j 0).toArray _ m.c _ cM gp (cF gi) hnd;simp[execOp,hF.ev hx,this]
theorem Kq(ev:β->Value)(hw:nr ops E g=some true)(hN:Nat.blt d C.N=true)(k:∀(b:Nat),ah L b->cu H b->OJ C ops Q l ((d,.map (some b))::E) D G L ((b,(Mp.mk [] 0).obj ev [])::H)):OJ C ops Q (⟨some d,.makeMap T none,ty,pos,aD,g⟩::l) E D G L H:=
 rF zP hw hN λa W _ hS=>⟨.map (some W.heap.size),W.alloc ((Mp.mk [] 0).obj ev []),_,_,by rfl,hS.alloc _,k W.heap.size hS.sizes hS.offNew⟩
end
section
variable {C:Cx} {Q:bA} {E:Env} {D:List Deferred} {G:Gh} {L:List World} {H H0 H1:ae} {ops:Array Oper} {l:List Oper}
variable {d ty f:Nat} {pos:String} {aD:Array Edge} {g:Option (Nat×Bool)} {xo:List Operand} {vs:List Value} {eY:Array Nat}
variable {β:Type} {ev:β->Value} {kv:List (Int×β)}
def Aj (w:World) (ev:β->Value) (kv:List (Int×β)) (v:Value->Value):Ending->World->Prop:=λe w'=>
 ∃(b:Nat) (m:Mp),e= .returned (v (.map (some b)))/\Below w.heap.size w w'/\w.heap.size<=b/\m.Ok kv/\w'.heap[b]? =some (m.obj ev kv)
variable {v:Value->Value}
theorem nGk(aF:fh C.P f)(hw:nr ops E g=some true)(hN:Nat.blt d C.N=true)(ha:jt E xo=some vs)(hc:∀W,St G L H W->Calls C.P f vs.toArray W (Aj W ev kv v))(k:∀(b:Nat) (m:Mp),ah L b->cu H b->m.Ok kv->OJ C ops Q l ((d,v (.map (some b)))::E) D G L ((b,m.obj ev kv)::H)):OJ C ops Q (⟨some d,.call ⟨.value (.func f),xo.toArray,eY⟩,ty,pos,aD,g⟩::l) E D G L H:=
 sZ rfl hw rfl ha zP aF λa W jY hD hF hS=>(hc W hS).mono (by
  rintro ed W' ⟨b,m,rfl,hb,pF,hm,J⟩;exact k b m (M4 hS pF) (Ca hS pF) hm (a.put (some d) (v (.map (some b)))) W' mV lz (hF.put _ z2) ((hS.step hb).adopt J (Ca hS pF) (λhv=>zYY)))
variable {e:Exit} {fn:Func} {rs:List ResultVar} {b i:Nat} {w:World}
theorem N4{us:List Value}{m:Mp}(he:e= .ret\/e= .normal)(hr:fn.results=rs.toArray)(h:RS C Gh.no L H E rs us)(hw:w∈L)(ho:Over w.heap.size H)(hv:Ug us=v (.map (some b)))(hm:m.Ok kv)(hi:H[i]? =some (b,m.obj ev kv)):PJ C (bodyPost C.P fn (Aj w ev kv v)) e E [] Gh.no L H:=
 bH he hr h λW hS=>⟨b,m,by rw[hv],hS.base hw ho,ho.mem _ (cF hi),hm,hS.own _ (cF hi)⟩
variable {m t:Nat}
theorem Y4{α:Type}{enc:α->List Value}{Fin:List α->Prop}(aF:fh C.P f)(hw:nr ops E g=some true)(hN:Nat.blt d C.N=true)(ha:jt E xo=some vs)(hc:∀W,St G L H W->Calls C.P f vs.toArray W (λe w'=>∃xs,Fin xs/\nv W enc m t xs v e w'))(k:∀(xs:List α) (r:Rw),Fin xs->r.Fr G L->r.Fit m xs->OJ C ops Q l ((d,v (r.val xs.length))::E) D G L (r.hp enc t xs++H)):OJ C ops Q (⟨some d,.call ⟨.value (.func f),xo.toArray,eY⟩,ty,pos,aD,g⟩::l) E D G L H:=
 sZ rfl hw rfl ha zP aF λa W jY hD hF hS=>(hc W hS).mono (by
  rintro ed W' ⟨xs,cC,r,rfl,hb,pF,J,gi⟩;refine k xs r cC ?_ J (a.put (some d) (v (r.val xs.length))) W' mV lz (hF.put _ z2) ?_
  ·cases r with
   |nil=>trivial
   |row b cap sp=>exact Fr.up hS pF
  cases r with
  |nil=>exact hS.step hb
  |row b cap sp=>exact(hS.step hb).adopt gi (Ca hS pF) (λhv=>zYBe))
variable {cap first:List Value} {o:Obj} {x:Operand}
theorem ntg{γ:Type}{v:γ->Value}{ob:γ->Obj}{Φ:γ->Prop}(hi:H[i]? =some (b,o))(hx:Px.ev E x=some (.func (.func f) first.toArray cap.toArray))(aF:fh C.P f)(hw:nr ops E g=some true)(hN:Nat.blt d C.N=true)(ha:jt E xo=some vs)(hc:∀W,St G L H W->W.heap[b]? =some o->Calls C.P f (first++vs++cap).toArray W (λe w'=>∃y,e= .returned (v y)/\aQ (· =b) W w'/\Φ y/\w'.heap[b]? =some (ob y)))(k:∀y,Φ y->OJ C ops Q l ((d,v y)::E) D G L (H.set i (b,ob y))):OJ C ops Q (⟨some d,.call ⟨.value x,xo.toArray,eY⟩,ty,pos,aD,g⟩::l) E D G L H:=
 sZ rfl hw hx ha zP aF λa W jY hD hF hS=>(hc W hS (hS.own _ (cF hi))).mono (by
  rintro ed W' ⟨y,rfl,hk,hP,J⟩;exact k y hP (a.put (some d) (v y)) W' mV lz (hF.put _ z2) (hS.put hi hk J))
variable {N n:Nat} {a:Option Addr}
theorem aj.blk{α:Type}{enc:α->Array Value}{N':Nat}{w':World}{xs:List α}(h:aj enc n N w a xs)(hw:∀b off,a=some ⟨b,off,none⟩->b<N->b<N'/\w'.heap[b]? =w.heap[b]?):aj enc n N' w' a xs:=by
 grind [aj]
def N7 {α:Type} (w:World) (ev:β->Value) (kv:List (Int×β)) (enc:α->List Value) (n:Nat) (ds:List α) (v:Value->Value->Value):Ending->World->Prop:=λe w'=>
 ∃(b:Nat) (m:Mp) (a:Option Addr) (cp:Nat),e= .returned (v (.map (some b)) (.slice a ds.length cp))/\Below w.heap.size w w'/\w.heap.size<=b/\m.Ok kv/\w'.heap[b]? =some (m.obj ev kv)/\aj (λx=>(enc x).toArray) n w'.heap.size w' a ds/\∀q,a=some q->w.heap.size<=q.block/\q.block≠b
theorem nXj{α:Type}{enc:α->List Value}{ds:List α}{v:Value->Value->Value}(aF:fh C.P f)(hw:nr ops E g=some true)(hN:Nat.blt d C.N=true)(ha:jt E xo=some vs)(hc:∀W,St G L H W->Calls C.P f vs.toArray W (N7 W ev kv enc n ds v))(k:∀(b:Nat) (m:Mp) (a:Option Addr) (cp:Nat) (W w1:World),St G L H W->Below W.heap.size W w1->W.heap.size<=b->b<w1.heap.size->ah L b->cu H b->m.Ok kv->aj (λx=>(enc x).toArray) n w1.heap.size w1 a ds->(∀q,a=some q->W.heap.size<=q.block/\q.block≠b)->OJ C ops Q l ((d,v (.map (some b)) (.slice a ds.length cp))::E) D G (w1::L) ((b,m.obj ev kv)::H)):OJ C ops Q (⟨some d,.call ⟨.value (.func f),xo.toArray,eY⟩,ty,pos,aD,g⟩::l) E D G L H:=
 sZ rfl hw rfl ha zP aF λac W jY hD hF hS=>(hc W hS).mono (by
  rintro ed W' ⟨b,m,a,cp,rfl,hb,pF,hm,J,aA,kq⟩;refine k b m a cp W W' hS hb pF (bO.1 J).1 (M4 hS pF) (Ca hS pF) hm aA kq (ac.put (some d) (v (.map (some b)) (.slice a ds.length cp))) W' mV lz (hF.put _ z2) ?_;exact((hS.step hb).snap.adopt J (Ca hS pF) (λhv=>zYY)))
theorem OJ.perm{H':ae}(hp:H.Perm H')(k:OJ C ops Q l E D G L H'):OJ C ops Q l E D G L H:=λa W hN hD hF hS=>k a W hN hD hF (hS.perm hp)
theorem PJ.perm{H':ae}(hp:H.Perm H')(k:PJ C Q e E D G L H'):PJ C Q e E D G L H:=λa W hN hD hF hS=>k a W hN hD hF (hS.perm hp)
variable {fv:Operand}
theorem xg{α:Type}{enc:α->List Value}{xs:List α}(hx:Px.ev E fv=some (.func (.func f) first.toArray cap.toArray))(aF:fh C.P f)(hw:nr ops E g=some true)(hN:Nat.blt d C.N=true)(ha:jt E xo=some vs)(hc:∀W,St G L H W->Calls C.P f (first++vs++cap).toArray W (nv W enc m t xs v))(k:∀r:Rw,r.Fr G L->r.Fit m xs->OJ C ops Q l ((d,v (r.val xs.length))::E) D G L (H++(r.hp enc t xs++[]))):OJ C ops Q (⟨some d,.call ⟨.value fv,xo.toArray,eY⟩,ty,pos,aD,g⟩::l) E D G L H:=
 IB hx aF hw hN ha hc λr h1 h2=>OJ.perm zWc (k r h1 h2)
end
/-! ### loops whose rounds lay marks; ranges inside of iterators -/
section
variable {C:Cx} {Q:bA} {E:Env} {D:List Deferred} {G:Gh} {L:List World} {H:ae}
def Il {α:Type} (C:Cx) (Di:α->List Deferred) (Ei:α->Env) (Hi:α->ae) (Li:α->List World) (Gi:α->Gh) (ok:α->Prop) (μ:α->Nat) (x:α):Act->World->Prop:=λa W=>
 ∃x',ok x'/\μ x'<μ x/\a.tmps.size=C.N/\a.defers=Di x'/\Fits (Ei x') a/\St (Gi x') (Li x') (Hi x') W
variable {c:Code}
theorem CJ.loopD{α:Type}(Di:α->List Deferred)(J:α->Env)(Hi:α->ae)(Li:α->List World)(Gi:α->Gh)(ok:α->Prop)(μ:α->Nat)(x0:α)(h0:ok x0)(hE:Sub (J x0) E)(hH:Hi x0=H)(hG:Gi x0=G)(hL:∀w∈Li x0,w∈L)(bu:Di x0=D)(round:∀x,ok x->CJ C c (Exit.then (Il C Di J Hi Li Gi ok μ x) Q) (J x) (Di x) (Gi x) (Li x) (Hi x)):CJ C (.loop c) Q E D G L H:=by
 intro a W hN hD hF hS;subst hH;subst hG;subst bu
 let Inv:Act->World->Nat->Prop:=λa W m=>∃x,μ x=m/\ok x/\a.tmps.size=C.N/\a.defers=Di x/\Fits (J x) a/\St (Gi x) (Li x) (Hi x) W
 refine wpIn_loop (λa W=>∃m,Inv a W m) (λa W=>TZ (Inv a W)) ⟨_,x0,rfl,h0,hN,hD,hE.fits hF,hS.lessL hL⟩ ?_;exact zYi
theorem nRr{α:Type}{Di:α->List Deferred}{Ei:α->Env}{Hi:α->ae}{Li:α->List World}{Gi:α->Gh}{ok:α->Prop}{μ:α->Nat}{x:α}(x':α)(h0:ok x')(hlt:μ x'<μ x)(hE:Sub (Ei x') E)(hH:Hi x'=H)(hG:Gi x'=G)(hL:∀w∈Li x',w∈L)(J:Di x'=D):PJ C (Exit.then (Il C Di Ei Hi Li Gi ok μ x) Q) .normal E D G L H:=by
 intro a W hN hD hF hS;subst hH;subst hG;subst J;exact⟨x',h0,hlt,hN,hD,hE.fits hF,hS.lessL hL⟩
abbrev Mk:=Nat×Loop×Nat
def qS (ms:List Mk):ae:=ms.flatMap λq=>[(q.1,.loop q.2.1),(q.2.2,.deferred (some []))]
def mkD (ms:List Mk):List Deferred:=ms.map λq=>jo q.2.2
theorem nDn(l Dk:Nat)(rec:Loop)(ms:List Mk)(H:ae):(book (H++qS ms) l rec (eV Dk)).Perm (H++qS ((l,rec,Dk)::ms)):=by
 simp[qS]
 grind [List.Perm.append_left,List.perm_append_comm]
variable {ms:List Mk}
theorem M8:∀k∈ms.map (·.2.2),(k,.deferred (some []))∈qS ms:=by
 simp[Mk,ae,qS]
theorem UA(ms:List Mk):mkD ms=(ms.map (·.2.2)).map jo:=by simp[mkD]
def yq (n:Nat) (ms:List Mk):Prop:=∀q∈ms,n<=q.1/\n<=q.2.2
variable {n:Nat}
theorem Zn(h:yq n ms):∀p∈qS ms,n<=p.1:=by
 intro p hp;obtain⟨q,hq,hp⟩:=List.mem_flatMap.1 hp;have:=h q hq
 grind
variable {k:Nat}
theorem nxq(h:yq n ms)(hk:k<n):cu (qS ms) k:=cu.of_mem λhm=>by
 grind [Zn,yq,qS]
variable {W:World}
theorem nfs(hS:St G L (H++qS ms) W):(ms.map (·.2.2)).Nodup:=by
 have h:=(AO _).1 hS.nodup;rw[iM,List.nodup_append]at h;have h2:=h.2.1;clear h hS;induction ms with
 |nil=>simp
 |cons q ms ih=>
  simp only[qS,List.flatMap_cons,gU,jv,List.nodup_cons]at h2 ⊢;refine⟨λhm=>?_,ih h2.2.2⟩
  (congr;grind)
variable {e:Exit} {fn:Func} {I:World->Prop}
theorem Zl{W0:World}{MI RO M:aJ}{hM:∀k,M k->k<W0.heap.size/\¬MI k/\¬RO k}{V:aJ}{hI:fG (λk=>(k<W0.heap.size/\¬MI k)\/V k) I}{α:Type}{Fin:List α->Prop}{J:List α->aJ->World->Prop}{X:aJ->World->Prop}{H0:ae}(he:e= .ret\/e= .normal)(hr:fn.results=#[])(hw:W0∈L)(hV:∀k,V k->W0.heap.size<=k)(hH:∀k,k<W0.heap.size->k∈(H0++qS ms).map (·.1)->MI k)(h:∀A,I A->(∃xs,Fin xs/\J xs V A)\/X V A):PJ C (bodyPostM (FW none) 0 C.P fn (λe W'=>(∃v,e= .returned v)/\aQ (λk=>M k\/MI k) W0 W'/\∃V,(∃xs,Fin xs/\J xs V W')\/X V W')) e E (mkD ms) (dI hM V hI) L (H0++qS ms):=by
 intro a W hN hD hF hS;have key:LeavesInM (FW none) 0 C.P fn a.tmps (λe W'=>(∃v,e= .returned v)/\aQ (λk=>M k\/MI k) W0 W'/\∃V,(∃xs,Fin xs/\J xs V W')\/X V W') a.defers .returning W:=
  nFh (Ds:=ms.map (·.2.2)) (by rw[hD,UA]) hS (λk hk=>dQ.2 (.inr (M8 k hk))) (nfs hS) (λW' H' gW _ di=>by
   refine⟨_,results_none hr _ _ _,⟨_,rfl⟩,(gW.links W0 hw).mono λk hk hx=>?_,V,h W' gW.ghost⟩;rcases hx with(hx|hx)|hx;all_goals grind)
 exact WR
end
section
variable {C:Cx} {Q:bA} {E:Env} {D:List Deferred} {L:List World} {H:ae} {ops:Array Oper} {l:List Oper}
variable {d ty:Nat} {pos:String} {aD:Array Edge} {g:Option (Nat×Bool)} {x:Operand} {xs:List Operand} {vs:List Value} {eY:Array Nat}
variable {W0:World} {MI RO M:aJ} {hM:∀k,M k->k<W0.heap.size/\¬MI k/\¬RO k}
variable {I1 X1:aJ->World->Prop} {I:World->Prop}
theorem Zo{y:Nat}(Z:aJ)(T:Gh->Gh)(hT:∀G,(T G).M=G.M/\(T G).V=G.V/\(T G).R=G.R/\(T G).X=λk=>G.X k\/Z k){V:aJ}{hI:fG (λk=>(k<W0.heap.size/\¬MI k)\/V k) I}(mY:∀V,fG (λk=>(k<W0.heap.size/\¬MI k)\/V k) (I1 V))(oc:∀V,fG (λk=>(k<W0.heap.size/\¬MI k)\/V k) (X1 V))(hV:∀k,V k->W0.heap.size<=k)(hw:nr ops E g=some true)(hN:Nat.blt d C.N=true)(hx:ev E x=some (yv y))(ha:jt E xs=some vs)(hy:∀W1,(∀k,V k->W0.heap.size<=k/\k<W1.heap.size)->I W1->Pp C.P y vs.toArray W1 (λb W2=>aQ (λk=>M k\/V k) W1 W2/\(if b then I1 (rV V W1 W2) W2 else X1 (rV V W1 W2) W2)))(k1:∀J,(∀k,V k->J k)->(∀w∈L,∀k,J k->V k\/w.heap.size<=k)->OJ C ops Q l ((d,.bool true)::E) D (T (dI hM J (mY J))) L H)(k2:∀J,(∀k,V k->J k)->(∀w∈L,∀k,J k->V k\/w.heap.size<=k)->OJ C ops Q l ((d,.bool false)::E) D (T (dI hM J (oc J))) L H):OJ C ops Q (⟨some d,.call ⟨.value x,xs.toArray,eY⟩,ty,pos,aD,g⟩::l) E D (T (dI hM V hI)) L H:=by
 refine Uv (λG'=>∃J,(∀k,V k->J k)/\(∀w∈L,∀k,J k->V k\/w.heap.size<=k)/\G'=T (dI hM J (mY J))) (λG'=>∃J,(∀k,V k->J k)/\(∀w∈L,∀k,J k->V k\/w.heap.size<=k)/\G'=T (dI hM J (oc J))) hw hN hx ha (λW1 hS=>?_) cM cM;have de:∀k,V k->k<W1.heap.size:=λk hk=>hS.xlt k (by rw[(hT _).2.2.2];exact .inl (.inr hk));have aq:I W1:=by have:=hS.ghost;rw[(hT _).2.2.1]at this;exact this
 obtain⟨fn,tmps,assign,body,iJ,iZ⟩:=hy W1 (λk hk=>⟨hV k hk,de k hk⟩) aq;exact zMi
theorem Rh(G:Gh):(id G).M=G.M/\(id G).V=G.V/\(id G).R=G.R/\(id G).X=λk=>G.X k\/(λ_=>False) k:=⟨rfl,rfl,rfl,by simp⟩
theorem Zp(Z:aJ)(G:Gh):(G.ext Z).M=G.M/\(G.ext Z).V=G.V/\(G.ext Z).R=G.R/\(G.ext Z).X=λk=>G.X k\/Z k:=⟨rfl,rfl,rfl,rfl⟩
end
/-! ### blocks that stay as_ they are, from here to the end -/
def iu (F:ae):Gh where
 M:=λ_=>False
 V:=λk=>k∈F.map (·.1)
 R:=λW=>∀p∈F,W.heap[p.1]? =some p.2
 X:=λ_=>False
 sub:=λ_ h=>h.elim
 subX:=λ_ h=>h
 stab:=λA B h _ _ _ _ _ hv p hp=>(hv p.1 (dO.2 ⟨p,hp,rfl⟩)).trans (h p hp)
section
variable {L:List World} {H:ae} {W:World} {F:ae}
theorem St.fz0(h:St Gh.no L H W):St (iu []) L H W:=
 {ghost:=λp hp=>by simp at hp,vlt:=λk hk=>by simp[iu]at hk,xlt:=λk hk=>hk.elim,links:=h.links,own:=h.own,nodup:=h.nodup,apart:=λp _ hv=>by simp[iu]at hv}
theorem St.fzAt(h:St (iu F) L H W):∀p∈F,W.heap[p.1]? =some p.2:=h.ghost
theorem Ap(w:World):St (iu []) [w] [] w:=(AX w).fz0
theorem St.fz{A:ae}(h:St (iu F) L (A++H) W)(ha:∀p∈A,ah L p.1):St (iu (A++F)) L H W:=by
 have hd:=(AO _).1 h.nodup;rw[iM,List.nodup_append]at hd;refine⟨λp hp=>?_,λk hk=>?_,λk hk=>hk.elim,λw hw=>?_,λp hp=>h.own p (dQ.2 (.inr hp)),(AO _).2 hd.2.1,λp hp hv=>?_⟩
 ·rcases dQ.1 hp with hp|hp
  ·exact h.own p (dQ.2 (.inl hp))
  exact h.ghost p hp
 ·obtain⟨p,hp,rfl⟩:=dO.1 hk;rcases dQ.1 hp with hp|hp
  ·exact h.lt p (dQ.2 (.inl hp))
  exact h.vlt p.1 (dO.2 ⟨p,hp,rfl⟩)
 ·refine(h.links w hw).mono λk hk hx=>?_;rcases hx with hx|hx
  ·exact hx.elim
  rw[iM]at hx;rcases dQ.1 hx with hx|hx
  ·obtain⟨p,hp,rfl⟩:=dO.1 hx;have:=(ha p hp).mem w hw;omega
  grind
 obtain⟨q,hq,e⟩:=dO.1 hv;rcases dQ.1 hq with hq|hq
 ·exact hd.2.2 q.1 (dO.2 ⟨q,hq,rfl⟩) p.1 (dO.2 ⟨p,hp,rfl⟩) e
 exact h.apart p (dQ.2 (.inr hp)) (dO.2 ⟨q,hq,e⟩)
end
section
variable {C:Cx} {Q:bA} {E:Env} {D:List Deferred} {L:List World} {H H' F:ae} {ops:Array Oper} {l:List Oper}
variable {c:Code}
theorem CJ.fz(A:ae)(hp:H.Perm (A++H'))(ha:∀p∈A,ah L p.1)(k:CJ C c Q E D (iu (A++F)) L H'):CJ C c Q E D (iu F) L H:=λa W hN hD hF hS=>k a W hN hD hF ((hS.perm hp).fz ha)
variable {e:Exit}
theorem PJ.fz(A:ae)(hp:H.Perm (A++H'))(ha:∀p∈A,ah L p.1)(k:PJ C Q e E D (iu (A++F)) L H'):PJ C Q e E D (iu F) L H:=λa W hN hD hF hS=>k a W hN hD hF ((hS.perm hp).fz ha)
variable {t:Nat} {r:Rw}
theorem Rw.fz_above{α:Type}{enc:α->List Value}{xs:List α}(h:r.Fr (iu F) L):∀p∈r.hp enc t xs,ah L p.1:=by
 intro p hp;cases r with
 |nil=>simp[Rw.hp]at hp
 |row b cap sp=>
  simp[Rw.hp]at hp;subst hp;exact h.elim (λh=>h.elim) id
variable {w:World}
theorem Rw.ge_fz(h:r.Fr (iu F) L)(hw:w∈L):r.ge w.heap.size:=by
 cases r with
 |nil=>trivial
 |row b cap sp=>exact(h.elim (λh=>h.elim) id:ah L b).mem w hw
variable {m:Nat}
theorem Rw.row_of{α:Type}{xs:List α}(h:r.Fit m xs)(hx:0<xs.length):∃b cap sp,r= .row b cap sp:=by
 cases r with
 |nil=>have:xs=[]:=h;grind
 |row b cap sp=>simp
variable {b:Nat}
theorem ah.not(h:ah L b)(hw:w∈L):w.heap.size<=b:=h.mem w hw
end
section
variable {C:Cx} {Q:bA} {E:Env} {D:List Deferred} {G:Gh} {L:List World} {H H0 H1:ae} {ops:Array Oper} {l:List Oper}
variable {d ty:Nat} {pos:String} {aD:Array Edge} {g:Option (Nat×Bool)} {x y:Operand} {α:Type} {enc:α->List Value} {m:Nat}
variable {a:Option Addr}
theorem Rd.zero{size c:Nat}:Rd C G L H size 0 (.slice a 0 c) []:=λW _=>by
 cases a<;>simp_all[Builtin.firstCells,loadCells,loadCellsFrom]
theorem n9j{cs:Array Value}{off:Nat}:∀(xs:List α),(∀x,(enc x).length=m)->(∀i (h:i<xs.length),off+i*m+m<=cs.size/\cut cs (off+i*m) m=(enc xs[i]).toArray)->(cs.toList.drop off).take (xs.length*m)=gL enc xs
 | [],_,_=>by simp[gL]
 |x::xs,hm,h=>by
  have ih:=n9j (cs:=cs) (off:=off+m) xs hm (λi hi=>by
   have:=h (i+1) cM
   grind)
  obtain⟨h1,h2⟩:=h 0 zP;have h3:(cs.toList.drop off).take m=enc x:=by
   unfold cut at h2;have:=congrArg Array.toList h2;simpa using this
  have e:(x::xs).length*m=m+xs.length*m:=by rw[kb,IN];omega
  rw[e,List.take_add,List.drop_drop,h3,ih];rfl
variable {N tx:Nat} {w:World}
theorem bN.sl{J c:Nat}{xs:List α}(hm:∀x,(enc x).length=m)(h1:∀x,∀u∈enc x,u.oneCell'=true)(hU:C.P.underlying tx=some (.slice J))(hw:w∈L)(h:aj (λx=>(enc x).toArray) m N w a xs)(ho:∀b,b<N->¬G.X b/\cu H b):bN C G L H enc m tx (.slice a xs.length c) xs:=by
 rcases h with h|⟨b,off,cs,t,fr,e1,e2,e3,e4⟩
 ·simp_all[ib.sl,Rd.zero,gL,bN,Cx.P,Gh.X,cu]
 have hl:off+xs.length*m<=cs.size\/xs=[]:=by
  by_cases h0:xs=[]
  ·grind
  have hp:0<xs.length:=List.length_pos_iff.2 h0;have:=(e4 (xs.length-1) aa).1;have e:xs.length*m=(xs.length-1)*m+m:=by rw[<-Nat.succ_mul];congr 1;omega
  omega
 rcases hl with hl|h0
 ·grind [bN.at,bL.old,n9j]
 simp_all[ib.sl,Rd.zero,gL,bN,Cx.P,Gh.X,cu,cut]
variable {sp:List Value} {b t:Nat} {sv:Value}
theorem apR{cap:Nat}{e:Nat}{xs zs:List α}(hH:H=H0++((b,cT enc e xs sp)::H1))(hT:mD C.P t e m)(hm:∀x,(enc x).length=m)(hw:nr ops E g=some true)(hN:Nat.blt d C.N=true)(hx:ev E x=some (.slice (some ⟨b,0,none⟩) xs.length cap))(hy:ev E y=some sv)(hs:bN C G L H enc m tx sv zs)(hr:(Rw.row b cap sp).Fit m xs)(hf:Fr G L b)(fF:xs.length+zs.length<=2000000)(k:∀(b' aR:Nat) (cq:List Value),(b=b'\/ah L b')->(Rw.row b' aR cq).Fit m (xs++zs)->OJ C ops Q l ((d,.slice (some ⟨b',0,none⟩) (xs++zs).length aR)::E) D G L (H0++((b',cT enc e (xs++zs) cq)::H1))):OJ C ops Q (⟨some d,.call ⟨.builtin .append,#[x,y],#[t,tx]⟩,ty,pos,aD,g⟩::l) E D G L H:=
 rF zP hw hN λa W hF hS=>by
  obtain⟨ti,z,qC,hz,J,wu,p6⟩:=hT.info;have hl:(xs++zs).length=xs.length+zs.length:=eU;have hB:(xs.length+zs.length)*ti.bytes<=140737488355328:=dS (Nat.mul_le_mul fF p6) zF;obtain⟨hc,zu⟩:=hr;have hi:H[H0.length]? =some (b,.cells (gL enc xs++sp).toArray e (0,0)):=by rw[hH];simp[cT]
  obtain⟨b',aR,cq,W',iJ,gW,gp,Ue,ur⟩:=hS.app (P:=C.P) (ty:=ty) hi hT.und qC hz J wu (hs.src hS) (vm hm xs) zu hc hf aa hB;refine⟨.slice (some ⟨b',0,none⟩) (xs.length+zs.length) aR,W',L,_,?_,gW,?_⟩
  ·simp[execOp,hF.ev hx,hF.ev hy,resolve,invoke,builtin,iJ]
  have:=k b' aR cq (gp.imp Eq.symm (λh=>M4 hS h)) ⟨by omega,by grind⟩;simp_all[cT,Vg]
variable {P:Program}
theorem M9{T e:Nat}(hU:P.underlying T=some (.slice e))(q:Addr)(n c d:Nat)(W:World):(Op.equalIn (d+1) T (.slice (some q) n c) (.slice none 0 0)).run P W= .ok false W:=by
 exact Yg
variable {n:Nat}
theorem yA{T U e c:Nat}{q:Addr}(hU:C.P.underlying T=some (.slice e))(hx:ev E x=some (.slice (some q) n c))(hy:ev E y=some (.slice none 0 0)):RV C G L H E (.binOp .eql T x y U) (.bool false):=λd ty pos aD g a W hF _=>by
 have h1:(eqGuard .eql T x y (.slice (some q) n c) (.slice none 0 0)).run C.P W= .ok () W:=by simp[eqGuard]
 have h2:(binOp .eql T (.slice (some q) n c) (.slice none 0 0)).run C.P W= .ok (.bool false) W:=by
  have e:binOp .eql T (.slice (some q) n c) (.slice none 0 0)=(do pure (.bool (<-Op.equalIn (9999+1) T (.slice (some q) n c) (.slice none 0 0)))):=rfl;rw[e,Sem.run_bind,M9 hU];rfl
 exact zfk
theorem uS{T U e c:Nat}(hU:C.P.underlying T=some (.slice e))(hx:ev E x=some (.slice none n c))(hy:ev E y=some (.slice none 0 0)):RV C G L H E (.binOp .eql T x y U) (.bool true):=λd ty pos aD g a W hF _=>by
 have h1:(eqGuard .eql T x y (.slice none n c) (.slice none 0 0)).run C.P W= .ok () W:=by simp[eqGuard]
 have h2:(binOp .eql T (.slice none n c) (.slice none 0 0)).run C.P W= .ok (.bool true) W:=by
  have e:binOp .eql T (.slice none n c) (.slice none 0 0)=(do pure (.bool (<-Op.equalIn (9999+1) T (.slice none n c) (.slice none 0 0)))):=rfl;rw[e,Sem.run_bind,nRp hU];rfl
 exact zfk
end
theorem nKn(pre old J new:List Value)(h:old.length=new.length):setCells (pre++(old++J)).toArray pre.length new=(pre++(new++J)).toArray:=by grind [U5,nEf]
section
variable {C:Cx} {Q:bA} {E:Env} {D:List Deferred} {G:Gh} {L:List World} {H H0 H1:ae} {ops:Array Oper} {l:List Oper}
variable {d T ty:Nat} {pos:String} {aD:Array Edge} {g:Option (Nat×Bool)} {x y:Operand} {α:Type} {enc:α->List Value} {m:Nat}
variable {j:Nat}
theorem Na{cur:List α}{z:α}(hm:∀x,(enc x).length=m)(hj:j<cur.length)(sp:List Value):setCells (gL enc cur++sp).toArray (j*m) (enc z)=(gL enc (cur.set j z)++sp).toArray:=by
 have e:cur=cur.take j++(cur[j]::cur.drop (j+1)):=by rw[List.getElem_cons_drop,J2]
 grind [gL,Vg,vm,nKn]
variable {sp:List Value} {b i t:Nat}
theorem E6{off:Nat}{cur:List α}{z:α}{v:Value}(hi:H[i]? =some (b,cT enc t cur sp))(hm:∀x,(enc x).length=m)(h1:∀x,∀u∈enc x,u.oneCell'=true)(hZ:nV C.P T m)(hw:nr ops E g=some true)(hx:ev E x=some (ptr b off))(hy:ev E y=some v)(ho:off=j*m)(hj:j<cur.length)(hv:v.cells=(enc z).toArray)(J:rK (enc z)=true)(k:OJ C ops Q l E D G L (H.set i (b,cT enc t (cur.set j z) sp))):OJ C ops Q (⟨none,.store T x y,ty,pos,aD,g⟩::l) E D G L H:=by
 subst ho;refine lG (off:=j*m) hi hZ hw hx hy cM ?_ cM ?_
 ·have h2:(j+1)*m<=cur.length*m:=BM _ hj
  grind [vm]
 grind [Na]
variable {tx:Nat} {zv:Value}
theorem E7{off J:Nat}{ys zs:List α}(hi:H[i]? =some (b,cT enc t (ys++zs) sp))(hm:∀x,(enc x).length=m)(hU:C.P.underlying tx=some (.slice T))(hZ:zc C.P T zv)(IG:zv.cells.size=m)(eO:rK (Builtin.zeroCells zv.cells zs.length).toList=true)(hw:nr ops E g=some true)(hx:ev E x=some (.slice (some ⟨b,off,none⟩) zs.length J))(ho:zs=[]\/off=ys.length*m)(k:∀cq:List Value,cq.length=zs.length*m+sp.length->OJ C ops Q l E D G L (H.set i (b,cT enc t ys cq))):OJ C ops Q (⟨none,.call ⟨.builtin .clear,#[x],#[tx]⟩,ty,pos,aD,g⟩::l) E D G L H:=by
 by_cases h0:zs=[]
 ·subst h0;have hk:=k sp zP;have hH:H.set i (b,cT enc t ys sp)=H:=by
   apply xL;intro n;by_cases e:i=n
   ·grind
   rw[WQ e]
  rw[hH]at hk;exact MO rfl zP hw (λa W hF hS=>⟨.value (.tuple #[]),W,.inr ⟨_,rfl⟩,by simp[execOp,hF.ev hx,resolve,invoke,builtin,Builtin.clear_,run_underlying hU],hS⟩) hk
 have B8:=ho.resolve_left h0;subst B8;have Vq:(Builtin.zeroCells zv.cells zs.length).toList.length=zs.length*m:=by simp[Builtin.zeroCells,IG]
 have f1:gL enc (ys++zs)++sp=gL enc ys++(gL enc zs++sp):=by rw[Vg,lP]
 have hl:(gL enc ys).length=ys.length*m:=vm hm ys;refine MO (H':=H.set i (b,cT enc t ys ((Builtin.zeroCells zv.cells zs.length).toList++sp))) rfl zP hw (λa W hF hS=>?_) (k _ cM);have hb:=hS.own _ (cF hi);obtain⟨W',hr,hk,gp⟩:=nhd (P:=C.P) (off:=ys.length*m) (Builtin.zeroCells zv.cells zs.length).toList 0 _ W hb (by
  grind [vm]) eO
 rw[Nat.add_zero,f1,<-hl,nKn _ _ _ _ (by rw[Vq,vm hm])]at gp;refine⟨.value (.tuple #[]),W',.inr ⟨_,rfl⟩,?_,hS.put hi hk gp⟩;obtain⟨q,hq⟩:∃q,zs.length=q+1:=⟨zs.length-1,by grind [List.length_pos_iff]⟩;rw[hq]at hx hr;simp[execOp,hF.ev hx,resolve,invoke,builtin,Builtin.clear_,run_underlying hU,hZ W,hr]
end
end Px

namespace Px
open Go Go.RowKit
/-! ### maps from keys of any type to values -/
/-- keys that are arrays or structs -/
structure yE {K:Type} [DecidableEq K] (P:Program) (kt:Nat) (ek:K->Value):Prop where
 und:∃kd,P.underlying kt=some kd/\∀k v,Instr.sameNow kd (ek k) v=none
 chk:∀(b:Bool) (k:K) {W:World},(Instr.checkKey b 10000 kt (ek k)).run P W= .ok () W
 eq:∀(k k':K) {W:World},(Op.equal kt (ek k) (ek k')).run P W= .ok (decide (k=k')) W
 bits:∀k,Instr.sameBits 10000 (ek k) (ek k)=true
section
variable {K:Type} [DecidableEq K] {ek:K->Value} {β:Type}
def ix (k:K):List (K×β)->Nat->Option (Nat×β)
 | [],_=>none
 |p::l,i=>if p.1=k then some (i,p.2)else ix k l (i+1)
def rf (l:List (K×β)) (k:K):Option β:=(ix k l 0).map (·.2)
def kP (l:List (K×β)) (k:K) (v:β):List (K×β):=match ix k l 0 with|some (i,_)=>l.set i (k,v)|none=>l++[(k,v)]
theorem nTj(k:K):∀(l:List (K×β)) (i j:Nat),ix k l (i+j)=(ix k l i).map λp=>(p.1+j,p.2)
 | [],_,_=>rfl
 |p::l,i,j=>by
  unfold ix;split
  ·rfl
  rw[show i+j+1=i+1+j by omega];exact nTj k l (i+1) j
theorem nbs(k:K)(l:List (K×β)):ix k l 1=(ix k l 0).map λp=>(p.1+1,p.2):=by
 have:=nTj k l 0 1;omega
theorem VR{k:K}:∀{l:List (K×β)} {i:Nat} {v:β},ix k l 0=some (i,v)->l[i]? =some (k,v)
 | [],_,_,h=>by simp[ix]at h
 |p::l,i,v,h=>by
  unfold ix at h;split at h
  ·grind
  rw[nbs]at h;obtain⟨q,hq,e⟩:=R5.1 h;obtain⟨rfl,rfl⟩:=e;simpa using VR hq
theorem nKh{k:K}:∀{l:List (K×β)} {i:Nat},ix k l i=none↔k∉l.map (·.1):=
 by intro x;induction x<;>(grind [ix])
theorem n2l{l:List (K×β)}{k:K}:rf l k=none↔k∉l.map (·.1):=by
 simp_all[rf,nKh]
theorem n5r(l:List (K×β))(k:K)(v:β):(kP l k v).map (·.1)=if k∈l.map (·.1)then l.map (·.1)else l.map (·.1)++[k]:=by
 unfold kP;cases hi:ix k l 0 with
 |none=>grind [nKh]
 |some q=>
  have h1:=VR hi;apply xL
  grind
theorem nCj{l:List (K×β)}{k:K}{v:β}(h:(l.map (·.1)).Nodup):((kP l k v).map (·.1)).Nodup:=by grind [n5r]
structure Mq where
 bs:List Nat
 c:Nat
def wT (ek:K->Value) (ev:β->Value) (l:List (K×β)) (bs:List Nat):List MapEntry:=(l.zip bs).map λp=>{key:=ek p.1.1,val:=ev p.1.2,born:=p.2}
def Mq.obj (ek:K->Value) (ev:β->Value) (l:List (K×β)) (m:Mq):Obj:=.map (wT ek ev l m.bs).toArray m.c
structure Mq.Ok (l:List (K×β)) (m:Mq):Prop where
 len:m.bs.length=l.length
 lt:∀b∈m.bs,b<m.c
 nd:m.bs.Nodup
 keys:(l.map (·.1)).Nodup
variable {bs:List Nat}
theorem nuo{ev:β->Value}{l:List (K×β)}(h:bs.length=l.length)(i:Nat):(wT ek ev l bs)[i]? =(l[i]?).map λp=>{key:=ek p.1,val:=ev p.2,born:=bs.getD i 0}:=by grind [wT]
theorem n5j{P:Program}{kt:Nat}(hK:yE P kt ek)(ev:β->Value)(k:K)(W:World):∀(l:List (K×β)) (bs:List Nat) (i:Nat),bs.length=l.length->(Instr.findAsking kt (ek k) (wT ek ev l bs) i).run P W= .ok ((ix k l i).map λp=>(p.1,ev p.2)) W
 | [],_,_,_=>by rfl
 |p::l,[],_,h=>by simp at h
 |p::l,b::bs,i,h=>by
  have ih:=n5j hK ev k W l bs (i+1) cM;simp[wT,Instr.findAsking,hK.eq]at ih ⊢
  (simp[ix];grind)
variable {kt:Nat} {P:Program} {W:World}
theorem ntj(hK:yE P kt ek)(ev:β->Value)(k:K){l:List (K×β)}(h:bs.length=l.length):(Instr.findKey kt (ek k) (wT ek ev l bs)).run P W= .ok ((ix k l 0).map λp=>(p.1,ev p.2)) W:=by
 obtain⟨J,hU,hn⟩:=hK.und;cases l with
 |nil=>simp[Instr.findKey,run_underlying hU,wT,Instr.findNow,ix]
 |cons p l=>
  cases bs with
  |nil=>simp at h
  |cons b bs=>
   have h1:=n5j hK ev k W (p::l) (b::bs) 0 h;simp_all[Instr.findNow,wT,Instr.findKey,run_underlying]
end
section
variable {C:Cx} {Q:bA} {E:Env} {D:List Deferred} {G:Gh} {L:List World} {H:ae} {ops:Array Oper} {l:List Oper}
variable {d T ty:Nat} {pos:String} {aD:Array Edge} {g:Option (Nat×Bool)} {x y z:Operand}
variable {K:Type} [DecidableEq K] {ek:K->Value} {β:Type} {ev:β->Value} {kv:List (K×β)} {m:Mq}
theorem Mq.nil:(Mq.mk [] 0).Ok ([]:List (K×β)):=⟨rfl,by simp,by simp,by simp⟩
variable {b et kt:Nat} {P:Program} {zv:Value} {W:World}
theorem nSo{k:K}(c:Bool)(hU:P.underlying T=some (.map kt et))(hK:yE P kt ek)(hz:zc P et zv)(hm:m.Ok kv)(hb:W.heap[b]? =some (m.obj ek ev kv)):(Instr.lookup T (.map (some b)) (ek k) c).run P W= .ok (if c then .tuple #[((rf kv k).map ev).getD zv,.bool (rf kv k).isSome]else((rf kv k).map ev).getD zv) W:=by
 have gp:W.heap[b]? =some (.map (wT ek ev kv m.bs).toArray m.c):=hb;have h1:=ntj (P:=P) (W:=W) hK ev k hm.len;have e:rf kv k=(ix k kv 0).map (·.2):=rfl;cases hi:ix k kv 0 with
 |none=>
  rw[hi]at h1;have e1:rf kv k=none:=by rw[e,hi];rfl
  cases c<;>simp[Instr.lookup,run_underlying hU,I9 gp,hK.chk,h1,hz W,e1]
 |some q=>
  rw[hi]at h1;have e1:rf kv k=some q.2:=by rw[e,hi];rfl
  cases c<;>simp[Instr.lookup,run_underlying hU,I9 gp,hK.chk,h1,e1]
theorem Ax{k:K}(hU:C.P.underlying T=some (.map kt et))(hK:yE C.P kt ek)(hz:zc C.P et zv)(hm:m.Ok kv)(hb:bL G L H b (m.obj ek ev kv))(hx:Px.ev E x=some (.map (some b)))(hy:Px.ev E y=some (ek k)):RV C G L H E (.lookup T x y false) (((rf kv k).map ev).getD zv):=λd ty pos aD g a W hF hS=>by
 have:=nSo (W:=W) (k:=k) false hU hK hz hm (hb W hS);simp[execOp,hF.ev hx,hF.ev hy,this]
variable {i:Nat}
theorem Oo{k:K}{v:β}(hi:H[i]? =some (b,m.obj ek ev kv))(hm:m.Ok kv)(hU:C.P.underlying T=some (.map kt et))(hK:yE C.P kt ek)(hw:nr ops E g=some true)(hx:Px.ev E x=some (.map (some b)))(hy:Px.ev E y=some (ek k))(hz:Px.ev E z=some (ev v))(kk:∀m':Mq,m'.Ok (kP kv k v)->OJ C ops Q l E D G L (H.set i (b,m'.obj ek ev (kP kv k v)))):OJ C ops Q (⟨none,.mapUpdate T x y z,ty,pos,aD,g⟩::l) E D G L H:=by
 have h1:=λW:World=>ntj (P:=C.P) (W:=W) hK ev k hm.len;cases hk:ix k kv 0 with
 |none=>
  have e:kP kv k v=kv++[(k,v)]:=by unfold kP;rw[hk]
  have gM:(Mq.mk (m.bs++[m.c]) (m.c+1)).Ok (kP kv k v):=by
   refine⟨by rw[e];simp[hm.len],λb hb=>?_,?_,nCj hm.keys⟩
   ·rcases dQ.1 hb with hb|hb
    ·have:=hm.lt b hb;grind
    grind
   exact zxk
  refine MO rfl zP hw (λa W hF hS=>?_) (kk _ gM);have hb:=hS.own _ (cF hi);have hlt:b<W.heap.size:=(bO.1 hb).1;have gp:W.heap[b]? =some (.map (wT ek ev kv m.bs).toArray m.c):=hb;refine⟨.skip,_,.inl rfl,?_,hS.put hi (MS W b _) (World.putObj_heap_same hlt)⟩;have h2:=h1 W;rw[hk]at h2;have e2:((wT ek ev kv m.bs).toArray.push {key:=ek k,val:=ev v,born:=m.c})=(wT ek ev (kP kv k v) (m.bs++[m.c])).toArray:=by
   rw[e];apply Array.ext';simp only[wT,Array.toList_push];rw[List.zip_append hm.len.symm];simp
  simp[execOp,hF.ev hx,hF.ev hy,hF.ev hz,Instr.mapUpdate,run_underlying hU,I9 gp,hK.chk,h2,WW _ gp,e2,Mq.obj]
 |some q=>
  obtain⟨j,u⟩:=q;have e:kP kv k v=kv.set j (k,v):=by unfold kP;rw[hk]
  have gM:m.Ok (kP kv k v):=⟨by rw[e];simp[hm.len],hm.lt,hm.nd,nCj hm.keys⟩;refine MO rfl zP hw (λa W hF hS=>?_) (kk _ gM);have hb:=hS.own _ (cF hi);have hlt:b<W.heap.size:=(bO.1 hb).1;have gp:W.heap[b]? =some (.map (wT ek ev kv m.bs).toArray m.c):=hb;refine⟨.skip,_,.inl rfl,?_,hS.put hi (MS W b _) (World.putObj_heap_same hlt)⟩;have h2:=h1 W;rw[hk]at h2;have h3:=VR hk;have h4:=nuo (ek:=ek) (ev:=ev) hm.len j;rw[h3]at h4;have J:((((wT ek ev kv m.bs).toArray[j]?).map (·.key)).getD (ek k))=ek k:=by simp[h4]
  have hs:Instr.sameBits 10000 (ek k) (ek k)=true:=hK.bits k;have e2:((wT ek ev kv m.bs).toArray.modify j λen=>{en with key:=ek k,val:=ev v})=(wT ek ev (kP kv k v) m.bs).toArray:=by
   rw[e];apply Array.ext';apply xL;intro i';simp only[Array.toList_modify,List.getElem?_modify];rw[nuo hm.len,nuo (by simp[hm.len]),List.getElem?_set];by_cases e3:j=i'
   ·grind
   simp[e3]
  simp only[execOp,hF.ev hx,hF.ev hy,hF.ev hz,Instr.mapUpdate,Sem.run_bind,run_underlying hU,Result.andThen,I9 gp,hK.chk,h2,VU,J,Instr.keyThatStays,hs,if_true,Sem.run_pure,WW _ gp,e2];rfl
theorem akw(ek:K->Value)(ev:β->Value)(hw:nr ops E g=some true)(hN:Nat.blt d C.N=true)(k:∀(b:Nat),ah L b->cu H b->OJ C ops Q l ((d,.map (some b))::E) D G L ((b,(Mq.mk [] 0).obj ek ev [])::H)):OJ C ops Q (⟨some d,.makeMap T none,ty,pos,aD,g⟩::l) E D G L H:=
 rF zP hw hN λa W _ hS=>⟨.map (some W.heap.size),W.alloc ((Mq.mk [] 0).obj ek ev []),_,_,by rfl,hS.alloc _,k W.heap.size hS.sizes hS.offNew⟩
end
/-! ### digests, as_ keys of maps -/
abbrev Dk:={l:List Int // l.length=32}
def yF (k:Dk):Value:=.agg (k.1.map (Value.int .u8)).toArray
theorem ndh:∀ll bs:List Int,ll.length=bs.length->tz (ll.map (Value.int .u8)) (bs.map (Value.int .u8))=decide (ll=bs)
 | [],[],_=>rfl
 |a::ll,b::bs,h=>by
  simp[tz,Vb,ndh ll bs cM]
  grind
 | [],_::_,h=>by simp at h
 |_::_,[],h=>by simp at h
theorem nbj:∀(n:Nat) (ll bs:List Int),ll.length=n->bs.length=n->mw (pQ n [.i]) (ll.map (Value.int .u8)) (bs.map (Value.int .u8))=true
 |0,[],[],_,_=>rfl
 |n+1,a::ll,b::bs,h,J=>by
  have:=nbj n ll bs cM cM
  grind [pQ,mw,WU]
 |0,_::_,_,h,_=>by simp at h
 |0,[],_::_,_,h=>by simp at h
 |n+1,[],_,h,_=>by simp at h
 |n+1,_::_,[],_,h=>by simp at h
variable {t:Nat} {P:Program}
theorem Nb{len e:Nat}{k:IntKind}(hU:P.underlying t=some (.array len e))(hE:P.underlying e=some (.int k))(hZ:nV P e 1)(hA:fp P e false)(em:Bool)(cs:List Value)(hl:cs.length=len)(W:World):(Instr.checkKey em 10000 t (.agg cs.toArray)).run P W= .ok () W:=by
 show(Instr.checkKey em (9998+1+1) t (.agg cs.toArray)).run P W= .ok () W;generalize 9998=n;rw[Instr.checkKey];simp only[Sem.run_bind,run_underlying hU];simp;have each:∀j∈List.range' 0 len,j<cs.length:=λj hj=>by grind
 generalize List.range' 0 len=is at each;induction is with
 |nil=>simp
 |cons j is ih=>
  have hj:=each j zP;have J:(part e cs.toArray (j*1)).run P W= .ok cs[j] W:=by simp[part,hA W,hj]
  have p2:(Instr.checkKey em (n+1) e cs[j]).run P W= .ok () W:=by simp[Instr.checkKey,run_underlying hE]
  simp_all
theorem nUr(n:Nat):∀ll:List Int,((ll.map (Value.int .u8)).zip (ll.map (Value.int .u8))).all (λp=>Instr.sameBits n p.1 p.2)=true
 | []=>rfl
 |a::ll=>by
  (intros;grind [Instr.sameBits])
theorem aai{e:Nat}(hU:P.underlying t=some (.array 32 e))(hE:P.underlying e=some (.int .u8))(hZ:nV P e 1)(hA:fp P e false):yE P t yF where
 und:=⟨_,hU,λk v=>by rfl⟩
 chk:=λb k W=>Nb hU hE hZ hA b _ (by simp[k.2]) W
 eq:=λk k' W=>by
  have h:=J8.array hU hZ (ks:=[.i]) rfl (Bs.int hE hA) 9998 (k.1.map (Value.int .u8)) (k'.1.map (Value.int .u8)) W (nbj 32 _ _ k.2 k'.2);have e:decide (k=k')=decide (k.1=k'.1):=by simp only[Subtype.ext_iff]
  rw[e,<-ndh _ _ aa];exact h
 bits:=λk=>by
  simp_all[Instr.sameBits,yF,nUr]
/-! ### slices whose blocks are frozen -/
def CH {α:Type} (enc:α->Array Value) (n:Nat) (F:ae) (a:Option Addr) (xs:List α):Prop:=
 xs=[]\/∃b off cs t fr,a=some ⟨b,off,none⟩/\(b,Obj.cells cs t fr)∈F/\∀i (h:i<xs.length),off+i*n+n<=cs.size/\cut cs (off+i*n) n=enc xs[i]
section
variable {α:Type} {enc:α->Array Value} {n N K:Nat} {w W:World} {a:Option Addr} {xs:List α} {F F':ae} {L:List World} {H:ae}
theorem CH.mono(h:CH enc n F a xs)(hF:∀p∈F,p∈F'):CH enc n F' a xs:=by
 rcases h with h|⟨b,off,cs,t,fr,h1,h2,h3⟩;all_goals(simp[CH,ae];grind)
theorem CH.at(h:CH enc n F a xs)(hW:∀p∈F,p.1<N/\W.heap[p.1]? =some p.2):aj enc n N W a xs:=by
 rcases h with h|⟨b,off,cs,t,fr,h1,h2,h3⟩;all_goals(simp[aj,ae];grind)
theorem aj.fs(h:aj enc n N w a xs)(hn:∀q,a=some q->K<=q.block):∃F,(∀p∈F,K<=p.1/\w.heap[p.1]? =some p.2)/\CH enc n F a xs:=by
 rcases h with h|⟨b,off,cs,t,fr,h1,h2,h3,h4⟩
 ·exact⟨[],by simp,.inl h⟩
 refine⟨[(b,.cells cs t fr)],λp hp=>?_,.inr ⟨b,off,cs,t,fr,h1,by simp,h4⟩⟩
 grind
theorem CH.ge(h:CH enc n F a xs)(hF:∀p∈F,K<=p.1):∀q,a=some q->xs=[]\/K<=q.block:=by
 rcases h with h|⟨b,off,cs,t,fr,h1,h2,h3⟩;all_goals grind
theorem St.fzLies(h:St (iu F) L H W):∀p∈F,p.1<W.heap.size/\W.heap[p.1]? =some p.2:=λp hp=>⟨(bO.1 (h.ghost p hp)).1,h.ghost p hp⟩
theorem St.fzAdd{W':World}(h:St (iu F) L H W)(hb:Below W.heap.size W W')(hF:∀p∈F',W.heap.size<=p.1/\W'.heap[p.1]? =some p.2):St (iu (F'++F)) L H W':=by
 have h1:=h.step hb;refine⟨λp hp=>?_,λk hk=>?_,λk hk=>hk.elim,h1.links,h1.own,h1.nodup,λp hp hv=>?_⟩
 ·rcases dQ.1 hp with hp|hp
  ·grind
  exact h1.ghost p hp
 ·obtain⟨p,hp,rfl⟩:=dO.1 hk;rcases dQ.1 hp with hp|hp
  ·grind
  exact h1.vlt p.1 (dO.2 ⟨p,hp,rfl⟩)
 obtain⟨q,hq,e⟩:=dO.1 hv;rcases dQ.1 hq with hq|hq
 ·have:=(hF q hq).1;have:=h.lt p hp;omega
 exact h1.apart p hp (dO.2 ⟨q,hq,e⟩)
end
section
variable {C:Cx} {Q:bA} {E:Env} {D:List Deferred} {L:List World} {H F:ae} {ops:Array Oper} {l:List Oper}
variable {d ty f:Nat} {pos:String} {aD:Array Edge} {g:Option (Nat×Bool)} {xo:List Operand} {vs:List Value} {eY:Array Nat}
theorem FK{γ:Type}{v:γ->Value}{Φ:ae->γ->Prop}(aF:fh C.P f)(hw:nr ops E g=some true)(hN:Nat.blt d C.N=true)(ha:jt E xo=some vs)(hc:∀W,St (iu F) L H W->Calls C.P f vs.toArray W (λe w'=>∃x F',e= .returned (v x)/\Below W.heap.size W w'/\(∀p∈F',W.heap.size<=p.1/\w'.heap[p.1]? =some p.2)/\Φ F' x))(k:∀x F',Φ F' x->(∀p∈F',ah L p.1)->OJ C ops Q l ((d,v x)::E) D (iu (F'++F)) L H):OJ C ops Q (⟨some d,.call ⟨.value (.func f),xo.toArray,eY⟩,ty,pos,aD,g⟩::l) E D (iu F) L H:=
 sZ rfl hw rfl ha zP aF λa W jY hD hF hS=>(hc W hS).mono (by
  rintro ed W' ⟨x,F',rfl,hb,J,hx⟩;exact k x F' hx (λp hp=>M4 hS (J p hp).1) (a.put (some d) (v x)) W' mV lz (hF.put _ z2) (hS.fzAdd hb J))
variable {G:Gh} {m:Nat} {v:Value->Value}
theorem Lp{α:Type}{enc:α->List Value}{Φ:World->World->List α->Prop}(aF:fh C.P f)(hw:nr ops E g=some true)(hN:Nat.blt d C.N=true)(ha:jt E xo=some vs)(hm:∀x,(enc x).length=m)(hc:∀W,St G L H W->Calls C.P f vs.toArray W (λe w'=>∃xs,Φ W w' xs/\nv W enc m t xs v e w'))(k:∀W (xs:List α) a cp w1,St G L H W->Below W.heap.size W w1->Φ W w1 xs->aj (λx=>(enc x).toArray) m w1.heap.size w1 a xs->(∀b,a=some b->W.heap.size<=b.block)->OJ C ops Q l ((d,v (.slice a xs.length cp))::E) D G (w1::L) H):OJ C ops Q (⟨some d,.call ⟨.value (.func f),xo.toArray,eY⟩,ty,pos,aD,g⟩::l) E D G L H:=
 sZ rfl hw rfl ha zP aF λac W jY hD hF hS=>(hc W hS).mono (by
  rintro ed W' ⟨xs,hΦ,r,rfl,hb,pF,J,gi⟩;obtain⟨a,cp,he,aA⟩:=r.sl hm J gi (aC _);have:=k W xs a cp W' hS hb hΦ aA (by
   intro b BS;cases r with
   |nil=>grind [Rw.val]
   |row b' cap sp=>simp[Rw.val]at he;rw[<-he.1]at BS;cases BS;exact pF) (ac.put (some d) (v (.slice a xs.length cp))) W' mV lz (hF.put _ z2) (hS.step hb).snap
  grind)
end
/-! ### walks that say the world exactly -/
section
variable (C:Cx)
def PX (Q:bA) (e:Exit) (E:Env) (T:World->Prop):Prop:=∀a W,a.tmps.size=C.N->a.defers=[]->Fits E a->T W->Q e a W
def CX (c:Code) (Q:bA) (E:Env) (T:World->Prop):Prop:=∀a W,a.tmps.size=C.N->a.defers=[]->Fits E a->T W->c.wpIn (FW C.r) 0 C.P Q a W
def OX (ops:Array Oper) (Q:bA) (l:List Oper) (E:Env) (T:World->Prop):Prop:=∀a W,a.tmps.size=C.N->a.defers=[]->Fits E a->T W->wpListIn (FW C.r) 0 C.P ops Q l a W
end
section
variable {C:Cx} {Q:bA} {E E':Env} {T:World->Prop} {ops:Array Oper} {l:List Oper}
theorem CX.region{id:Nat}(h:OX C l.toArray Q l E T):CX C (.region id l.toArray false) Q E T:=λa W hN hD hF hS=>wpIn_region_lit (h a W hN hD hF hS)
theorem CX.seq{x y:Code}(h:CX C x (Exit.then (y.wpIn (FW C.r) 0 C.P Q) Q) E T):CX C (.seq x y) Q E T:=λa W hN hD hF hS=>wpIn_seq (h a W hN hD hF hS)
variable {c:Code}
theorem CX.block{id:Nat}(h:CX C c (Exit.inBlock id Q) E T):CX C (.block id c) Q E T:=λa W hN hD hF hS=>wpIn_block (h a W hN hD hF hS)
theorem CX.skip(h:PX C Q .normal E T):CX C .skip Q E T:=λa W hN hD hF hS=>wpIn_skip (h a W hN hD hF hS)
theorem CX.ret(h:PX C Q .ret E T):CX C .ret Q E T:=λa W hN hD hF hS=>wpIn_ret (h a W hN hD hF hS)
theorem CX.exit{id:Nat}(h:PX C Q (.exit id) E T):CX C (.exit id) Q E T:=λa W hN hD hF hS=>wpIn_exit (h a W hN hD hF hS)
theorem PX.next{y:Code}(h:CX C y Q E T):PX C (Exit.then (y.wpIn (FW C.r) 0 C.P Q) Q) .normal E T:=h
theorem OX.done(h:PX C Q .normal E T):OX C ops Q [] E T:=h
theorem CX.condT{c:Operand}{x y:Code}(hc:ev E c=some (.bool true))(h:CX C x Q E T):CX C (.cond c x y) Q E T:=λa W hN hD hF hS=>wpIn_cond_true (hF.ev hc) (h a W hN hD hF hS)
theorem CX.condF{c:Operand}{x y:Code}(hc:ev E c=some (.bool false))(h:CX C y Q E T):CX C (.cond c x y) Q E T:=λa W hN hD hF hS=>wpIn_cond_false (hF.ev hc) (h a W hN hD hF hS)
theorem PX.retThen{R:Act->World->Prop}(h:PX C Q .ret E T):PX C (Exit.then R Q) .ret E T:=h
theorem PX.exThen{R:Act->World->Prop}{id:Nat}(h:PX C Q (.exit id) E T):PX C (Exit.then R Q) (.exit id) E T:=h
theorem PX.retBlock{id:Nat}(h:PX C Q .ret E T):PX C (Exit.inBlock id Q) .ret E T:=h
theorem PX.norBlock{id:Nat}(h:PX C Q .normal E T):PX C (Exit.inBlock id Q) .normal E T:=h
theorem PX.exHit{id:Nat}(h:PX C Q .normal E T):PX C (Exit.inBlock id Q) (.exit id) E T:=λa W hN hD hF hS=>by
 simp[Exit.inBlock];have:=h a W hN hD hF hS
 grind
theorem OX.fix(h:∀W1,T W1->OX C ops Q l E (· =W1)):OX C ops Q l E T:=λa W hN hD hF hS=>h W hS a W hN hD hF rfl
variable {aD:Array Edge} {L:List World} {g:Option (Nat×Bool)} {pos:String}
theorem sK{o:Op}{d ty:Nat}{v:Value}(hT:∀W,T W->St Gh.no L [] W)(hnd:CR o=true)(hw:nr ops E g=some true)(hN:Nat.blt d C.N=true)(h:RV C Gh.no L [] E o v)(k:OX C ops Q l ((d,v)::E) T):OX C ops Q (⟨some d,o,ty,pos,aD,g⟩::l) E T:=by
 intro a W jY hD hF hS;have hr:=h d ty pos aD g a W hF (hT W hS);unfold wpListIn;rw[if_pos (zb hF hw)];refine⟨λ_ _=>trivial,?_⟩;rw[Oper.semAt_eq _ _ _ (H2 hnd),hr];exact k (a.put (some d) v) W mV lz (hF.put _ z2) hS
variable {x:Operand}
theorem aav{d ty:Nat}{v:Value}(hw:nr ops E g=some true)(hN:Nat.blt d C.N=true)(hx:ev E x=some v)(k:∀W,T W->OX C ops Q l ((d,ptr W.heap.size 0)::E) (· =W.alloc (.cells v.cells t (0,0)))):OX C ops Q (⟨some d,.box t x,ty,pos,aD,g⟩::l) E T:=by
 intro a W jY hD hF hS;have hr:(execOp a.eval ⟨some d,.box t x,ty,pos,aD,g⟩).run C.P W= .ok (.value (ptr W.heap.size 0)) (W.alloc (.cells v.cells t (0,0))):=nEl (hF.ev hx);unfold wpListIn;rw[if_pos (zb hF hw)];refine⟨λ_ _=>trivial,?_⟩;rw[Oper.semAt_eq _ _ _ zP,hr];exact k W hS (a.put (some d) (ptr W.heap.size 0)) _ mV lz (hF.put _ z2) rfl
variable {eY:Array Nat} {cap first vs:List Value}
theorem Sd{d f ty:Nat}{xs:List Operand}{v:Value}{T':World->Prop}(hx:ev E x=some (.func (.func f) first.toArray cap.toArray))(aF:fh C.P f)(hw:nr ops E g=some true)(hN:Nat.blt d C.N=true)(ha:jt E xs=some vs)(hc:∀W,T W->Calls C.P f (first++vs++cap).toArray W (λe w'=>e= .returned v/\T' w'))(k:OX C ops Q l ((d,v)::E) T'):OX C ops Q (⟨some d,.call ⟨.value x,xs.toArray,eY⟩,ty,pos,aD,g⟩::l) E T:=by
 intro a W jY hD hF hS;unfold wpListIn;rw[if_pos (zb hF hw)];refine⟨λ_ _=>trivial,?_⟩;have hr:(execOp a.eval ⟨some d,.call ⟨.value x,xs.toArray,eY⟩,ty,pos,aD,g⟩).run C.P W= .ok (.enter f (first++vs++cap).toArray) W:=by
  have h2:(xs.toArray).map a.eval=vs.toArray:=by rw[CS,MQ hF xs vs ha]
  simp only[execOp,resolve,hF.ev hx,Deferred.ofValue,h2];have h3:=aF (first++vs++cap).toArray W;simp only[lP]at h3 ⊢;simp[invoke,h3]
 rw[Oper.semAt_eq _ _ _ zP,hr];refine⟨by simp,I6.2 ((hc W hS).mono ?_)⟩;rintro e W' ⟨rfl,h⟩;exact k (a.put (some d) v) W' mV lz (hF.put _ z2) h
def Pw {α:Type} (C:Cx) (Ei:α->Env) (Ti:α->World->Prop) (ok:α->Prop) (μ:α->Nat) (x:α):Act->World->Prop:=λa W=>
 ∃x',ok x'/\μ x'<μ x/\a.tmps.size=C.N/\a.defers=[]/\Fits (Ei x') a/\Ti x' W
theorem CX.loop{α:Type}(Ei:α->Env)(J:α->World->Prop)(ok:α->Prop)(μ:α->Nat)(x0:α)(h0:ok x0)(hE:Sub (Ei x0) E)(hT:∀W,T W->J x0 W)(round:∀x,ok x->CX C c (Exit.then (Pw C Ei J ok μ x) Q) (Ei x) (J x)):CX C (.loop c) Q E T:=by
 intro a W hN hD hF hS
 let Inv:Act->World->Nat->Prop:=λa W m=>∃x,μ x=m/\ok x/\a.tmps.size=C.N/\a.defers=[]/\Fits (Ei x) a/\J x W
 refine wpIn_loop (λa W=>∃m,Inv a W m) (λa W=>TZ (Inv a W)) ⟨_,x0,rfl,h0,hN,hD,hE.fits hF,hT W hS⟩ ?_;exact zYi
theorem PX.again{α:Type}{Ei:α->Env}{J:α->World->Prop}{ok:α->Prop}{μ:α->Nat}{x:α}(x':α)(h0:ok x')(hlt:μ x'<μ x)(hE:Sub (Ei x') E)(hT:∀W,T W->J x' W):PX C (Exit.then (Pw C Ei J ok μ x) Q) .normal E T:=λa W hN hD hF hS=>⟨x',h0,hlt,hN,hD,hE.fits hF,hT W hS⟩
variable {R:Ending->World->Prop} {e:Exit} {fn:Func}
theorem Ov{v:Value}(he:e= .ret\/e= .normal)(hr:fn.results=#[.tmp t])(hv:look E t=some v)(h:∀W,T W->R (.returned v) W):PX C (bodyPost C.P fn R) e E T:=by
 intro a W hN hD hF hS;have:bodyPost C.P fn R .ret a W:=⟨hD,v,zYk,h W hS⟩;rcases he with rfl|rfl<;>exact this
end
variable {c:Code} {R:Ending->World->Prop} {fn:Func} {vs:List Value} {N:Nat} {w:World}
theorem Sb{f:Nat}(hf:P.funcs[f]? =some fn)(hb:fn.body=some c)(hN:fn.ntmps=N)(hl:Nat.ble vs.length N=true)(h:CX ⟨P,none,N⟩ c (bodyPost P fn R) (AN 0 vs) (· =w)):Calls P f vs.toArray w R:=by
 rw[<-I6 (r:=none) (n:=0)];refine callsIn_of_wp hf hb trivial (h _ w ?_ rfl ?_ rfl);all_goals simp_all[n6d]
def Gz (w0:World) (W:World):Prop:=∃q os,W=Sort.grow (w0.drewN q) os
theorem Gz.refl(w:World):Gz w w:=⟨0,#[],by rfl⟩
theorem Gz.trans{a b c:World}(h:Gz a b)(k:Gz b c):Gz a c:=by
 obtain⟨q,os,rfl⟩:=h;obtain⟨q',J,rfl⟩:=k;exact⟨q+q',os++J,by simp[Sort.grow,World.drewN,Nat.add_assoc]⟩
theorem Gz.alloc(w:World)(o:Obj):Gz w (w.alloc o):=⟨0,#[o],by rfl⟩
variable {W:World}
theorem Gz.below(h:Gz w W):Below w.heap.size w W:=by
 obtain⟨q,os,rfl⟩:=h;refine⟨rfl,rfl,rfl,by simp[Sort.grow,World.drewN],?_,λk hk=>?_⟩;all_goals grind [Sort.grow,World.drewN]
variable {L:List World}
theorem aax(h:∀w∈L,Below w.heap.size w W):St Gh.no L [] W:=
 ⟨trivial,λ_ h=>h.elim,λ_ h=>h.elim,λw' hw=>(aQ.of_below (X:=λk=>Gh.no.X k\/k∈([]:ae).map (·.1)) (h w' hw)),λ_ h=>by simp at h,λ_ _ _ _ h=>by simp at h,λ_ h=>by simp at h⟩
end Px

namespace Px
open Go Go.RowKit
variable {P:Program}
theorem aoF(w:World)(t tx ty e:TypeId)(i:TypeInfo)(J:P.underlying t=some (.slice e))(hi:P.info? e=some i)(x:Value)(hs:Src P i.size tx x 0 [] w):(Builtin.append_ #[t,tx] ty #[.slice none 0 0,x]).run P w= .ok (.slice none 0 0) w:=by
 rcases hs.kind with⟨e',hk⟩|hk<;>simp[Builtin.append_,run_underlying J,run_underlying hk,Go.sizeOf,typeInfo,hi,hs.len,hs.cells]
section
variable {C:Cx} {Q:bA} {E:Env} {D:List Deferred} {G:Gh} {L:List World} {H H0 H1:ae} {ops:Array Oper} {l:List Oper}
variable {d ty:Nat} {pos:String} {aD:Array Edge} {g:Option (Nat×Bool)} {x y:Operand}
variable {α:Type} {enc:α->List Value} {m:Nat}
variable {t tx:Nat} {r:Rw}
theorem bN.rw{J:Nat}{zs:List α}(hm:∀x,(enc x).length=m)(h1:∀x,∀u∈enc x,u.oneCell'=true)(hU:C.P.underlying tx=some (.slice J))(hr:r.Fit m zs)(hp:∀p∈r.hp enc t zs,p∈H):bN C G L H enc m tx (r.val zs.length) zs:=by
 cases r with
 |nil=>
  simp_all[ib.sl,Rd.zero,gL,bN,Rw.val,Cx.P,Rw.Fit,ae,Rw.hp]
 |row b cap sp=>
  obtain⟨i,hi⟩:=iB.1 (hp _ A0);have hl:=vm hm zs;exact bN.at hm h1 hU (bL.own hi) cM cM
variable {sv:Value}
theorem Wb{e:Nat}{xs zs:List α}(hH:H=H0++(r.hp enc e xs++H1))(hT:mD C.P t e m)(hm:∀x,(enc x).length=m)(hw:nr ops E g=some true)(hN:Nat.blt d C.N=true)(hx:ev E x=some (r.val xs.length))(hy:ev E y=some sv)(hs:bN C G L H enc m tx sv zs)(hr:r.Fit m xs)(hf:r.Fr G L)(fF:xs.length+zs.length<=1000000)(k:∀J:Rw,J.Fr G L->J.Fit m (xs++zs)->OJ C ops Q l ((d,J.val (xs++zs).length)::E) D G L (H0++(J.hp enc e (xs++zs)++H1))):OJ C ops Q (⟨some d,.call ⟨.builtin .append,#[x,y],#[t,tx]⟩,ty,pos,aD,g⟩::l) E D G L H:=by
 by_cases h0:0<zs.length
 ·refine jf hH hT hm hw hN hx hy hs hr hf h0 fF λb' aR cq h1 h2=>?_;exact k (.row b' aR cq) (h1.elim (λh=>Rw.Fr_at hf h) (λh=>.inr h)) h2
 obtain rfl:zs=[]:=oJ aa;cases r with
 |nil=>
  have mI:xs=[]:=hr;subst mI;refine rF zP hw hN λa W hF hS=>?_;obtain⟨ti,z,qC,hz,kr,wu,p6⟩:=hT.info;have aq:=hs.src hS;subst kr;refine⟨.slice none 0 0,W,L,_,?_,hS,?_⟩
  ·have a6:ev E x=some (.slice none 0 0):=hx;have iJ:=aoF (P:=C.P) W t tx ty e ti hT.und qC sv aq;simp[execOp,hF.ev a6,hF.ev hy,resolve,invoke,builtin,iJ]
  have:=k .nil True.intro rfl;rw[hH];exact this
 |row b cap sp=>
  refine apR hH hT hm hw hN hx hy hs hr hf aa λb' aR cq h1 h2=>?_;exact k (.row b' aR cq) (h1.elim (λh=>by subst h;exact hf) (λh=>.inr h)) h2
theorem nYg{xs:List α}{J:Exit}(hH:H=H0++(r.hp enc t xs++H1))(hf:r.Fr G L)(k:PJ C Q J E D G L (H0++H1)):PJ C Q J E D G L H:=by
 subst hH;cases r with
 |nil=>grind [Rw.hp]
 |row b cap sp=>
  refine PJ.dropF (i:=H0.length) (b:=b) (o:=cT enc t xs sp) qw hf ?_;have:(H0++((Rw.row b cap sp).hp enc t xs++H1)).eraseIdx H0.length=H0++H1:=by rw[List.eraseIdx_append_of_length_le (aC _),Nat.sub_self];rfl
  grind
variable {W:World}
theorem Rw.at_mem{xs:List α}(hS:St G L H W)(hp:∀p∈r.hp enc t xs,p∈H):r.At enc t xs W:=by
 cases r with
 |nil=>exact True.intro
 |row b cap sp=>exact hS.own _ (hp _ A0)
theorem iN{e:Nat}{xs:List α}(hU:C.P.underlying t=some (.slice e))(hr:r.Fit m xs)(hx:ev E x=some (r.val xs.length)):RV C G L H E (.call ⟨.builtin .len,#[x],#[t]⟩) (.int .i64 (xs.length:Int)):=by
 cases r with
 |nil=>
  obtain rfl:xs=[]:=hr;exact lQ hU hx
 |row b cap sp=>exact lQ hU hx
variable {sp:List Value} {b i:Nat}
theorem me{T f off:Nat}{xs:List α}{u:α}{v:Value}(hm:∀x,(enc x).length=m)(hp:(b,cT enc t xs sp)∈H)(hA:fp C.P T false)(hx:ev E x=some (ptr b off))(ho:off=i*m+f)(hi:xs[i]? =some u)(hf:(enc u)[f]? =some v):RV C G L H E (.load T x) v:=by
 obtain⟨j,hj⟩:=iB.1 hp;refine aX hj hA hx ?_;obtain⟨hl,he⟩:=qe.1 hi;have h1:=VM hm xs sp i hl
 grind
end
section
variable {C:Cx} {Q:bA} {E:Env} {D:List Deferred} {L:List World} {H:ae} {ops:Array Oper} {l:List Oper}
variable {d ty:Nat} {pos:String} {aD:Array Edge} {g:Option (Nat×Bool)} {x:Operand} {xs:List Operand} {vs:List Value} {eY:Array Nat}
variable {W0:World} {MI RO M:aJ} {hM:∀k,M k->k<W0.heap.size/\¬MI k/\¬RO k}
variable {I1 X1:aJ->World->Prop} {I:World->Prop}
theorem Pb{y:Nat}(Z:aJ)(T:Gh->Gh)(hT:∀G,(T G).M=G.M/\(T G).V=G.V/\(T G).R=G.R/\(T G).X=λk=>G.X k\/Z k){V:aJ}{hI:fG (λk=>(k<W0.heap.size/\¬MI k)\/V k) I}(mY:∀V,fG (λk=>(k<W0.heap.size/\¬MI k)\/V k) (I1 V))(oc:∀V,fG (λk=>(k<W0.heap.size/\¬MI k)\/V k) (X1 V))(hV:∀k,V k->W0.heap.size<=k)(hw:nr ops E g=some true)(hN:Nat.blt d C.N=true)(hx:ev E x=some (yv y))(ha:jt E xs=some vs)(hy:∀W1,St (T (dI hM V hI)) L H W1->(∀k,V k->W0.heap.size<=k/\k<W1.heap.size)->I W1->Pp C.P y vs.toArray W1 (λb W2=>aQ (λk=>M k\/V k) W1 W2/\(if b then I1 (rV V W1 W2) W2 else X1 (rV V W1 W2) W2)))(k1:∀J,(∀k,V k->J k)->(∀w∈L,∀k,J k->V k\/w.heap.size<=k)->OJ C ops Q l ((d,.bool true)::E) D (T (dI hM J (mY J))) L H)(k2:∀J,(∀k,V k->J k)->(∀w∈L,∀k,J k->V k\/w.heap.size<=k)->OJ C ops Q l ((d,.bool false)::E) D (T (dI hM J (oc J))) L H):OJ C ops Q (⟨some d,.call ⟨.value x,xs.toArray,eY⟩,ty,pos,aD,g⟩::l) E D (T (dI hM V hI)) L H:=by
 refine Uv (λG'=>∃J,(∀k,V k->J k)/\(∀w∈L,∀k,J k->V k\/w.heap.size<=k)/\G'=T (dI hM J (mY J))) (λG'=>∃J,(∀k,V k->J k)/\(∀w∈L,∀k,J k->V k\/w.heap.size<=k)/\G'=T (dI hM J (oc J))) hw hN hx ha (λW1 hS=>?_) cM cM;have de:∀k,V k->k<W1.heap.size:=λk hk=>hS.xlt k (by rw[(hT _).2.2.2];exact .inl (.inr hk));have aq:I W1:=by have:=hS.ghost;rw[(hT _).2.2.1]at this;exact this
 obtain⟨fn,tmps,assign,body,iJ,iZ⟩:=hy W1 hS (λk hk=>⟨hV k hk,de k hk⟩) aq;exact zMi
variable {e:Exit} {fn:Func}
theorem n8h{V:aJ}{hI:fG (λk=>(k<W0.heap.size/\¬MI k)\/V k) I}{α:Type}{Fin:List α->aJ->World->Prop}{J:List α->aJ->World->Prop}{X:aJ->World->Prop}(he:e= .ret\/e= .normal)(hr:fn.results=#[])(hw:W0∈L)(hV:∀k,V k->W0.heap.size<=k)(hH:∀k,k<W0.heap.size->k∈H.map (·.1)->MI k)(h:∀A,St (dI hM V hI) L H A->I A->(∃xs,Fin xs (λk=>M k\/V k) A/\J xs V A)\/X V A):PJ C (bodyPost C.P fn (λe W'=>(∃v,e= .returned v)/\aQ (λk=>M k\/MI k) W0 W'/\∃V,(∃xs,Fin xs (λk=>M k\/V k) W'/\J xs V W')\/X V W')) e E [] (dI hM V hI) L H:=by
 intro a W' _ hD _ hS;have key:bodyPost C.P fn (λe W'=>(∃v,e= .returned v)/\aQ (λk=>M k\/MI k) W0 W'/\∃V,(∃xs,Fin xs (λk=>M k\/V k) W'/\J xs V W')\/X V W') .normal a W':=by
  refine⟨hD,.tuple #[],results_none hr _ _ _,⟨_,rfl⟩,(hS.links W0 hw).mono λk hk hx=>?_,V,h W' hS hS.ghost⟩;rcases hx with(hx|hx)|hx
  ·grind
  ·grind
  grind
 exact WR
end
section
variable {α:Type}
end
end Px
