/- Memory, operations, iterators, slices, maps. No condition beyond those stated. -/
import Derived.Test.YtodpaegknpbomaaGreatDoorXb
import Derived.Laws.BytesArg
import Derived.RecoverIn
import Derived.Laws.StructEq
import Derived.ProofKit
import Derived.LaidMore
import Derived.OpenShut
import Derived.Stop.Joined
import Derived.Carry
import Derived.Deep.Slices
import Derived.Shelf.SlSortCmp.NoneTotal
set_option linter.unusedSimpArgs false
set_option linter.unusedVariables false
set_option linter.unusedSectionVars false
set_option linter.unnecessarySimpa false
set_option maxRecDepth 20000
set_option maxHeartbeats 8000000
namespace Px

end Px
namespace Px
open Go Go.RowKit
/-! ### rows of bytes -/
def ub (l:List UInt8):List Value:=l.map λb=>Value.int .u8 b.toNat
theorem vU(l:List UInt8):(ub l).length=l.length:=by simp[ub]
theorem GU(a b:List UInt8):ub (a++b)=ub a++ub b:=by simp[ub]
theorem noi(l:List UInt8):∀u∈ub l,u.oneCell'=true:=by
 intro u hu;obtain⟨i,_,rfl⟩:=bY.1 hu;rfl
def fU (l:List UInt8) (i:Nat):Int:=((l[i]?.getD 0).toNat:Int)
theorem nOn(l:List UInt8):ub l=kW l.length (fU l):=by
 apply Cy;all_goals grind [ub,kW,fU,vU,DA]
theorem WT(l:List UInt8)(sp:List Value)(i:Nat)(h:i<l.length):((ub l++sp).toArray)[0+i]? =some (.int .u8 (fU l i)):=by grind [vU,ub,fU]
abbrev bS (b n cap:Nat):Value:=.slice (some ⟨b,0,none⟩) n cap
abbrev aL (e:Nat) (xs:List UInt8) (sp:List Value):Obj:=.cells (ub xs++sp).toArray e (0,0)
structure dF (xs:List UInt8) (cap:Nat) (sp:List Value):Prop where
 le:xs.length<=cap
 sp:sp.length=cap-xs.length
structure Av (P:Program) (t e:Nat):Prop where
 und:P.underlying t=some (.slice e)
 el:P.underlying e=some (.int .u8)
 info:∃ti,P.info? e=some ti/\ti.zero=some (.int .u8 0)/\ti.size=1/\ti.bytes=1
 sz:nJ P e 1
section
variable {G:Gh} {L:List World} {H:ad} {W:World}
variable {es:Array MapEntry} {os:Array Obj} {cs:Array Value} {R:Ending->World->Prop} {ex:Exit} {Q:Exit->Act->List Frame->World->Prop} {fn:Func} {H':ad} {rs:List ResultVar} {ys zs:List UInt8} {cap first sp bU us vs:List Value} {N b e i j k t tx:Nat} {fr:Nat×Nat} {o:Obj} {P:Program} {sv:Value} {v:Value->Value} {w:World}
theorem St.renewF(h:St G L H W)(o':Obj)(hi:H[i]? =some (b,o))(ha:Fr G L b):St G L (H.set i (W.heap.size,o')) (W.alloc o'):=by
 have lk:=(gX.1 hi).1;have hp:H.Perm ((b,o)::H.eraseIdx i):=OH H i _ hi;exact(((h.perm hp).dropF ha).alloc o').perm (ncg H i _ lk).symm
theorem St.dropAtF(h:St G L H W)(hi:H[i]? =some (b,o))(ha:Fr G L b):St G L (H.eraseIdx i) W:=
 (h.perm (OH H i _ hi)).dropF ha
theorem Fr.new(h:St G L H W):Fr G L W.heap.size:=.inr h.sizes
theorem Fr.up(h:St G L H W)(hb:W.heap.size<=b):Fr G L b:=.inr (ae.of_mem λw hw=>dG (h.links w hw).size hb)
theorem CZ(h:St G L H W)(hb:W.heap.size<=b):ae L b:=ae.of_mem λw hw=>dG (h.links w hw).size hb
theorem C5(h:St G L H W)(hb:W.heap.size<=b):aY H b:=aY.of_mem λhm=>by
 obtain⟨p,hp,e⟩:=bY.1 hm;have:=h.lt p hp;omega
theorem St.app{n len cap m ty:Nat}{ti:TypeInfo}{z:Value}{ys news:List Value}(hS:St G L H W)(hi:H[i]? =some (b,.cells (ys++sp).toArray e (0,0)))(hU:P.underlying t=some (.slice e))(qm:P.info? e=some ti)(hz:ti.zero=some z)(hm:ti.size=m)(tB:z.cells.size=m)(qn:Src P m tx sv n news W)(hlen:ys.length=len*m)(vG:sp.length=(cap-len)*m)(Ip:len<=cap)(ha:Fr G L b)(h63:len+n<=9223372036854775807)(lW:(len+n)*ti.bytes<=140737488355328):∃b' aR bU W',(Builtin.append_ #[t,tx] ty #[.slice (some ⟨b,0,none⟩) len cap,sv]).run P W= .ok (.slice (some ⟨b',0,none⟩) (len+n) aR) W'/\St G L (H.set i (b',.cells (ys++news++bU).toArray e (0,0))) W'/\(b'=b\/W.heap.size<=b')/\len+n<=aR/\bU.length=(aR-(len+n))*m:=by
 subst hm;have hb:=hS.own _ (cP hi);have wh:=qn.newsLen;by_cases ig:len+n<=cap
 ·have hle:(len+n)*ti.size<=cap*ti.size:=wo _ ig;have kP:(ys++sp).toArray.size=cap*ti.size:=by
   simp only[qq,ck,hlen,vG];rw[<-pE];congr 1;omega
  rw[pE]at hle;have hr:=run_append_room_src (P:=P) W t tx ty e ti hU qm b 0 len cap sv n news qn ig
   (λj hj=>by rw[KB hb];simp only[lE];rw[aJq aa];rfl)
   (λj hj=>by simp[World.frozen?,hb])
  obtain⟨h1,h2⟩:=nZc b news (0+len*ti.size) W _ _ hb;have jQ:(sp.drop (n*ti.size)).length=(cap-(len+n))*ti.size:=by
   rw[BN,vG,<-Nat.sub_mul];congr 1;omega
  have hc:setCells (ys++sp).toArray (0+len*ti.size) news=(ys++news++sp.drop (n*ti.size)).toArray:=by
   exact zxg
  rw[hc]at h2;exact⟨_,_,_,_,hr,hS.put hi h1 h2,.inl rfl,ig,jQ⟩
 have hold:(Builtin.firstCells ti.size len (.slice (some ⟨b,0,none⟩) len cap)).run P W.drew= .ok ys.toArray W.drew:=by
  exact zSg
 have hr:=run_append_grow_src (P:=P) W t tx ty e ti z hU qm hz (some ⟨b,0,none⟩) len cap ys hold sv n news qn aa aa (growslice_fits aa lW);have hg:=grownCap_ge W (len+n) cap e;have gF:=(hS.step (D9 W (W.drawn+1))).renewF (.cells ((ys++news).toArray++Builtin.zeroCells z.cells (grownCap W (len+n) cap e-(len+n))) e (0,0)) hi ha;have BM:(Builtin.zeroCells z.cells (grownCap W (len+n) cap e-(len+n))).toList.length=(grownCap W (len+n) cap e-(len+n))*ti.size:=by
  simp[Builtin.zeroCells,tB]
 have hc:(ys++news).toArray++Builtin.zeroCells z.cells (grownCap W (len+n) cap e-(len+n))=(ys++news++(Builtin.zeroCells z.cells (grownCap W (len+n) cap e-(len+n))).toList).toArray:=by
  apply Array.ext';simp
 rw[hc]at gF hr;exact⟨_,_,_,_,hr,gF,.inr (ak _),hg,BM⟩
theorem St.appN{n m ty:Nat}{ti:TypeInfo}{z:Value}{news:List Value}(hS:St G L H W)(hU:P.underlying t=some (.slice e))(qm:P.info? e=some ti)(hz:ti.zero=some z)(hm:ti.size=m)(tB:z.cells.size=m)(qn:Src P m tx sv n news W)(h0:0<n)(h63:n<=9223372036854775807)(lW:n*ti.bytes<=140737488355328):∃aR bU W',(Builtin.append_ #[t,tx] ty #[.slice none 0 0,sv]).run P W= .ok (.slice (some ⟨W.heap.size,0,none⟩) n aR) W'/\St G L ((W.heap.size,.cells (news++bU).toArray e (0,0))::H) W'/\n<=aR/\bU.length=(aR-n)*m:=by
 subst hm;have hold:(Builtin.firstCells ti.size 0 (.slice none 0 0)).run P W.drew= .ok ([]:List Value).toArray W.drew:=by simp[Builtin.firstCells]
 have hr:=run_append_grow_src (P:=P) W t tx ty e ti z hU qm hz none 0 0 [] hold sv n news qn aa aa (growslice_fits aa (by rw[lE];exact lW));rw[lE]at hr;have hg:=grownCap_ge W n 0 e;have gF:=(hS.step (D9 W (W.drawn+1))).alloc (.cells (([]++news:List Value).toArray++Builtin.zeroCells z.cells (grownCap W n 0 e-n)) e (0,0));have hc:([]++news:List Value).toArray++Builtin.zeroCells z.cells (grownCap W n 0 e-n)=(news++(Builtin.zeroCells z.cells (grownCap W n 0 e-n)).toList).toArray:=by
  apply Array.ext';simp
 rw[hc]at gF hr;exact⟨_,_,_,hr,gF,hg,by simp[Builtin.zeroCells,tB]⟩
end
section
variable {C:Cx} {Q:aZ} {E:Env} {D:List Deferred} {G:Gh} {L:List World} {H:ad} {ops:Array Oper} {l:List Oper}
variable {d T ty f:Nat} {pos:String} {aC:Array Edge} {g:Option (Nat×Bool)} {x y:Operand} {xs:List Operand} {vs:List Value} {eo:Array Nat}
def gR (C:Cx) (G:Gh) (L:List World) (H:ad) (tx:Nat) (sv:Value) (zs:List UInt8):Prop:=oM C G L H 1 tx sv zs.length (ub zs)
variable {zs:List UInt8} {sp:List Value} {b i t tx:Nat} {fr:Nat×Nat}
theorem gR.own{e' c:Nat}(hU:C.P.underlying tx=some (.slice e'))(hi:H[i]? =some (b,.cells (ub zs++sp).toArray t fr)):gR C G L H tx (bS b zs.length c) zs:=
 oM.sl hU (Rd.own hi (by simp only[qq,ck,vU];omega) (by simp only[SM,xq];rw[<-vU zs,PU rfl])) (by rw[vU,xq]) (noi _)
theorem gR.old{e' c:Nat}{w1:World}(hU:C.P.underlying tx=some (.slice e'))(hm:w1∈L)(hb:w1.heap[b]? =some (.cells (ub zs++sp).toArray t fr))(hG:¬G.X b)(hO:aY H b):gR C G L H tx (bS b zs.length c) zs:=
 oM.sl hU (Rd.old hm hb hG hO (by simp only[qq,ck,vU];omega) (by simp only[SM,xq];rw[<-vU zs,PU rfl])) (by rw[vU,xq]) (noi _)
theorem gR.str{s:ByteArray}(hU:C.P.underlying tx=some .string):gR C G L H tx (.string s) s.data.toList:=
 ⟨.inr hU,λ_=>rfl,Rd.str,by rw[vU,xq],noi _⟩
variable {e:Nat} {sv:Value}
theorem Nt{cap:Nat}{xs:List UInt8}(hi:H[i]? =some (b,aL e xs sp))(hB:Av C.P t e)(hw:nl ops E g=some true)(hN:Nat.blt d C.N=true)(hx:ev E x=some (bS b xs.length cap))(hy:ev E y=some sv)(hs:gR C G L H tx sv zs)(hr:dF xs cap sp)(ha:Fr G L b)(iO:xs.length+zs.length<=1000000000000)(k:∀(b' aR:Nat) (bU:List Value),Fr G L b'->dF (xs++zs) aR bU->OJ C ops Q l ((d,bS b' (xs++zs).length aR)::E) D G L (H.set i (b',aL e (xs++zs) bU))):OJ C ops Q (⟨some d,.call ⟨.builtin .append,#[x,y],#[t,tx]⟩,ty,pos,aC,g⟩::l) E D G L H:=
 qB zJ hw hN λa W hF hS=>by
  obtain⟨ti,qm,hz,kP,qx⟩:=hB.info;obtain⟨b',aR,bU,W',fK,gF,ew,Ah,jQ⟩:=hS.app (P:=C.P) (ty:=ty) hi hB.und qm hz kP rfl (hs.src hS) (by rw[vU,xq]) (by rw[hr.sp,xq]) hr.le ha aa (by rw[qx];omega);have hFr:Fr G L b':=by
   rcases ew with rfl|ew
   ·exact ha
   exact Fr.up hS ew
  have hl:(xs++zs).length=xs.length+zs.length:=ck;refine⟨.slice (some ⟨b',0,none⟩) (xs.length+zs.length) aR,W',L,_,?_,gF,?_⟩
  ·simp[execOp,hF.ev hx,hF.ev hy,resolve,invoke,Deferred.ofValue,builtin,fK]
  have:=k b' aR bU hFr ⟨by rw[hl];exact Ah,by rw[hl,jQ,xq]⟩;rw[hl]at this;simpa only[aL,GU]using this
theorem apN(hB:Av C.P t e)(hw:nl ops E g=some true)(hN:Nat.blt d C.N=true)(hx:ev E x=some (.slice none 0 0))(hy:ev E y=some sv)(hs:gR C G L H tx sv zs)(h0:0<zs.length)(iO:zs.length<=1000000000000)(k:∀(b' aR:Nat) (bU:List Value),ae L b'->aY H b'->¬G.X b'->dF zs aR bU->OJ C ops Q l ((d,bS b' zs.length aR)::E) D G L ((b',aL e zs bU)::H)):OJ C ops Q (⟨some d,.call ⟨.builtin .append,#[x,y],#[t,tx]⟩,ty,pos,aC,g⟩::l) E D G L H:=
 qB zJ hw hN λa W hF hS=>by
  obtain⟨ti,qm,hz,kP,qx⟩:=hB.info;obtain⟨aR,bU,W',fK,gF,Ah,jQ⟩:=hS.appN (P:=C.P) (ty:=ty) hB.und qm hz kP rfl (hs.src hS) h0 aa (by rw[qx];omega);refine⟨.slice (some ⟨W.heap.size,0,none⟩) zs.length aR,W',L,_,?_,gF,k W.heap.size aR bU hS.sizes hS.offNew hS.mNew ⟨Ah,by rw[jQ,xq]⟩⟩;simp[execOp,hF.ev hx,hF.ev hy,resolve,invoke,Deferred.ofValue,builtin,fK]
/-! #### functions that are lent a row and give one back -/
def Pz (w:World) (b e:Nat) (ys:List UInt8):Ending->World->Prop:=λed w'=>
 ∃b' aR bU,ed= .returned (bS b' ys.length aR)/\aH (· =b) w w'/\(b'=b\/w.heap.size<=b')/\dF ys aR bU/\w'.heap[b']? =some (aL e ys bU)
def nBm (w:World) (e:Nat) (ys:List UInt8):Ending->World->Prop:=λed w'=>
 ∃b' aR bU,ed= .returned (bS b' ys.length aR)/\Below w.heap.size w w'/\w.heap.size<=b'/\dF ys aR bU/\w'.heap[b']? =some (aL e ys bU)
variable {o:Obj} {w:World}
theorem DG(h:w.heap[b]? =some o):St (Gh.lent (· =b)) [w] [(b,o)] w where
 ghost:=trivial
 vlt:=λ_ h=>h.elim
 xlt:=λk hk=>by
  have:k=b:=hk;subst this;exact(aT.1 h).1
 links:=λw' hw=>by simp at hw;subst hw;exact aH.refl _ _
 own:=λp hp=>by simp at hp;subst hp;exact h
 nodup:=λi j p q hi hj _=>by
  have h1:=(gX.1 hi).1;have h2:=(gX.1 hj).1;simp at h1 h2;omega
 apart:=λ_ _ h=>h.elim
def lF (Z:Nat->Prop) (n:Nat):ad->Prop
 | []=>True
 |p::H=>(Z p.1\/n<=p.1)/\lF Z n H
theorem lF.mem{Z:Nat->Prop}{n:Nat}(h:lF Z n H):∀p∈H,Z p.1\/n<=p.1:=by
 exact z6g
variable {W:World}
theorem St.baseX{Z:Nat->Prop}(h:St (Gh.lent Z) L H W)(hw:w∈L)(ho:lF Z w.heap.size H):aH Z w W:=
 (h.links w hw).mono λk hk hx=>by
  rcases hx with hx|hx
  ·exact hx
  obtain⟨p,hp,rfl⟩:=bY.1 hx;rcases ho.mem p hp with h|h
  ·exact h
  omega
section
variable {fn:Func}
variable {ex:Exit} {ys:List UInt8} {bU:List Value}
theorem nIi{b' aR:Nat}(he:ex= .ret\/ex= .normal)(hr:fn.results=#[.tmp t])(hv:look E t=some (bS b' ys.length aR))(hi:H[i]? =some (b',aL e ys bU))(hw:w∈L)(ho:lF (· =b) w.heap.size H)(hk:dF ys aR bU):PJ C (bodyPost C.P fn (Pz w b e ys)) ex E [] (Gh.lent (· =b)) L H:=
 bM he (rs:=[.tmp t]) hr (RS.t hv RS.n) λW hS=>⟨b',aR,bU,rfl,hS.baseX hw ho,ho.mem _ (cP hi),hk,hS.own _ (cP hi)⟩
theorem PL{b' aR:Nat}(he:ex= .ret\/ex= .normal)(hr:fn.results=#[.tmp t])(hv:look E t=some (bS b' ys.length aR))(hi:H[i]? =some (b',aL e ys bU))(hw:w∈L)(ho:Over w.heap.size H)(hk:dF ys aR bU):PJ C (bodyPost C.P fn (nBm w e ys)) ex E [] Gh.no L H:=
 bM he (rs:=[.tmp t]) hr (RS.t hv RS.n) λW hS=>⟨b',aR,bU,rfl,hS.base hw ho,ho.mem _ (cP hi),hk,hS.own _ (cP hi)⟩
end
variable {ys:List UInt8} {cap first:List Value}
theorem Uq(hi:H[i]? =some (b,o))(hx:ev E x=some (.func (.func f) first.toArray cap.toArray))(az:eg C.P f)(hw:nl ops E g=some true)(hN:Nat.blt d C.N=true)(ha:iV E xs=some vs)(hF:Fr G L b)(hc:∀W,St G L H W->W.heap[b]? =some o->Calls C.P f (first++vs++cap).toArray W (Pz W b e ys))(k:∀b' aR bU,Fr G L b'->dF ys aR bU->OJ C ops Q l ((d,bS b' ys.length aR)::E) D G L (H.set i (b',aL e ys bU))):OJ C ops Q (⟨some d,.call ⟨.value x,xs.toArray,eo⟩,ty,pos,aC,g⟩::l) E D G L H:=
 nI rfl hw hx ha zJ az λa W iW hD vD hS=>(hc W hS (hS.own _ (cP hi))).mono (by
  rintro ed W' ⟨b',aR,bU,rfl,hk,ew,hr,fj⟩;have SC:=λhFr gF=>k b' aR bU hFr hr (a.put (some d) (bS b' ys.length aR)) W' z7 z5 (vD.put _ z6) gF;rcases ew with rfl|ew
  ·exact SC hF (hS.put hi hk fj)
  refine SC (Fr.up hS ew) ?_;have jf:=(aT.1 (hS.own _ (cP hi))).1;obtain⟨ob,y8⟩:∃ob,W'.heap[b]? =some ob:=⟨W'.heap[b]'(lZ jf hk.size),aJq _⟩;have h1:=hS.put hi hk y8;have lk:=(gX.1 hi).1;have h2:(H.set i (b,ob))[i]? =some (b,ob):=by rw[aXp lk]
  have h3:=(h1.perm (OH _ _ _ h2)).dropF hF;have hse:(H.set i (b,ob)).eraseIdx i=H.eraseIdx i:=by rw[List.eraseIdx_set_eq]
  rw[hse]at h3;have mh:aY (H.eraseIdx i) b':=aY.of_mem λhm=>by
   obtain⟨p,hp,e⟩:=bY.1 hm;have:=hS.lt p (List.mem_of_mem_eraseIdx hp);omega
  have h4:=h3.adopt fj mh (λhv=>by have:=hS.vlt _ hv;omega);exact h4.perm (ncg H i _ lk).symm)
theorem OJ.dropF(hi:H[i]? =some (b,o))(ha:Fr G L b)(k:OJ C ops Q l E D G L (H.eraseIdx i)):OJ C ops Q l E D G L H:=λa W hN hD hF hS=>k a W hN hD hF (hS.dropAtF hi ha)
theorem CJ.dropF{c:Code}(hi:H[i]? =some (b,o))(ha:Fr G L b)(k:CJ C c Q E D G L (H.eraseIdx i)):CJ C c Q E D G L H:=λa W hN hD hF hS=>k a W hN hD hF (hS.dropAtF hi ha)
theorem PJ.dropF{e':Exit}(hi:H[i]? =some (b,o))(ha:Fr G L b)(k:PJ C Q e' E D G L (H.eraseIdx i)):PJ C Q e' E D G L H:=λa W hN hD hF hS=>k a W hN hD hF (hS.dropAtF hi ha)
theorem PA{n:Nat}{z:Value}{ps:List (Nat×Operand)}{vs:List (Nat×Value)}(zs:List UInt8)(hB:Av C.P T e)(hz:Af C.P e z)(hw:nl ops E g=some true)(hN:Nat.blt d C.N=true)(ha:MY E ps=some vs)(T4:Nat.ble (n*1) 16777216=true)(hs:vs=Ak 0 (vs.map (·.2)))(hl:vs.length=n)(hm:T3 1 (vs.map (·.2))=true)(tB:nY (vs.map (·.2))=ub zs)(hn:n=zs.length)(k:∀(b:Nat),ae L b->aY H b->¬G.X b->dF zs n []->OJ C ops Q l ((d,bS b zs.length n)::E) D G L ((b,aL e zs [])::H)):OJ C ops Q (⟨some d,.buildSlice T n ps.toArray,ty,pos,aC,g⟩::l) E D G L H:=
 qB zJ hw hN λa W hF hS=>⟨_,_,_,_,nzd hB.und hB.sz hz (TZ hF ps vs ha) T4 (T0 (by
  have:=nMe 1 (vs.map (·.2)) 0 [] ((Array.range (n*1)).map (λj=>((if n*1=0 then #[]else z.cells)[j%(if n*1=0 then #[]else z.cells).size]!))).toList hm zJ (by rw[nZg,eG,hl]);rw[<-hs,ef,ef]at this;exact this)),hS.alloc _,by
   have:=k W.heap.size hS.sizes hS.offNew hS.mNew ⟨by omega,by simp;omega⟩;rw[tB];simp only[aL,dV]at this;rw[<-hn]at this;exact this⟩
end
/-! ### values of the codec -/
inductive V where
 |int (n:Int)
 |text (s:ByteArray)
 |list (l:List V)
theorem V.ind{p:V->Prop}(h1:∀n,p (.int n))(h2:∀s,p (.text s))(h3:∀l,(∀y∈l,p y)->p (.list l)):∀x,p x:=by
 intro x;exact V.rec (motive_1:=p) (motive_2:=λl=>∀y∈l,p y) h1 h2 h3 zJ (λx l hx hl y hy=>by
  rcases bX.1 hy with rfl|hy
  ·exact hx
  exact hl y hy) x
def V.kind:V->Int
 | .int _=>1
 | .text _=>2
 | .list _=>3
def num (u:Nat):List UInt8:=if h:u<128 then[UInt8.ofNat u]else UInt8.ofNat (u%128+128)::num (u/128)
termination_by u
decreasing_by omega
theorem WL{u:Nat}(h:u<128):num u=[UInt8.ofNat u]:=by rw[num,dif_pos h]
theorem nDm{u:Nat}(h:¬u<128):num u=UInt8.ofNat (u%128+128)::num (u/128):=by rw[num,dif_neg h]
theorem JB(u:Nat):0<(num u).length:=by grind [WL,nDm]
theorem MZ:∀(k u:Nat),u<128^k->0<k->(num u).length<=k:=
 by intro x;induction x<;>(intros;grind [WL,nDm])
theorem CA{u:Nat}(h:u<18446744073709551616):(num u).length<=10:=MZ 10 u (lZ h zB) aa
def Jz (n:Int):Nat:=if 0<=n then(2*n).toNat else(-2*n-1).toNat
mutual
def V.enc:V->List UInt8
 | .int n=>1::num (Jz n)
 | .text s=>2::(num s.size++s.data.toList)
 | .list l=>3::(num l.length++V.encL l)
def V.encL:List V->List UInt8
 | []=>[]
 |x::l=>V.enc x++V.encL l
end
mutual
def V.depth:V->Nat
 | .int _=>0
 | .text _=>0
 | .list l=>V.depthL l+1
def V.depthL:List V->Nat
 | []=>0
 |x::l=>max (V.depth x) (V.depthL l)
end
theorem V.encL_take_le(l:List V):∀i,(V.encL (l.take i)).length<=(V.encL l).length:=by
 induction l with
 |nil=>intro i;simp[V.encL]
 |cons x l ih=>intro i;cases i with
  |zero=>simp[V.encL]
  |succ i=>simp only[Yp,V.encL,ck];have:=ih i;omega
theorem V.depthL_snoc(l:List V)(x:V):V.depthL (l++[x])=max (V.depthL l) x.depth:=by
 induction l with
 |nil=>simp[V.depthL]
 |cons y l ih=>simp only[gi,V.depthL,ih];omega
theorem V.depthL_take(l:List V)(i:Nat)(h:i<l.length):V.depthL (l.take (i+1))=max (V.depthL (l.take i)) (l[i]).depth:=by
 rw[Ni h,V.depthL_snoc]
mutual
def V.fine:V->Prop
 | .int n=> -9223372036854775808<=n/\n<=9223372036854775807
 | .text s=>s.size<=1000000000
 | .list l=>l.length<=1000000000/\V.depthL l<=1000000000/\V.fineL l
def V.fineL:List V->Prop
 | []=>True
 |x::l=>V.fine x/\V.fineL l
end
theorem V.fineL_mem:∀{l:List V},V.fineL l->∀x∈l,x.fine
 | [],_,x,hx=>by cases hx
 |y::l,h,x,hx=>by
  simp only[V.fineL]at h;rcases bX.1 hx with rfl|hx
  ·exact h.1
  exact V.fineL_mem h.2 x hx
theorem V.depthL_mem:∀{l:List V} (x:V),x∈l->x.depth<=V.depthL l
 | [],x,hx=>by cases hx
 |y::l,x,hx=>by
  simp only[V.depthL];rcases bX.1 hx with rfl|hx
  ·omega
  have:=V.depthL_mem (l:=l) x hx;omega
abbrev vI (n:Int):Value:=.agg #[.int .i64 1,.int .i64 n,.string ⟨#[]⟩,.slice none 0 0]
abbrev vT (s:ByteArray):Value:=.agg #[.int .i64 2,.int .i64 0,.string s,.slice none 0 0]
abbrev vL (base:Option Addr) (n cap:Nat):Value:=.agg #[.int .i64 3,.int .i64 0,.string ⟨#[]⟩,.slice base n cap]
mutual
def eM (N:Nat) (w:World):V->Value->Prop
 | .int n,v=>v=vI n
 | .text s,v=>v=vT s
 | .list l,v=>∃base cap,v=vL base l.length cap/\l.length<=cap/\(l=[]\/∃b cs t fr,base=some ⟨b,0,none⟩/\b<N/\w.heap[b]? =some (.cells cs t fr)/\gB N w cs 0 l)
def gB (N:Nat) (w:World) (cs:Array Value):Nat->List V->Prop
 |_,[]=>True
 |off,x::l=>off+4<=cs.size/\eM N w x (.agg (cut cs off 4))/\gB N w cs (off+4) l
end
theorem gB.get{N:Nat}{w:World}{cs:Array Value}:∀{l:List V} {off:Nat},gB N w cs off l->∀(i:Nat) (h:i<l.length),off+4*i+4<=cs.size/\eM N w l[i] (.agg (cut cs (off+4*i) 4))
 | [],_,_,i,h=>by simp at h
 |x::l,off,hv,i,h=>by
  simp only[gB]at hv;cases i with
  |zero=>exact⟨by omega,hv.2.1⟩
  |succ i=>
   have:=gB.get hv.2.2 i Bp;rw[show off+4*(i+1)=off+4+4*i by omega];simpa using this
variable {N:Nat} {w:World}
theorem eM.up{N':Nat}{w':World}(hN:N<=N')(hw:∀k,k<N->w'.heap[k]? =w.heap[k]?):∀(x:V) (v:Value),eM N w x v->eM N' w' x v:=by
 refine V.ind ?_ ?_ ?_
 ·intro n v h;simpa only[eM]using h
 ·intro s v h;simpa only[eM]using h
 intro l ih v h;simp only[eM]at h ⊢;obtain⟨base,cap,hv,hc,hl⟩:=h;refine⟨base,cap,hv,hc,?_⟩;rcases hl with hl|⟨b,cs,t,fr,hb,hlt,cJ,hs⟩
 ·exact .inl hl
 refine .inr ⟨b,cs,t,fr,hb,by omega,(hw b hlt).trans cJ,?_⟩;clear hb hlt cJ hc hv;generalize 0=off at *;induction l generalizing off with
 |nil=>simp only[gB]
 |cons x l ihl=>
  simp only[gB]at hs ⊢;exact⟨hs.1,ih x zJ _ hs.2.1,ihl (λy hy=>ih y (by simp[hy])) _ hs.2.2⟩
theorem eM.shape:∀{x:V} {v:Value},eM N w x v->∃n s p m c,v= .agg #[.int .i64 x.kind,.int .i64 n,.string s,.slice p m c]
 | .int n,v,h=>by simp only[eM]at h;exact⟨_,_,_,_,_,h⟩
 | .text s,v,h=>by simp only[eM]at h;exact⟨_,_,_,_,_,h⟩
 | .list l,v,h=>by simp only[eM]at h;obtain⟨_,_,h,_⟩:=h;exact⟨_,_,_,_,_,h⟩
variable {G:Gh} {H:ad} {L:List World} {W:World}
theorem St.same(h:St G L H W)(hw:w∈L)(hN:N<=w.heap.size)(hX:∀k,k<N->¬G.X k)(hH:Over N H):∀k,k<N->W.heap[k]? =w.heap[k]? :=λk hk=>
 (h.links w hw).block k aa (λhx=>by
  rcases hx with hx|hx
  ·exact hX k hk hx
  obtain⟨p,hp,rfl⟩:=bY.1 hx;have:=hH.mem p hp;omega)
theorem St.sm(h:St G L H W)(hw:w∈L:=by first|exact A0|exact A1|exact A2|exact A3|exact A4|exact A5|exact A6|exact A7|exact A8|exact A9)(hN:N<=w.heap.size:=by assumption)(hX:∀k,k<N->¬G.X k:=by exact λ_ _ h=>h)(hH:Over N H:=by first|exact True.intro|(simp only[Over,book,gi,ef,dV,iP,cW,dB,sx,yx,and_true];omega)|(simp[Over]<;>omega)):∀k,k<N->W.heap[k]? =w.heap[k]? :=h.same hw hN hX hH
section
variable {C:Cx} {Q:aZ} {E:Env} {D:List Deferred} {G:Gh} {L:List World} {H:ad} {ops:Array Oper} {l:List Oper}
variable {d T U ty f:Nat} {pos:String} {aC:Array Edge} {g:Option (Nat×Bool)} {x y:Operand} {xs:List Operand} {vs:List Value} {eo:Array Nat}
variable {t:Nat}
theorem DM{s:ByteArray}(hU:C.P.underlying t=some .string)(hx:ev E x=some (.string s)):RV C G L H E (.call ⟨.builtin .len,#[x],#[t]⟩) (.int .i64 (s.size:Int)):=λd ty pos aC g a W hF _=>by
 simp[execOp,hF.ev hx,resolve,invoke,Deferred.ofValue,builtin,Builtin.len_,run_underlying hU,goInt]
theorem yz{s t:ByteArray}(hx:ev E x=some (.string s))(hy:ev E y=some (.string t)):RV C G L H E (.binOp .eql T x y U) (.bool (s.toList==t.toList)):=λd ty pos aC g a W hF _=>by
 simp[execOp,eqGuard,binOp,Op.stringOp,hF.ev hx,hF.ev hy]
theorem PG{K:IntKind}{m n:Int}{t1 t2:Nat}(hx:ev E x=some (.int K m))(hy:ev E y=some (.int K n)):RV C G L H E (.call ⟨.builtin .max,#[x,y],#[t1,t2]⟩) (.int K (max m n)):=λd ty pos aC g a W hF _=>by
 have:(if m<n then n else m)=max m n:=by omega
 simp[execOp,hF.ev hx,hF.ev hy,resolve,invoke,Deferred.ofValue,builtin,Builtin.max_,Builtin.max2,this]
end
theorem iw{α:Type}{l:List α}(h:l.length=1):∃a,l=[a]:=by
 match l,h with
 | [a],_=>exact⟨a,rfl⟩
theorem pS{α:Type}{l:List α}(h:l.length=2):∃a b,l=[a,b]:=by
 match l,h with
 | [a,b],_=>exact⟨a,b,rfl⟩
theorem mj{α:Type}{l:List α}(h:l.length=3):∃a b c,l=[a,b,c]:=by
 match l,h with
 | [a,b,c],_=>exact⟨a,b,c,rfl⟩
theorem uH{α:Type}{l:List α}(h:l.length=4):∃a b c d,l=[a,b,c,d]:=by
 match l,h with
 | [a,b,c,d],_=>exact⟨a,b,c,d,rfl⟩
theorem sO{α:Type}{l:List α}(h:l.length=5):∃a b c d e,l=[a,b,c,d,e]:=by
 match l,h with
 | [a,b,c,d,e],_=>exact⟨a,b,c,d,e,rfl⟩
section
variable {C:Cx} {Q:aZ} {E:Env} {D:List Deferred} {G:Gh} {L:List World} {H:ad} {id:Nat}
theorem PJ.swp{e:Exit}{p q:Nat×Obj}(k:PJ C Q e E D G L (p::q::H)):PJ C Q e E D G L (q::p::H):=λa W hN hD hF hS=>k a W hN hD hF (hS.perm (List.Perm.swap p q H))
variable {H':ad}
theorem PJ.prm{e:Exit}(hp:H.Perm H')(k:PJ C Q e E D G L H'):PJ C Q e E D G L H:=λa W hN hD hF hS=>k a W hN hD hF (hS.perm hp)
theorem OJ.prm{ops:Array Oper}{l:List Oper}(hp:H.Perm H')(k:OJ C ops Q l E D G L H'):OJ C ops Q l E D G L H:=λa W hN hD hF hS=>k a W hN hD hF (hS.perm hp)
end
section
variable {C:Cx} {Q:aZ} {E:Env} {D:List Deferred} {G:Gh} {L:List World} {H:ad} {ops:Array Oper} {l:List Oper}
variable {d T ty f:Nat} {pos:String} {aC:Array Edge} {g:Option (Nat×Bool)} {x y:Operand} {xs:List Operand} {vs:List Value} {eo:Array Nat}
variable {ys:List UInt8} {cap first:List Value} {e:Nat}
theorem PM(hx:ev E x=some (.func (.func f) first.toArray cap.toArray))(az:eg C.P f)(hw:nl ops E g=some true)(hN:Nat.blt d C.N=true)(ha:iV E xs=some vs)(hc:∀W,St G L H W->Calls C.P f (first++vs++cap).toArray W (nBm W e ys))(k:∀b' aR bU,ae L b'->aY H b'->¬G.X b'->dF ys aR bU->OJ C ops Q l ((d,bS b' ys.length aR)::E) D G L ((b',aL e ys bU)::H)):OJ C ops Q (⟨some d,.call ⟨.value x,xs.toArray,eo⟩,ty,pos,aC,g⟩::l) E D G L H:=
 nI rfl hw hx ha zJ az λa W iW hD hF hS=>(hc W hS).mono (by
  rintro ed W' ⟨b',aR,bU,rfl,hb,kP,hr,fj⟩;exact k b' aR bU (CZ hS kP) (C5 hS kP) (λhx=>by have:=hS.xlt _ hx;omega) hr (a.put (some d) (bS b' ys.length aR)) W' z7 z5 (hF.put _ z6)
   ((hS.step hb).adopt fj (C5 hS kP) (λhv=>by have:=hS.vlt _ hv;omega)))
def nyl (w:World) (e:Nat) (ys:List UInt8):Ending->World->Prop:=λed w'=>
 ∃b' aR bU,ed= .returned (.tuple #[bS b' ys.length aR,.int .i64 0])/\Below w.heap.size w w'/\w.heap.size<=b'/\dF ys aR bU/\w'.heap[b']? =some (aL e ys bU)
variable {ex:Exit} {fn:Func} {bU:List Value} {i t:Nat}
theorem PN{u b' aR:Nat}(he:ex= .ret\/ex= .normal)(hr:fn.results=#[.tmp t,.tmp u])(hv:look E t=some (bS b' ys.length aR))(hu:look E u=some (.int .i64 0))(hi:H[i]? =some (b',aL e ys bU))(hw:w∈L)(ho:Over w.heap.size H)(hk:dF ys aR bU):PJ C (bodyPost C.P fn (nyl w e ys)) ex E [] Gh.no L H:=
 bM he (rs:=[.tmp t,.tmp u]) hr (RS.t hv (RS.t hu RS.n)) λW hS=>⟨b',aR,bU,rfl,hS.base hw ho,ho.mem _ (cP hi),hk,hS.own _ (cP hi)⟩
theorem n8j(az:eg C.P f)(hw:nl ops E g=some true)(hN:Nat.blt d C.N=true)(ha:iV E xs=some vs)(hc:∀W,St G L H W->Calls C.P f vs.toArray W (nyl W e ys))(k:∀b' aR bU,ae L b'->aY H b'->¬G.X b'->dF ys aR bU->OJ C ops Q l ((d,.tuple #[bS b' ys.length aR,.int .i64 0])::E) D G L ((b',aL e ys bU)::H)):OJ C ops Q (⟨some d,.call ⟨.value (.func f),xs.toArray,eo⟩,ty,pos,aC,g⟩::l) E D G L H:=
 nI rfl hw rfl ha zJ az λa W iW hD hF hS=>(hc W hS).mono (by
  rintro ed W' ⟨b',aR,bU,rfl,hb,kP,hr,fj⟩;exact k b' aR bU (CZ hS kP) (C5 hS kP) (λhx=>by have:=hS.xlt _ hx;omega) hr (a.put (some d) _) W' z7 z5 (hF.put _ z6)
   ((hS.step hb).adopt fj (C5 hS kP) (λhv=>by have:=hS.vlt _ hv;omega)))
theorem W8{v:Value}(hx:ev E x=some (.func (.func f) first.toArray cap.toArray))(az:eg C.P f)(hw:nl ops E g=some true)(hN:Nat.blt d C.N=true)(ha:iV E xs=some vs)(hc:∀W,St G L H W->Calls C.P f (first++vs++cap).toArray W (aM W v))(k:OJ C ops Q l ((d,v)::E) D G L H):OJ C ops Q (⟨some d,.call ⟨.value x,xs.toArray,eo⟩,ty,pos,aC,g⟩::l) E D G L H:=
 nI rfl hw hx ha zJ az λa W iW hD hF hS=>(hc W hS).mono (by
  rintro e W' ⟨rfl,hb⟩;exact k (a.put (some d) v) W' z7 z5 (hF.put _ z6) (hS.step hb))
theorem nsn{Pre:World->Prop}{Φ:Value->World->Prop}{v:Value}(hx:ev E x=some (.func (.func f) first.toArray cap.toArray))(az:eg C.P f)(hw:nl ops E g=some true)(ha:iV E xs=some vs)(hc:∀W,St G L H W->Pre W->Calls C.P f (first++vs++cap).toArray W (aM W v))(hΦ:∀W,Φ v W):X C ops G L H E Pre ⟨some d,.call ⟨.value x,xs.toArray,eo⟩,ty,pos,aC,g⟩ Φ:=by
 intro a W K Q iW hF hS hP hk;rw[if_pos (Bg hF hw)];refine⟨λ_ _=>trivial,?_⟩;have hr:(execOp a.eval ⟨some d,.call ⟨.value x,xs.toArray,eo⟩,ty,pos,aC,g⟩).run C.P W= .ok (.enter f (first++vs++cap).toArray) W:=by
  have h2:(xs.toArray).map a.eval=vs.toArray:=by rw[C8,MN hF xs vs ha]
  simp only[execOp,resolve,hF.ev hx,Deferred.ofValue,h2];simp[invoke,az _ W]
 rw[Oper.semAt_eq _ _ _ zJ,hr,Oper.uponIn_enter];refine⟨by simp,I7.2 ((hc W hS hP).mono ?_)⟩;rintro e W' ⟨rfl,hb⟩;exact hk v W' hb (hΦ W')
end
/-! ### deferred calls, and recover -/
def GZ (cs:List Frame):Value×List Frame:=match recoverD cs with|some p=>p|none=>(.nilIface,cs)
theorem nan(cs:List Frame):(GZ cs).2.length=cs.length:=by
 unfold GZ;split
 ·rename_i p h;obtain⟨v,fC⟩:=p;exact recoverD_length h
 rfl
variable {Q:Exit->Act->List Frame->World->Prop} {P:Program}
theorem nup{F:Fence}{n:Nat}{a:Act}{cs:List Frame}{w':World}{id:Nat}{ops:Array Oper}{o:Oper}{rest:List Nat}(tw:F.round=none)(hrg:List.range ops.size=0::rest)(ho:ops[0]? =some o)(hw:Region.wanted o (yielded ops a.tmps)=true)(tI:∀f,o.about P w a.eval=some f->F.fn f)(hr:(execOp a.eval o).run P w= .ok .recover w')(h:wpOpsIn F n P ops (λe a' w'=>Q e a' (GZ cs).2 w') rest (a.put o.dst (GZ cs).1) w'):(Code.region id ops false).wpSIn F n P Q a cs w:=by
 intro b k hb Oy hF ig;have h0:(lone (b.atR a (.inRegion ops (0::rest)::k)) cs w).fenced P F:=fenced_oper hF ig ho tI;have hg:=stepGR_op (P:=P) (b:=b) (k:=k) (cs:=cs) (w:=w) (rest:=rest) ho hw;rw[Oy,Oper.semAt_none]at hg;have dK:∀v,(b.atR a (.inRegion ops (0::rest)::k)).finish v=b.atR (a.put o.dst v) (.inRegion ops rest::k):=by
  intro v;rw[Frame.finish_atR,ho];rfl
 have hk:(b.atR a (.inRegion ops (0::rest)::k)).kind= .deferred:=hb;have gO:=tryRecover_deferred hk cs;have hlen:=nan cs;obtain⟨e,a',w'',hq,ame⟩:=wp_opsIn rest (a.put o.dst (GZ cs).1) w' h b k (GZ cs).2 (Oy.trans tw.symm) hF (by rw[hlen];exact ig);refine⟨e,a',(GZ cs).2,w'',hlen,hq,?_⟩;have abP:=stepR_region (P:=P) (b:=b) (a:=a) (id:=id) (ops:=ops) (k:=k) (cs:=cs) (w:=w);rw[hrg]at abP;refine .of_steps (.head (fenced_calm hF ig rfl) abP (.one h0 (step_lone_go ?_))) ame;rw[hg,<-dK];unfold GZ;cases py:recoverD cs with
 |none=>
  simp only[Frame.atR,Oy]at gO ⊢;simp[stepG.apply,hr,gO,py]
 |some p=>
  obtain⟨v,fC⟩:=p;simp only[Frame.atR,Oy]at gO ⊢;simp[stepG.apply,hr,gO,py]
theorem nTk(c₀:Frame)(cs:List Frame)(h:c₀.mode= .returning):GZ (c₀::cs)=(.nilIface,{c₀ with mode:=.returning}::cs):=by
 simp only[GZ,recoverD,h];rw[<-h]
variable {R:Ending->World->Prop} {fn:Func} {vs:List Value}
theorem S3{f:Nat}{c:Code}(G:Gh)(H:ad)(hf:P.funcs[f]? =some fn)(hb:fn.body=some c)(hN:fn.ntmps=N)(hl:Nat.ble vs.length N=true)(hS:St G [w] H w)(h:CJ ⟨P,none,N⟩ c (bodyPostDIn (FW none) 0 P fn R) (zy 0 vs) [] G [w] H):Calls P f vs.toArray w R:=by
 rw[<-I7 (r:=none) (n:=0)];refine callsIn_of_wp_defers hf hb trivial (h _ w ?_ rfl ?_ hS)
 ·have:=dO hl;simp[hN];omega
 exact nmc vs _
section
variable {P:Program} {N:Nat} {Q:aZ} {E:Env} {D:List Deferred} {G:Gh} {L:List World} {H:ad} {ops:Array Oper} {l:List Oper}
variable {ty f:Nat} {pos:String} {aC:Array Edge} {g:Option (Nat×Bool)} {x:Operand}
variable {cap:List Value}
theorem OJ.defer{eo:Array Nat}(hw:nl ops E g=some true)(hx:ev E x=some (.func (.func f) #[] cap.toArray))(k:OJ ⟨P,none,N⟩ ops Q l E ({target:=.fn (.func f) cap.toArray,args:=#[]}::D) G L H):OJ ⟨P,none,N⟩ ops Q (⟨none,.defer ⟨.value x,#[],eo⟩,ty,pos,aC,g⟩::l) E D G L H:=by
 intro a W iW hD hF hS;unfold wpListIn;rw[if_pos (Bg hF hw)];refine⟨λ_ _=>trivial,?_⟩;have hr:(execOp a.eval ⟨none,.defer ⟨.value x,#[],eo⟩,ty,pos,aC,g⟩).run P W= .ok (.defer {target:=.fn (.func f) cap.toArray,args:=#[]}) W:=by
  simp[execOp,resolve,hF.ev hx,Deferred.ofValue]
 dsimp only;rw[Oper.semAt_none,hr,Oper.uponIn_defer];exact k _ W iW z5 (λt v hv=>hF t v hv) hS
variable {ex:Exit} {rs:List ResultVar}
theorem aj2(he:ex= .ret\/ex= .normal)(az:eg P f)(hc:∀W,St G L H W->CallsDIn (FW none) 0 P f cap.toArray .returning W (λe u' w'=>u'= .returning/\(∃v,e= .returned v)/\Below W.heap.size W w'))(hr:fn.results=rs.toArray)(h:RS ⟨P,none,N⟩ G L H E rs vs)(hR:∀W,St G L H W->R (.returned (Mf vs)) W):PJ ⟨P,none,N⟩ (bodyPostDIn (FW none) 0 P fn R) ex E [{target:=.fn (.func f) cap.toArray,args:=#[]}] G L H:=by
 intro a W iW hD hF hS;have key:LeavesIn (FW none) 0 P fn a.tmps R a.defers .returning W:=by
  rw[hD];refine leavesIn_cons (f:=f) (args:=cap.toArray) zJ zJ (by simp[invoke,az _ W]) (λ_ _=>trivial) ?_;refine(hc W hS).mono ?_;rintro e u' w' ⟨rfl,⟨v,rfl⟩,hb⟩;exact⟨_,h.res hr hF (hS.step hb),hR w' (hS.step hb)⟩
 exact zHh
end
/-! ### several blocks that are lent -/
def keys (H:ad):List Nat:=H.map (·.1)
def pI (G:Gh) (L:List World):ad->Prop
 | []=>True
 |p::H=>Fr G L p.1/\pI G L H
theorem pI.mem{G:Gh}{L:List World}:∀{H:ad},pI G L H->∀p∈H,Fr G L p.1
 | [],_,p,hp=>by cases hp
 |q::H,h,p,hp=>by
  rcases bX.1 hp with rfl|hp
  ·exact h.1
  exact pI.mem h.2 p hp
theorem St.swapZ{Hz H0 Hn:ad}{W':World}(h:St G L (Hz++H0) W)(hk:aH (λk=>k∈keys Hz) W W')(jt:pI G L Hz)(hn:∀p∈Hn,W'.heap[p.1]? =some p.2/\(p.1∈keys Hz\/W.heap.size<=p.1))(hd:kV Hn):St G L (Hn++H0) W':=by
 have hnd:=(nX (Hz++H0)).1 h.nodup;rw[gb,List.nodup_append]at hnd;obtain⟨gA,eU,fF⟩:=hnd;have H2:∀p∈H0,p.1∉keys Hz:=λp hp hm=>fF p.1 hm p.1 (bY.2 ⟨p,hp,rfl⟩) rfl;have hH0:∀p∈H0,W'.heap[p.1]? =some p.2:=λp hp=>by
  rw[hk.block p.1 (h.lt p (by simp[hp])) (H2 p hp)];exact h.own p (by simp[hp])
 refine⟨?_,λk hv=>lZ (h.vlt k hv) hk.size,λk hv=>lZ (h.xlt k hv) hk.size,λw hw=>?_,λp hp=>?_,?_,λp hp=>?_⟩
 ·refine G.stab W W' h.ghost hk.os hk.tape hk.output hk.drawn hk.size (λk hv=>hk.block k (h.vlt k hv) λhm=>?_);obtain⟨p,hp,rfl⟩:=bY.1 hm;exact h.apart p (by simp[hp]) hv
 ·have hl:=h.links w hw;refine⟨hk.os.trans hl.os,hk.tape.trans hl.tape,hk.output.trans hl.output,dG hl.drawn hk.drawn,dG hl.size hk.size,λk hkw hx=>?_⟩;simp only[gb,bA,not_or]at hx;have hnz:k∉keys Hz:=λhm=>by
   obtain⟨p,hp,rfl⟩:=bY.1 hm;rcases jt.mem p hp with hf|hf
   ·exact hx.1 hf
   have:=hf.mem w hw;omega
  rw[hk.block k (lZ hkw hl.size) hnz];refine hl.block k hkw λhy=>?_;simp only[gb,bA]at hy;rcases hy with hy|hy|hy
  ·exact hx.1 hy
  ·exact hnz hy
  exact hx.2.2 hy
 ·rcases bA.1 hp with hp|hp
  ·exact(hn p hp).1
  exact hH0 p hp
 ·rw[nX,gb,List.nodup_append];refine⟨(nX Hn).1 hd,eU,λa ha b hb e=>?_⟩;subst e;obtain⟨p,hp,rfl⟩:=bY.1 ha;obtain⟨q,hq,e⟩:=bY.1 hb;rcases(hn p hp).2 with h1|h1
  ·exact H2 q hq (e▸h1)
  have:=h.lt q (by simp[hq]);omega
 rcases bA.1 hp with hp|hp
 ·intro hv;rcases(hn p hp).2 with h1|h1
  ·obtain⟨q,hq,e⟩:=bY.1 h1;exact h.apart q (by simp[hq]) (e▸hv)
  have:=h.vlt _ hv;omega
 exact h.apart p (by simp[hp])
def lU {α:Type} (w:World) (Z:List Nat) (v:α->Value) (Hn:α->ad) (Φ:α->Prop):Ending->World->Prop:=λe w'=>
 ∃x,e= .returned (v x)/\aH (λk=>k∈Z) w w'/\Φ x/\(∀p∈Hn x,w'.heap[p.1]? =some p.2/\(p.1∈Z\/w.heap.size<=p.1))/\kV (Hn x)
theorem GS{Hz:ad}(h:∀p∈Hz,w.heap[p.1]? =some p.2)(hd:kV Hz):St (Gh.lent (λk=>k∈keys Hz)) [w] Hz w where
 ghost:=trivial
 vlt:=λ_ h=>h.elim
 xlt:=λk hk=>by
  obtain⟨p,hp,rfl⟩:=bY.1 (show k∈keys Hz from hk);exact(aT.1 (h p hp)).1
 links:=λw' hw=>by simp at hw;subst hw;exact aH.refl _ _
 own:=h
 nodup:=hd
 apart:=λ_ _ h=>h.elim
def eY (w:World):ad->Prop
 | []=>True
 |p::H=>w.heap[p.1]? =some p.2/\eY w H
theorem eY.mem{w:World}:∀{H:ad},eY w H->∀p∈H,w.heap[p.1]? =some p.2
 | [],_,p,hp=>by cases hp
 |q::H,h,p,hp=>by
  rcases bX.1 hp with rfl|hp
  ·exact h.1
  exact eY.mem h.2 p hp
theorem D4(p:Nat×Obj):kV [p]:=by rw[nX];simp
theorem Vv{p q:Nat×Obj}(h:p.1≠q.1):kV [p,q]:=by rw[nX];simp[h]
def pO (Z:List Nat) (n:Nat):ad->Prop
 | []=>True
 |p::H=>(p.1∈Z\/n<=p.1)/\pO Z n H
theorem pO.mem{Z:List Nat}{n:Nat}:∀{H:ad},pO Z n H->∀p∈H,p.1∈Z\/n<=p.1
 | [],_,p,hp=>by cases hp
 |q::H,h,p,hp=>by
  rcases bX.1 hp with rfl|hp
  ·exact h.1
  exact pO.mem h.2 p hp
section
variable {C:Cx} {Q:aZ} {E:Env} {D:List Deferred} {G:Gh} {L:List World} {H:ad} {ops:Array Oper} {l:List Oper}
variable {d T ty f:Nat} {pos:String} {aC:Array Edge} {g:Option (Nat×Bool)} {x:Operand} {xs:List Operand} {vs:List Value} {eo:Array Nat} {fn:Func}
variable {ex:Exit} {rs:List ResultVar} {us:List Value}
theorem sW{α:Type}{v:α->Value}{Hn:α->ad}{Φ:α->Prop}{Hz H0:ad}(z:α)(he:ex= .ret\/ex= .normal)(hr:fn.results=rs.toArray)(h:RS C (Gh.lent (λk=>k∈keys Hz)) L (Hn z++H0) E rs us)(hw:w∈L)(ho:pO (keys Hz) w.heap.size (Hn z++H0))(hv:Mf us=v z)(hΦ:Φ z):PJ C (bodyPost C.P fn (lU w (keys Hz) v Hn Φ)) ex E [] (Gh.lent (λk=>k∈keys Hz)) L (Hn z++H0):=
 bM he hr h λW hS=>⟨z,by rw[hv],(hS.links w hw).mono (λk hk hx=>by
  rcases hx with hx|hx
  ·exact hx
  ·obtain⟨p,hp,rfl⟩:=bY.1 hx;rcases ho.mem p hp with h|h
   ·exact h
   omega),hΦ,λp hp=>⟨hS.own p (by simp[hp]),ho.mem p (by simp[hp])⟩,by
  have:=(nX _).1 hS.nodup;rw[gb,List.nodup_append]at this;exact(nX _).2 this.1⟩
variable {cap first:List Value}
theorem Cf{α:Type}{v:α->Value}{Hn:α->ad}{Φ:α->Prop}{Hz H0:ad}(hH:H=Hz++H0)(hx:ev E x=some (.func (.func f) first.toArray cap.toArray))(az:eg C.P f)(hw:nl ops E g=some true)(hN:Nat.blt d C.N=true)(ha:iV E xs=some vs)(jt:pI G L Hz)(hc:∀W,St G L (Hz++H0) W->Calls C.P f (first++vs++cap).toArray W (lU W (keys Hz) v Hn Φ))(k:∀z,Φ z->(∀p∈Hn z,p.1∈keys Hz\/(ae L p.1/\aY H p.1))->OJ C ops Q l ((d,v z)::E) D G L (Hn z++H0)):OJ C ops Q (⟨some d,.call ⟨.value x,xs.toArray,eo⟩,ty,pos,aC,g⟩::l) E D G L H:=by
 subst hH;exact nI rfl hw hx ha zJ az λa W iW hD hF hS=>(hc W hS).mono (by
  rintro ed W' ⟨z,rfl,hk,hΦ,hn,hd⟩;refine k z hΦ (λp hp=>?_) (a.put (some d) (v z)) W' z7 z5 (hF.put _ z6) (hS.swapZ hk jt hn hd);rcases(hn p hp).2 with h|h
  ·exact .inl h
  exact .inr ⟨CZ hS h,C5 hS h⟩)
variable {H':ad}
theorem CJ.prm{c:Code}(hp:H.Perm H')(k:CJ C c Q E D G L H'):CJ C c Q E D G L H:=λa W hN hD hF hS=>k a W hN hD hF (hS.perm hp)
variable {i j:Nat}
theorem npd{p q:Nat×Obj}(hi:H[i]? =some p)(hj:H[j]? =some q)(uy:i≠j)(k:p.1≠q.1->OJ C ops Q l E D G L H):OJ C ops Q l E D G L H:=
 λa W hN hD hF hS=>k (λe=>uy (hS.nodup i j p q hi hj e)) a W hN hD hF hS
end
/-! ### equality of plain data -/
inductive TK where|i|b|s
def PY:Value->Value->Bool
 | .int _ a,.int _ b=>a==b
 | .bool a,.bool b=>a==b
 | .string a,.string b=>a.toList==b.toList
 |_,_=>false
def O1:TK->Value->Value->Bool
 | .i,.int k _,.int k' _=>decide (k=k')
 | .b,.bool _,.bool _=>true
 | .s,.string _,.string _=>true
 |_,_,_=>false
def oi:List Value->List Value->Bool
 |x::xs,y::ys=>PY x y&&oi xs ys
 |_,_=>true
def jW:List TK->List Value->List Value->Bool
 |k::ks,x::xs,y::ys=>O1 k x y&&jW ks xs ys
 | [],[],[]=>true
 |_,_,_=>false
theorem H3{k:TK}{x y:Value}(h:O1 k x y=true):PY x x=true:=by cases k<;>cases x<;>cases y<;>simp_all[O1,PY]
theorem nfm:∀{ks:List TK} {xs ys:List Value},jW ks xs ys=true->oi xs xs=true
 | [],[],_,_=>rfl
 |k::ks,x::xs,y::ys,h=>by
  simp only[jW,oh]at h;simp only[oi,H3 h.1,nfm h.2,Bool.and_self]
 |_::_,[],_,_=>rfl
 |_::_,_::_,[],h=>by simp[jW]at h
 | [],_::_,_,h=>by simp[jW]at h
theorem nBh:∀{ks:List TK} {xs ys:List Value},jW ks xs ys=true->xs.length=ks.length/\ys.length=ks.length
 | [],[],[],_=>⟨rfl,rfl⟩
 |k::ks,x::xs,y::ys,h=>by
  simp only[jW,oh]at h;have:=nBh h.2;simp[this.1,this.2]
 | [],_::_,_,h=>by simp[jW]at h
 | [],[],_::_,h=>by simp[jW]at h
 |_::_,[],_,h=>by simp[jW]at h
 |_::_,_::_,[],h=>by simp[jW]at h
theorem Zh:∀{a b c d:List Value},a.length=c.length->oi (a++b) (c++d)=(oi a c&&oi b d)
 | [],b,[],d,_=>by simp[oi]
 |x::a,b,y::c,d,h=>by
  simp only[gi,oi];rw[Zh Bp,Bool.and_assoc]
 | [],b,y::c,d,h=>by simp at h
 |x::a,b,[],d,h=>by simp at h
theorem nVf:∀{k1 k2:List TK} {a b c d:List Value},a.length=k1.length->c.length=k1.length->jW (k1++k2) (a++b) (c++d)=(jW k1 a c&&jW k2 b d)
 | [],k2,[],b,[],d,_,_=>by simp[jW]
 |k::k1,k2,x::a,b,y::c,d,h,h'=>by
  simp only[gi,jW];rw[nVf Bp (by simpa using h'),Bool.and_assoc]
 | [],k2,x::a,b,c,d,h,h'=>by simp at h
 | [],k2,[],b,y::c,d,h,h'=>by simp at h'
 |k::k1,k2,[],b,c,d,h,h'=>by simp at h
 |k::k1,k2,x::a,b,[],d,h,h'=>by simp at h'
def um (P:Program) (k t:Nat) (ks:List TK):Prop:=∀(d:Nat) (xs ys:List Value) (w:World),jW ks xs ys=true->(Op.equalIn (d+k) t (.agg xs.toArray) (.agg ys.toArray)).run P w= .ok (oi xs ys) w
def kY (P:Program) (k t:Nat) (ks:List TK):Prop:=∀(d:Nat) (p1 c1 q1 p2 c2 q2:List Value) (w:World),p1.length=p2.length->jW ks c1 c2=true->
 ∃a b,(part t (p1++(c1++q1)).toArray p1.length).run P w= .ok a w/\(part t (p2++(c2++q2)).toArray p1.length).run P w= .ok b w/\(Op.equalIn (d+k) t a b).run P w= .ok (oi c1 c2) w
variable {ks:List TK} {k t:Nat}
theorem um.up{k':Nat}(h:um P k t ks)(hk:k<=k'):um P k' t ks:=λd xs ys w h1=>by
 have:=h (d+(k'-k)) xs ys w h1;rwa[show d+(k'-k)+k=d+k' by omega]at this
theorem kY.up{k':Nat}(h:kY P k t ks)(hk:k<=k'):kY P k' t ks:=λd p1 c1 q1 p2 c2 q2 w h1 h2=>by
 have:=h (d+(k'-k)) p1 c1 q1 p2 c2 q2 w h1 h2;rwa[show d+(k'-k)+k=d+k' by omega]at this
theorem kY.one{k:TK}(hA:ey P t false)(h:∀(d:Nat) (v u:Value) (w:World),O1 k v u=true->(Op.equalIn (d+1) t v u).run P w= .ok (PY v u) w):kY P 1 t [k]:=by
 intro d p1 c1 q1 p2 c2 q2 w h1 h2
 match c1,c2,h2 with
 | [v],[u],h2=>
  simp only[jW,Bool.and_true]at h2;refine⟨v,u,by simp[part,hA w],by rw[h1];simp[part,hA w],?_⟩;rw[h d v u w h2];simp[oi]
 | [],_,h2=>simp[jW]at h2
 | [_],[],h2=>simp[jW]at h2
 |_::_::_,[],h2=>simp[jW]at h2
 | [_],_::_::_,h2=>simp[jW]at h2
 |_::_::_,_::_,h2=>simp[jW]at h2
theorem kY.int{K:IntKind}(hU:P.underlying t=some (.int K))(hA:ey P t false):kY P 1 t [.i]:=kY.one hA (by
 intro d v u w h;cases v<;>cases u<;>simp only[O1,Bool.false_eq_true]at h
 rename_i k a k' b;have:k=k':=by simpa using h
 subst this;rw[run_equalIn_int w d t k K a b hU];rfl)
theorem kY.bool(hU:P.underlying t=some .bool)(hA:ey P t false):kY P 1 t [.b]:=kY.one hA (by
 intro d v u w h;cases v<;>cases u<;>simp only[O1,Bool.false_eq_true]at h
 rw[run_equalIn_bool' w d t _ _ hU];rfl)
theorem kY.str(hU:P.underlying t=some .string)(hA:ey P t false):kY P 1 t [.s]:=kY.one hA (by
 intro d v u w h;cases v<;>cases u<;>simp only[O1,Bool.false_eq_true]at h
 rw[run_equalIn_string w d t _ _ hU];rfl)
theorem kY.agg{n:Nat}(hA:ey P t true)(hZ:nJ P t n)(hn:ks.length=n)(h:um P k t ks):kY P k t ks:=by
 intro d p1 c1 q1 p2 c2 q2 w h1 h2;have hl:=nBh h2;have abQ:∀(p c q:List Value),c.length=n->(p++(c++q)).toArray.extract p.length (p.length+n)=c.toArray:=by
  intro p c q hc;apply Array.ext';rw[Array.toList_extract,List.extract_eq_take_drop];simp only[Nat.add_sub_cancel_left];rw[List.drop_left' rfl,<-hc,PU rfl]
 refine⟨.agg c1.toArray,.agg c2.toArray,?_,?_,h d c1 c2 w h2⟩
 ·simp only[part,Sem.run_bind,hA w,hZ w,Result.andThen,if_true,Sem.run_pure];rw[abQ p1 c1 q1 aa]
 simp only[part,Sem.run_bind,hA w,hZ w,Result.andThen,if_true,Sem.run_pure];rw[h1,abQ p2 c2 q2 aa]
def o9 (P:Program) (k:Nat):List Field->Nat->List TK->Prop
 | [],_,ks=>ks=[]
 |f::fs,off,ks=>∃k1 k2,ks=k1++k2/\f.offset=off/\(f.name≠ "_")/\kY P k f.type k1/\o9 P k fs (off+k1.length) k2
theorem o9.n{off:Nat}:o9 P k [] off []:=rfl
theorem o9.c{off:Nat}{f:Field}{fs:List Field}{k1 k2:List TK}(ho:f.offset=off)(hn:f.name≠ "_")(h:kY P k f.type k1)(t:o9 P k fs (off+k1.length) k2):o9 P k (f::fs) off (k1++k2):=⟨k1,k2,rfl,ho,hn,h,t⟩
theorem nVl{P:Program}{k:Nat}(d:Nat):∀(fs:List Field) (ks:List TK) (p1 c1 p2 c2:List Value) (w:World),p1.length=p2.length->o9 P k fs p1.length ks->jW ks c1 c2=true->(Op.eqFields (d+k) (p1++c1).toArray (p2++c2).toArray fs).run P w= .ok (oi c1 c2) w
 | [],ks,p1,c1,p2,c2,w,_,h,hs=>by
  cases h
  match c1,c2,hs with
  | [],[],_=>simp[Op.eqFields,oi]
  |_::_,_,hs=>simp[jW]at hs
  | [],_::_,hs=>simp[jW]at hs
 |f::fs,ks,p1,c1,p2,c2,w,hp,h,hs=>by
  obtain⟨k1,k2,rfl,ho,hn,hf,ht⟩:=h;have hl:=nBh hs;simp only[ck]at hl;obtain⟨a1,b1,rfl,fX⟩:∃a b,c1=a++b/\a.length=k1.length:=⟨c1.take k1.length,c1.drop k1.length,(AH _ _).symm,by simp;omega⟩;obtain⟨a2,b2,rfl,dx⟩:∃a b,c2=a++b/\a.length=k1.length:=⟨c2.take k1.length,c2.drop k1.length,(AH _ _).symm,by simp;omega⟩;rw[nVf fX dx,oh]at hs;obtain⟨x,y,hx,hy,he⟩:=hf d p1 a1 b1 p2 a2 b2 w hp hs.1;have ih:=nVl d fs k2 (p1++a1) b1 (p2++a2) b2 w (by simp[hp,fX,dx]) (by rw[ck,fX];exact ht) hs.2;simp only[iP]at ih;have hx':(part f.type (p1++(a1++b1)).toArray f.offset).run P w= .ok x w:=by rw[ho];exact hx
  have hy':(part f.type (p2++(a2++b2)).toArray f.offset).run P w= .ok y w:=by rw[ho];exact hy
  rw[Zh aa];simp only[Op.eqFields,if_pos hn,Sem.run_bind,hx',hy',he,Result.andThen];cases hq:oi a1 a2 with
  |false=>simp[Sem.run]
  |true=>
   simp only[Bool.not_true,Bool.false_eq_true,if_false,Bool.true_and];exact ih
theorem um.struct{fs:List Field}(hU:P.underlying t=some (.struct fs.toArray))(hp:P.stoodInHeld t=false)(h:o9 P k fs 0 ks):um P (k+1) t ks:=by
 intro d xs ys w hs;have hf:P.fieldsOf t=fs.toArray:=by simp[Program.fieldsOf,hU]
 rw[<-Nat.add_assoc,run_equalIn_struct w (d+k) t xs.toArray ys.toArray (by rw[hf];exact hU) hp,hf];exact nVl d fs ks [] xs [] ys w rfl h hs
def lM:Nat->List TK->List TK
 |0,_=>[]
 |n+1,ks=>ks++lM n ks
variable {e:Nat}
theorem um.array{len m:Nat}(hU:P.underlying t=some (.array len e))(hZ:nJ P e m)(hm:ks.length=m)(h:kY P k e ks):um P (k+1) t (lM len ks):=by
 intro d xs ys w hs;have key:∀(n i:Nat) (p1 c1 p2 c2:List Value),p1.length=i*m->p2.length=i*m->jW (lM n ks) c1 c2=true->
  (do
   for j in List.range' i n do
    if !(<-Op.equalIn (d+k) e (<-part e (p1++c1).toArray (j*m)) (<-part e (p2++c2).toArray (j*m)))then return false
   pure true:Sem Bool).run P w= .ok (oi c1 c2) w:=by
  intro n;induction n with
  |zero=>
   intro i p1 c1 p2 c2 _ _ hs
   match c1,c2,hs with
   | [],[],_=>simp[oi]
   |_::_,_,hs=>simp[lM,jW]at hs
   | [],_::_,hs=>simp[lM,jW]at hs
  |succ n ih=>
   intro i p1 c1 p2 c2 Ft Rm hs;have hl:=nBh hs;simp only[lM,ck]at hl;obtain⟨a1,b1,rfl,fX⟩:∃a b,c1=a++b/\a.length=ks.length:=⟨c1.take ks.length,c1.drop ks.length,(AH _ _).symm,by simp;omega⟩;obtain⟨a2,b2,rfl,dx⟩:∃a b,c2=a++b/\a.length=ks.length:=⟨c2.take ks.length,c2.drop ks.length,(AH _ _).symm,by simp;omega⟩;simp only[lM]at hs;rw[nVf fX dx,oh]at hs;obtain⟨x,y,hx,hy,he⟩:=h d p1 a1 b1 p2 a2 b2 w aa hs.1;rw[Ft]at hx hy;have ih':=ih (i+1) (p1++a1) b1 (p2++a2) b2 (by rw[ck,Ft,fX,hm,pE];omega) (by rw[ck,Rm,dx,hm,pE];omega) hs.2;simp only[iP]at ih';rw[Zh aa];simp only[List.range'_succ,List.forIn_cons,Sem.run_bind,hx,hy,he,Result.andThen]at ih' ⊢;cases hq:oi a1 a2 with
   |false=>simp[Sem.run]
   |true=>
    simp only[Bool.not_true,Bool.false_eq_true,if_false,Bool.true_and,Sem.run_pure];exact ih'
 have:=key len 0 [] xs [] ys zJ zJ hs;simp only[ef]at this;rw[<-Nat.add_assoc];simp only[Op.equalIn,Sem.run_bind,run_underlying hU,Result.andThen_ok,hZ w];all_goals simp_all
section
variable {C:Cx} {E:Env} {G:Gh} {L:List World} {H:ad} {T U:Nat} {x y:Operand}
theorem oZ{kL bs:Array Value}(h:um C.P k T ks)(hk:Nat.ble k 10000=true)(hg:C.P.eqGuardType C.P.depth T=false)(hx:ev E x=some (.agg kL))(hy:ev E y=some (.agg bs))(hs:jW ks kL.toList bs.toList=true):RV C G L H E (.binOp .eql T x y U) (.bool (oi kL.toList bs.toList)):=λd ty pos aC g a W hF _=>by
 have h1:=h (10000-k) kL.toList bs.toList W hs;rw[show 10000-k+k=10000 by have:=dO hk;omega]at h1;simp only[Array.toArray_toList]at h1;have h2:=run_eql_struct (P:=C.P) W T kL bs;rw[h1]at h2;have h3:=run_eqGuard_agg (P:=C.P) W .eql T x y kL bs hg;simp only[execOp,hF.ev hx,hF.ev hy,Sem.run_bind,h3,h2,Result.andThen];rfl
theorem er{kL bs:Array Value}(h:um C.P k T ks)(hk:Nat.ble k 10000=true)(hg:C.P.eqGuardType C.P.depth T=false)(hx:ev E x=some (.agg kL))(hy:ev E y=some (.agg bs))(hs:jW ks kL.toList bs.toList=true):RV C G L H E (.binOp .neq T x y U) (.bool (!oi kL.toList bs.toList)):=λd ty pos aC g a W hF _=>by
 have h1:=h (10000-k) kL.toList bs.toList W hs;rw[show 10000-k+k=10000 by have:=dO hk;omega]at h1;simp only[Array.toArray_toList]at h1;have h2:=run_neq_struct (P:=C.P) W T kL bs;rw[h1]at h2;have h3:=run_eqGuard_agg (P:=C.P) W .neq T x y kL bs hg;simp only[execOp,hF.ev hx,hF.ev hy,Sem.run_bind,h3,h2,Result.andThen];rfl
theorem nKn{T:Nat}(hU:P.underlying T=some (.slice e))(n c:Nat)(d:Nat)(W:World):(Op.equalIn (d+1) T (.slice none n c) (.slice none 0 0)).run P W= .ok true W:=by
 simp[Op.equalIn,run_underlying hU]
theorem S0(hU:C.P.underlying T=some (.slice e))(hx:ev E x=some (.slice none 0 0))(hy:ev E y=some (.slice none 0 0)):RV C G L H E (.binOp .eql T x y U) (.bool true):=λd ty pos aC g a W hF _=>by
 have h1:(eqGuard .eql T x y (.slice none 0 0) (.slice none 0 0)).run C.P W= .ok () W:=by simp[eqGuard]
 have h2:(binOp .eql T (.slice none 0 0) (.slice none 0 0)).run C.P W= .ok (.bool true) W:=by
  have e:binOp .eql T (.slice none 0 0) (.slice none 0 0)=(do pure (.bool (<-Op.equalIn (9999+1) T (.slice none 0 0) (.slice none 0 0)))):=rfl;rw[e,Sem.run_bind,nKn hU];rfl
 exact zfh
end
theorem VK{kt:Nat}(hK:P.underlying kt=some (.int .i64))(b:Bool)(k:Int):(Instr.checkKey b 10000 kt (.int .i64 k)).run P W= .ok () W:=by
 show(Instr.checkKey b (9999+1) kt (.int .i64 k)).run P W= .ok () W;generalize 9999=n;simp[Instr.checkKey,run_underlying hK]
variable {es:Array MapEntry} {b:Nat}
theorem H4{c:Nat}(h:W.heap[b]? =some (.map es c)):(getObj b).run P W= .ok (.map es c) W:=by simp[getObj,Sem.run,h]
theorem VL{c:Nat}(o':Obj)(h:W.heap[b]? =some (.map es c)):(setObj b o').run P W= .ok () (W.putObj b o'):=by simp[setObj,Sem.run,h,World.putObj]
section
variable {C:Cx} {Q:aZ} {E:Env} {D:List Deferred} {G:Gh} {L:List World} {H:ad} {ops:Array Oper} {l:List Oper}
variable {d T ty:Nat} {pos:String} {aC:Array Edge} {g:Option (Nat×Bool)} {x y z:Operand}
def bB (G:Gh) (L:List World) (H:ad) (b:Nat) (o:Obj):Prop:=∀W,St G L H W->W.heap[b]? =some o
variable {i:Nat} {o:Obj}
theorem bB.own(hi:H[i]? =some (b,o)):bB G L H b o:=λ_ hS=>hS.own _ (cP hi)
theorem bB.old(hm:w∈L)(hb:w.heap[b]? =some o)(hG:¬G.X b)(hO:aY H b):bB G L H b o:=λ_ hS=>hS.old hm hb hG hO
end
def ai {α:Type} (enc:α->Array Value) (n N:Nat) (w:World) (a:Option Addr) (xs:List α):Prop:=
 xs=[]\/∃b off cs t fr,a=some ⟨b,off,none⟩/\b<N/\w.heap[b]? =some (.cells cs t fr)/\∀i (h:i<xs.length),off+i*n+n<=cs.size/\cut cs (off+i*n) n=enc xs[i]
section
variable {α:Type} {enc:α->Array Value} {n N N':Nat} {w w':World} {a:Option Addr} {xs:List α}
theorem ai.up(h:ai enc n N w a xs)(hN:N<=N')(hw:∀k,k<N->w'.heap[k]? =w.heap[k]?):ai enc n N' w' a xs:=by
 rcases h with h|⟨b,off,cs,t,fr,h1,h2,h3,h4⟩
 ·exact .inl h
 exact .inr ⟨b,off,cs,t,fr,h1,by omega,(hw b h2).trans h3,h4⟩
theorem ai.get(h:ai enc n N w a xs)(hx:0<xs.length):∃b off cs t fr,a=some ⟨b,off,none⟩/\b<N/\w.heap[b]? =some (.cells cs t fr)/\∀i (h:i<xs.length),off+i*n+n<=cs.size/\cut cs (off+i*n) n=enc xs[i]:=by
 rcases h with rfl|h
 ·simp at hx
 exact h
variable {cs:Array Value} {fr:Nat×Nat}
theorem ai.block(hb:b<N)(h:w.heap[b]? =some (.cells cs t fr))(hx:∀i (h:i<xs.length),i*n+n<=cs.size/\cut cs (i*n) n=enc xs[i]):ai enc n N w (some ⟨b,0,none⟩) xs:=
 .inr ⟨b,0,cs,t,fr,rfl,hb,h,λi hi=>by rw[lE];exact hx i hi⟩
end
variable {cs:Array Value}
theorem uS{n:Nat}{r:Array Value}(h:cut cs k n=r)(j:Nat)(hj:j<n):cs[k+j]? =r[j]? :=by grind [cut]
section
variable {α:Type} {enc:α->Array Value} {n off:Nat} {cs:Array Value} {xs:List α}
variable {j:Nat}
theorem yQ(h:∀i (h:i<xs.length),off+i*n+n<=cs.size/\cut cs (off+i*n) n=enc xs[i]){x:α}(hj:xs[j]? =some x){i:Int}(hi:i=(j:Int))(k:Nat)(hk:k<n):cs[off+i.toNat*n+k]? =(enc x)[k]? :=by
 obtain⟨h1,h2⟩:=gX.1 hj;subst hi;rw[yB,uS (h j h1).2 k hk,h2]
theorem nN(h:∀i (h:i<xs.length),off+i*n+n<=cs.size/\cut cs (off+i*n) n=enc xs[i]){x:α}(hj:xs[j]? =some x){i:Int}(hi:i=(j:Int))(hn:0<n):cs[off+i.toNat*n]? =(enc x)[0]? :=by
 have:=yQ h hj hi 0 hn;rwa[Nat.add_zero]at this
theorem eK(h:∀i (h:i<xs.length),off+i*n+n<=cs.size/\cut cs (off+i*n) n=enc xs[i]){x:α}(hj:xs[j]? =some x){i:Int}(hi:i=(j:Int)):cut cs (off+i.toNat*n) n=enc x:=by grind
theorem dE(h:∀i (h:i<xs.length),off+i*n+n<=cs.size/\cut cs (off+i*n) n=enc xs[i]){x:α}(hj:xs[j]? =some x){i:Int}(hi:i=(j:Int)):off+i.toNat*n+n<=cs.size:=by grind
end
def encI (x:Int):Array Value:=#[.int .i64 x]
variable {j:Nat}
theorem np{α:Type}{xs:List α}{x:α}(h:xs[j]? =some x):xs.take (j+1)=xs.take j++[x]:=by
 obtain⟨h1,h2⟩:=gX.1 h;rw[Ni h1,h2]
theorem ng{α:Type}(xs:List α)(j:Nat)(h:j<xs.length):∃x,xs[j]? =some x:=⟨_,kx h⟩
theorem nr{α:Type}{xs:List α}{x:α}(h:xs[j]? =some x):j<xs.length:=(gX.1 h).1
section
variable {C:Cx} {Q:aZ} {fn:Func} {R:Ending->World->Prop} {E:Env} {D:List Deferred} {G:Gh} {L L':List World} {H:ad} {e:Exit}
theorem BH(h:∀w∈L',w∈L)(k:PJ C Q e E D G L' H):PJ C Q e E D G L H:=λa W hN hD hF hS=>k a W hN hD hF (hS.lessL h)
end
section
variable {C:Cx} {E:Env} {G:Gh} {L:List World} {H:ad} {T:Nat} {x y:Operand}
end
theorem QK{C:Cx}{E:Env}{T U:Nat}{x y:Operand}{a b:Bool}(hU:C.P.underlying T=some .bool)(hx:ev E x=some (.bool a))(hy:ev E y=some (.bool b)):RV C G L H E (.binOp .eql T x y U) (.bool (a==b)):=λd ty pos aC g ac W hF _=>by
 have h1:(Op.equalIn (9999+1) T (.bool a) (.bool b)).run C.P W= .ok (a==b) W:=by
  generalize 9999=n;simp[Op.equalIn,run_underlying hU]
 have h2:(binOp .eql T (.bool a) (.bool b)).run C.P W= .ok (.bool (a==b)) W:=by
  have e:binOp .eql T (.bool a) (.bool b)=(do pure (.bool (<-Op.equalIn (9999+1) T (.bool a) (.bool b)))):=rfl;rw[e,Sem.run_bind,h1];rfl
 have h3:(eqGuard .eql T x y (.bool a) (.bool b)).run C.P W= .ok () W:=by simp[eqGuard]
 simp only[execOp,hF.ev hx,hF.ev hy,Sem.run_bind,h3,h2,Result.andThen];rfl
section
variable {H:Type} {enc:TypeId×Value->H} {P:Program} {w:World} {held:Bool}
end
/-! ### rows of elements: a list that grows from nil -/
/-- the cells of a list of elements -/
def gN {α:Type} (enc:α->List Value) (xs:List α):List Value:=xs.flatMap enc
theorem nW{α:Type}{enc:α->List Value}{m:Nat}(h:∀x,(enc x).length=m)(xs:List α):(gN enc xs).length=xs.length*m:=by induction xs<;>grind [gN]
theorem NC{α:Type}(enc:α->List Value)(xs ys:List α):gN enc (xs++ys)=gN enc xs++gN enc ys:=by simp[gN]
theorem M1{α:Type}(enc:α->List Value)(x:α):gN enc [x]=enc x:=by simp[gN]
theorem Yw{α:Type}{enc:α->List Value}{m:Nat}(h:∀x,(enc x).length=m):∀(xs:List α) (sp:List Value) (i:Nat) (hi:i<xs.length),((gN enc xs++sp).drop (i*m)).take m=enc xs[i]
 | [],_,i,hi=>by simp at hi
 |x::xs,sp,0,_=>by
  simp only[gN,Uu,Nat.zero_mul,SM,iP,List.getElem_cons_zero];rw[PU (h x)]
 |x::xs,sp,i+1,hi=>by
  have:=Yw h xs sp i (by simpa using hi);simp only[gN,Uu,iP,List.getElem_cons_succ]at *;rw[show(i+1)*m=m+i*m by rw[pE];omega,<-List.drop_drop,List.drop_left' (h x)];exact this
theorem H5{α:Type}{enc:α->List Value}(h:∀x,∀u∈enc x,u.oneCell'=true)(xs:List α):∀u∈gN enc xs,u.oneCell'=true:=by
 intro u hu;obtain⟨x,_,hx⟩:=Tc.1 hu;exact h x u hx
inductive Rw where
 |nil
 |row (b cap:Nat) (sp:List Value)
def Rw.val (n:Nat):Rw->Value
 | .nil=>.slice none 0 0
 | .row b cap _=>.slice (some ⟨b,0,none⟩) n cap
theorem Rw.val_cells(n:Nat)(r:Rw):(r.val n).cells=#[r.val n]:=by cases r<;>rfl
theorem Rw.val_size(n:Nat)(r:Rw):(r.val n).cells.size=1:=by cases r<;>rfl
theorem Rw.val_one(n:Nat)(r:Rw):aV (r.val n).cells.toList=true:=by cases r<;>rfl
abbrev aO {α:Type} (enc:α->List Value) (t:Nat) (xs:List α) (sp:List Value):Obj:=.cells (gN enc xs++sp).toArray t (0,0)
def Rw.hp {α:Type} (enc:α->List Value) (t:Nat) (xs:List α):Rw->ad
 | .nil=>[]
 | .row b _ sp=>[(b,aO enc t xs sp)]
def Rw.Fit {α:Type} (m:Nat) (xs:List α):Rw->Prop
 | .nil=>xs=[]
 | .row _ cap sp=>xs.length<=cap/\sp.length=(cap-xs.length)*m
def Rw.Fr (G:Gh) (L:List World):Rw->Prop
 | .nil=>True
 | .row b _ _=>Px.Fr G L b
def Rw.ge (n:Nat):Rw->Prop
 | .nil=>True
 | .row b _ _=>n<=b
def Rw.isAt (k:Nat):Rw->Prop
 | .nil=>False
 | .row b _ _=>b=k
variable {r:Rw}
theorem Rw.Fr_at(h:r.Fr G L)(hk:r.isAt k):Px.Fr G L k:=by
 cases r with
 |nil=>exact hk.elim
 |row b cap sp=>cases hk;exact h
theorem Rw.ge_at{n:Nat}(h:r.ge n)(hk:r.isAt k):n<=k:=by
 cases r with
 |nil=>exact hk.elim
 |row b cap sp=>cases hk;exact h
def Rw.At {α:Type} (enc:α->List Value) (t:Nat) (xs:List α) (w:World):Rw->Prop
 | .nil=>True
 | .row b _ sp=>w.heap[b]? =some (aO enc t xs sp)
theorem Rw.mem_at{α:Type}{enc:α->List Value}{xs:List α}(hk:r.isAt k):k∈(r.hp enc t xs).map (·.1):=by
 cases r with
 |nil=>exact hk.elim
 |row b cap sp=>cases hk;simp[Rw.hp]
theorem Rw.off_ge{α:Type}{enc:α->List Value}{n:Nat}{xs:List α}(h:r.ge n)(hk:k<n):aY (r.hp enc t xs) k:=by
 cases r with
 |nil=>trivial
 |row b cap sp=>exact⟨by have:n<=b:=h;omega,trivial⟩
theorem Rw.ge_mono{n n':Nat}(h:r.ge n)(hn:n'<=n):r.ge n':=by
 cases r with
 |nil=>trivial
 |row b cap sp=>exact dG hn h
theorem Rw.over{α:Type}{enc:α->List Value}{n:Nat}{xs:List α}(h:r.ge n):Over n (r.hp enc t xs):=by
 cases r with
 |nil=>trivial
 |row b cap sp=>exact⟨h,trivial⟩
variable {H':ad}
theorem aY.append(h:aY H k)(h':aY H' k):aY (H++H') k:=by
 induction H with
 |nil=>exact h'
 |cons p H ih=>exact⟨h.1,ih h.2⟩
theorem jB:aY (H++H') k↔aY H k/\aY H' k:=by induction H<;>grind [aY]
theorem nD:Over k (H++H')↔Over k H/\Over k H':=by induction H<;>grind [Over]
theorem Over.append(h:Over k H)(h':Over k H'):Over k (H++H'):=by
 induction H with
 |nil=>exact h'
 |cons p H ih=>exact⟨h.1,ih h.2⟩
theorem Fr.ge(h:Px.Fr G L b)(hX:¬G.X b)(hw:w∈L):w.heap.size<=b:=by
 rcases h with h|h
 ·exact absurd h hX
 exact h.mem w hw
theorem Rw.ge_of(h:r.Fr Gh.no L)(hw:w∈L):r.ge w.heap.size:=by
 cases r with
 |nil=>trivial
 |row b cap sp=>exact Fr.ge (G:=Gh.no) h zL hw
theorem Rw.mem_ge{α:Type}{enc:α->List Value}{n:Nat}{xs:List α}(h:r.ge n)(hk:k∈(r.hp enc t xs).map (·.1)):n<=k:=by
 cases r with
 |nil=>simp[Rw.hp]at hk
 |row b cap sp=>simp[Rw.hp]at hk;subst hk;exact h
structure iR (P:Program) (t e m:Nat):Prop where
 und:P.underlying t=some (.slice e)
 info:∃ti z,P.info? e=some ti/\ti.zero=some z/\ti.size=m/\z.cells.size=m/\ti.bytes<=100000
section
variable {C:Cx} {Q:aZ} {E:Env} {D:List Deferred} {G:Gh} {L:List World} {H H0 H1:ad} {ops:Array Oper} {l:List Oper}
variable {d T ty f:Nat} {pos:String} {aC:Array Edge} {g:Option (Nat×Bool)} {x y:Operand} {xo:List Operand} {vs:List Value} {eo:Array Nat}
variable {α:Type} {enc:α->List Value} {m:Nat}
def bO (C:Cx) (G:Gh) (L:List World) (H:ad) (enc:α->List Value) (m tx:Nat) (sv:Value) (zs:List α):Prop:=oM C G L H m tx sv zs.length (gN enc zs)
variable {tx:Nat} {fr:Nat×Nat}
theorem bO.at{e' off c:Nat}{zs:List α}(hm:∀x,(enc x).length=m)(h1:∀x,∀u∈enc x,u.oneCell'=true)(hU:C.P.underlying tx=some (.slice e'))(hb:bB G L H b (.cells cs t fr))(hn:off+zs.length*m<=cs.size)(he:(cs.toList.drop off).take (zs.length*m)=gN enc zs):bO C G L H enc m tx (.slice (some ⟨b,off,none⟩) zs.length c) zs:=
 oM.sl hU (λW hS=>by rw[nrh (hb W hS) hn];unfold cut;rw[he]) (nW hm zs) (H5 h1 zs)
theorem bO.one{e' c:Nat}{z:α}(hm:∀x,(enc x).length=m)(h1:∀x,∀u∈enc x,u.oneCell'=true)(hU:C.P.underlying tx=some (.slice e'))(hb:bB G L H b (.cells (enc z).toArray t fr)):bO C G L H enc m tx (.slice (some ⟨b,0,none⟩) 1 c) [z]:=
 bO.at (zs:=[z]) hm h1 hU hb (by simp[hm]) (by simp only[SM,List.length_singleton,Nat.one_mul,M1];rw[<-hm z];exact vW)
variable {sv:Value}
theorem jS{xs zs:List α}(hH:H=H0++(r.hp enc e xs++H1))(hT:iR C.P t e m)(hm:∀x,(enc x).length=m)(hw:nl ops E g=some true)(hN:Nat.blt d C.N=true)(hx:ev E x=some (r.val xs.length))(hy:ev E y=some sv)(hs:bO C G L H enc m tx sv zs)(hr:r.Fit m xs)(hf:r.Fr G L)(h0:0<zs.length)(iO:xs.length+zs.length<=1000000)(k:∀(b' aR:Nat) (bU:List Value),(r.isAt b'\/ae L b')->(Rw.row b' aR bU).Fit m (xs++zs)->OJ C ops Q l ((d,.slice (some ⟨b',0,none⟩) (xs++zs).length aR)::E) D G L (H0++((b',aO enc e (xs++zs) bU)::H1))):OJ C ops Q (⟨some d,.call ⟨.builtin .append,#[x,y],#[t,tx]⟩,ty,pos,aC,g⟩::l) E D G L H:=
 qB zJ hw hN λa W hF hS=>by
  obtain⟨ti,z,qm,hz,kP,AA,qx⟩:=hT.info;have hl:(xs++zs).length=xs.length+zs.length:=ck;have hB:(xs.length+zs.length)*ti.bytes<=140737488355328:=dG (Nat.mul_le_mul iO qx) zB;cases r with
  |nil=>
   have sG:xs=[]:=hr;subst sG;rw[fb,lE]at hB;obtain⟨aR,bU,W',fK,gF,Ah,jQ⟩:=hS.appN (P:=C.P) (ty:=ty) hT.und qm hz kP AA (hs.src hS) h0 aa hB;refine⟨.slice (some ⟨W.heap.size,0,none⟩) zs.length aR,W',L,H0++((W.heap.size,aO enc e ([]++zs) bU)::H1),?_,?_,?_⟩
   ·have hxx:ev E x=some (.slice none 0 0):=hx;simp[execOp,hF.ev hxx,hF.ev hy,resolve,invoke,Deferred.ofValue,builtin,fK]
   ·rw[hH]at gF;exact gF.perm (by simpa[Rw.hp,ef]using List.perm_middle.symm)
   exact k _ _ _ (.inr hS.sizes) ⟨by simpa using Ah,by simpa using jQ⟩
  |row b cap sp=>
   obtain⟨hc,vG⟩:=hr;have hi:H[H0.length]? =some (b,.cells (gN enc xs++sp).toArray e (0,0)):=by rw[hH];simp[Rw.hp]
   obtain⟨b',aR,bU,W',fK,gF,ew,Ah,jQ⟩:=hS.app (P:=C.P) (ty:=ty) hi hT.und qm hz kP AA (hs.src hS) (nW hm xs) vG hc hf aa hB;have hFr:(Rw.row b cap sp).isAt b'\/ae L b':=by
    rcases ew with rfl|ew
    ·exact .inl rfl
    exact .inr (CZ hS ew)
   refine⟨.slice (some ⟨b',0,none⟩) (xs.length+zs.length) aR,W',L,_,?_,gF,?_⟩
   ·have hxx:ev E x=some (.slice (some ⟨b,0,none⟩) xs.length cap):=hx;simp[execOp,hF.ev hxx,hF.ev hy,resolve,invoke,Deferred.ofValue,builtin,fK]
   have:=k b' aR bU hFr ⟨by rw[hl];exact Ah,by rw[hl];exact jQ⟩;rw[hl]at this;rw[hH];simpa[Rw.hp,aO,NC]using this
theorem Rw.sl{xs:List α}(hm:∀x,(enc x).length=m)(hr:r.Fit m xs)(hA:r.At enc t xs w)(hN:w.heap.size<=N):∃a cap,r.val xs.length= .slice a xs.length cap/\ai (λx=>(enc x).toArray) m N w a xs:=by
 cases r with
 |nil=>
  have sG:xs=[]:=hr;subst sG;exact⟨none,0,rfl,.inl rfl⟩
 |row b cap sp=>
  have hA':w.heap[b]? =some (aO enc t xs sp):=hA;refine⟨_,_,rfl,ai.block (lZ (aT.1 hA').1 hN) hA' λi hi=>⟨?_,?_⟩⟩
  ·have h1:(i+1)*m<=xs.length*m:=wo _ hi;rw[pE]at h1;simp only[qq,ck,nW hm];omega
  unfold cut;rw[Yw hm xs sp i hi]
def aD (w:World) (enc:α->List Value) (m t:Nat) (xs:List α) (v:Value->Value):Ending->World->Prop:=λe w'=>
 ∃r:Rw,e= .returned (v (r.val xs.length))/\Below w.heap.size w w'/\r.ge w.heap.size/\r.Fit m xs/\r.At enc t xs w'
variable {cap first:List Value} {v:Value->Value}
theorem Iv{xs:List α}{fv:Operand}(hx:ev E fv=some (.func (.func f) first.toArray cap.toArray))(az:eg C.P f)(hw:nl ops E g=some true)(hN:Nat.blt d C.N=true)(ha:iV E xo=some vs)(hc:∀W,St G L H W->Calls C.P f (first++vs++cap).toArray W (aD W enc m t xs v))(k:∀r:Rw,r.Fr G L->r.Fit m xs->OJ C ops Q l ((d,v (r.val xs.length))::E) D G L (r.hp enc t xs++H)):OJ C ops Q (⟨some d,.call ⟨.value fv,xo.toArray,eo⟩,ty,pos,aC,g⟩::l) E D G L H:=
 nI rfl hw hx ha zJ az λa W iW hD hF hS=>(hc W hS).mono (by
  rintro ed W' ⟨r,rfl,hb,jw,bN,fj⟩;refine k r ?_ bN (a.put (some d) (v (r.val xs.length))) W' z7 z5 (hF.put _ z6) ?_
  ·cases r with
   |nil=>trivial
   |row b cap sp=>exact Fr.up hS jw
  cases r with
  |nil=>exact hS.step hb
  |row b cap sp=>exact(hS.step hb).adopt fj (C5 hS jw) (λhv=>by have:=hS.vlt _ hv;have:W.heap.size<=b:=jw;omega))
theorem nG{xs:List α}{fv:Operand}(hx:ev E fv=some (.func (.func f) first.toArray cap.toArray))(az:eg C.P f)(hw:nl ops E g=some true)(hN:Nat.blt d C.N=true)(ha:iV E xo=some vs)(hm:∀x,(enc x).length=m)(hc:∀W,St G L H W->Calls C.P f (first++vs++cap).toArray W (aD W enc m t xs v))(k:∀W a cp w1,St G L H W->Below W.heap.size W w1->ai (λx=>(enc x).toArray) m w1.heap.size w1 a xs->(∀b,a=some b->W.heap.size<=b.block)->OJ C ops Q l ((d,v (.slice a xs.length cp))::E) D G (w1::L) H):OJ C ops Q (⟨some d,.call ⟨.value fv,xo.toArray,eo⟩,ty,pos,aC,g⟩::l) E D G L H:=
 nI rfl hw hx ha zJ az λac W iW hD hF hS=>(hc W hS).mono (by
  rintro ed W' ⟨r,rfl,hb,jw,bN,fj⟩;obtain⟨a,cp,he,aJ⟩:=r.sl hm bN fj (ak _);have:=k W a cp W' hS hb aJ (by
   intro b tI;cases r with
   |nil=>simp only[Rw.val,Value.slice.injEq]at he;rw[<-he.1]at tI;cases tI
   |row b' cap sp=>simp only[Rw.val,Value.slice.injEq]at he;rw[<-he.1]at tI;cases tI;exact jw) (ac.put (some d) (v (.slice a xs.length cp))) W' z7 z5 (hF.put _ z6) (hS.step hb).snap
  rw[he];exact this)
variable {rs:List ResultVar} {us:List Value}
theorem nP{xs:List α}{e:Exit}(he:e= .ret\/e= .normal)(hr:fn.results=rs.toArray)(h:RS C Gh.no L H E rs us)(hw:w∈L)(ho:Over w.heap.size H)(hv:Mf us=v (r.val xs.length))(bN:r.Fit m xs)(jw:r.ge w.heap.size)(hH:H=H0++(r.hp enc t xs++H1)):PJ C (bodyPost C.P fn (aD w enc m t xs v)) e E [] Gh.no L H:=
 bM he hr h λW hS=>⟨r,by rw[hv],hS.base hw ho,jw,bN,by
  cases r with
  |nil=>trivial
  |row b cap sp=>exact hS.own (b,aO enc t xs sp) (by rw[hH];simp[Rw.hp])⟩
end
def aA (x:Int):List Value:=[.int .i64 x]
theorem nz(x:Int):(aA x).length=1:=rfl
theorem NB(x:Int):∀u∈aA x,u.oneCell'=true:=by intro u hu;simp[aA]at hu;subst hu;rfl
/-! ### iterators whose consumer lays blocks on the way -/
abbrev aE:=Nat->Prop
def qA (V:aE) (W1 W2:World):aE:=λk=>V k\/(W1.heap.size<=k/\k<W2.heap.size)
def uc (P:Program) (f:Nat) (cap:List Value) {α:Type} (enc:α->List Value) (Pre Fin:List α->Prop) (MI RO:aE) (W:World):Prop:=
 ∀(l:Nat) (M:aE) (I:List α->aE->World->Prop) (X:aE->World->Prop),
  (∀k,M k->k<W.heap.size/\¬MI k/\¬RO k)->
  (∀pre V,eX (λk=>(k<W.heap.size/\¬MI k)\/V k) (I pre V))->(∀V,eX (λk=>(k<W.heap.size/\¬MI k)\/V k) (X V))->
  (∀pre x V W1,Pre (pre++[x])->(∀k,V k->W.heap.size<=k/\k<W1.heap.size)->I pre V W1->Oo P l (enc x).toArray W1 (λb W2=>aH (λk=>M k\/V k) W1 W2/\(if b then I (pre++[x]) (qA V W1 W2) W2 else X (qA V W1 W2) W2)))->
  I [] (λ_=>False) W->
  Calls P f (yv l::cap).toArray W (λe W'=>(∃v,e= .returned v)/\aH (λk=>M k\/MI k) W W'/\∃V,(∃xs,Fin xs/\I xs V W')\/X V W')
abbrev Cs {α:Type} (xs:List α):List α->Prop:=(· <+:xs)
abbrev Is {α:Type} (xs:List α):List α->Prop:=(· =xs)
theorem St.yield2{G':Gh}{W':World}(h:St G L H W)(hk:aH G.M W W')(hX:∀k,G.X k->G'.X k)(hX':∀k,G'.X k->G.X k\/(W.heap.size<=k/\k<W'.heap.size))(hV:∀k,G'.V k->G.V k\/(W.heap.size<=k/\k<W'.heap.size))(hR:G'.R W'):St G' L H W' where
 ghost:=hR
 vlt:=λk hv=>by
  rcases hV k hv with h1|h1
  ·exact lZ (h.vlt k h1) hk.size
  exact h1.2
 xlt:=λk hv=>by
  rcases hX' k hv with h1|h1
  ·exact lZ (h.xlt k h1) hk.size
  exact h1.2
 links:=λw hw=>((h.links w hw).mono (Y:=λk=>G'.X k\/k∈H.map (·.1)) λk _ hx=>hx.imp (hX k) id).trans (hk.mono λk _ hm=>.inl (hX k (G.subX k hm)))
 own:=λp hp=>by rw[hk.block p.1 (h.lt p hp) (λhm=>h.apart p hp (G.sub _ hm))];exact h.own p hp
 nodup:=h.nodup
 apart:=λp hp hv=>by
  rcases hV _ hv with h1|h1
  ·exact h.apart p hp h1
  have:=h.lt p hp;omega
section
variable {C:Cx} {Q:aZ} {E:Env} {D:List Deferred} {G:Gh} {L:List World} {H:ad} {ops:Array Oper} {l:List Oper}
variable {d ty:Nat} {pos:String} {aC:Array Edge} {g:Option (Nat×Bool)} {x:Operand} {xs:List Operand} {vs:List Value} {eo:Array Nat}
structure Next (G:Gh) (W W':World) (G':Gh):Prop where
 x:∀k,G.X k->G'.X k
 x':∀k,G'.X k->G.X k\/(W.heap.size<=k/\k<W'.heap.size)
 v:∀k,G'.V k->G.V k\/(W.heap.size<=k/\k<W'.heap.size)
 r:G'.R W'
theorem T7{y:Nat}(T1 T2:Gh->Prop)(hw:nl ops E g=some true)(hN:Nat.blt d C.N=true)(hx:ev E x=some (yv y))(ha:iV E xs=some vs)(hy:∀W,St G L H W->Oo C.P y vs.toArray W (λb W'=>aH G.M W W'/\∃G',(if b then T1 G' else T2 G')/\Next G W W' G'))(k1:∀G',T1 G'->OJ C ops Q l ((d,.bool true)::E) D G' L H)(k2:∀G',T2 G'->OJ C ops Q l ((d,.bool false)::E) D G' L H):OJ C ops Q (⟨some d,.call ⟨.value x,xs.toArray,eo⟩,ty,pos,aC,g⟩::l) E D G L H:=by
 intro a W iW hD hF hS;obtain⟨fn,tmps,assign,body,fK,kM⟩:=hy W hS;unfold wpListIn;rw[if_pos (Bg hF hw)];refine⟨λ_ _=>trivial,?_⟩;have hr:(execOp a.eval ⟨some d,.call ⟨.value x,xs.toArray,eo⟩,ty,pos,aC,g⟩).run C.P W= .ok (.round y fn tmps assign body) W:=by
  have h2:(xs.toArray).map a.eval=vs.toArray:=by rw[C8,MN hF xs vs ha]
  simp only[execOp,resolve,hF.ev hx,Deferred.ofValue,h2];simp[invoke,fK]
 rw[Oper.semAt_eq _ _ _ zJ,hr,Oper.uponIn_round];refine⟨by simp,(nro kM).mono ?_⟩;rintro e W' ⟨b,rfl,hk,G',hT,hn⟩;have bN:=λv=>hF.put (d:=d) v z6;have gF:=hS.yield2 hk hn.x hn.x' hn.v hn.r;cases b with
 |true=>exact k1 G' hT (a.put (some d) (.bool true)) W' z7 z5 (bN _) gF
 |false=>exact k2 G' hT (a.put (some d) (.bool false)) W' z7 z5 (bN _) gF
end
def dh {W:World} {MI RO M:aE} (hM:∀k,M k->k<W.heap.size/\¬MI k/\¬RO k) (V:aE) {R:World->Prop} (hR:eX (λk=>(k<W.heap.size/\¬MI k)\/V k) R):Gh where
 M:=λk=>M k\/V k
 V:=λk=>(k<W.heap.size/\¬MI k)\/V k
 R:=R
 X:=λk=>M k\/V k
 sub:=λk hk=>hk.imp (λh=>⟨(hM k h).1,(hM k h).2.1⟩) id
 subX:=λ_ hk=>hk
 stab:=hR
def Gh.ext (G:Gh) (Z:aE):Gh:={G with X:=λk=>G.X k\/Z k,subX:=λk h=>.inl (G.subX k h)}
theorem Rw.Fr_ext{α:Type}{enc:α->List Value}{xs:List α}{Z:aE}(h:∀p∈r.hp enc t xs,Z p.1):r.Fr (G.ext Z) L:=by
 cases r with
 |nil=>trivial
 |row b cap sp=>exact .inl (.inr (h (b,aO enc t xs sp) oR))
theorem Nj{MI RO M:aE}(hM:∀k,M k->k<W.heap.size/\¬MI k/\¬RO k){R:World->Prop}(hR:eX (λk=>(k<W.heap.size/\¬MI k)\/(λ_=>False) k) R)(h0:R W)(ho:∀p∈H,W.heap[p.1]? =some p.2)(hd:kV H)(hm:∀p∈H,MI p.1):St (dh hM (λ_=>False) hR) [W] H W where
 ghost:=h0
 vlt:=λk hk=>by rcases hk with h|h;exact h.1;exact h.elim
 xlt:=λk hk=>by rcases hk with h|h;exact(hM k h).1;exact h.elim
 links:=λw hw=>by simp at hw;subst hw;exact aH.refl _ _
 own:=ho
 nodup:=hd
 apart:=λp hp hv=>by rcases hv with h|h;exact h.2 (hm p hp);exact h.elim
section
variable {C:Cx} {Q:aZ} {E:Env} {D:List Deferred} {L:List World} {H:ad} {ops:Array Oper} {l:List Oper}
variable {d ty:Nat} {pos:String} {aC:Array Edge} {g:Option (Nat×Bool)} {x:Operand} {xs:List Operand} {vs:List Value} {eo:Array Nat}
variable {W0:World} {MI RO M:aE} {hM:∀k,M k->k<W0.heap.size/\¬MI k/\¬RO k}
theorem Br{y:Nat}{V:aE}{I:World->Prop}{hI:eX (λk=>(k<W0.heap.size/\¬MI k)\/V k) I}{I1 X1:aE->World->Prop}(kO:∀V,eX (λk=>(k<W0.heap.size/\¬MI k)\/V k) (I1 V))(fE:∀V,eX (λk=>(k<W0.heap.size/\¬MI k)\/V k) (X1 V))(hV:∀k,V k->W0.heap.size<=k)(hw0:W0∈L)(hw:nl ops E g=some true)(hN:Nat.blt d C.N=true)(hx:ev E x=some (yv y))(ha:iV E xs=some vs)(hy:∀W1,(∀k,V k->W0.heap.size<=k/\k<W1.heap.size)->I W1->Oo C.P y vs.toArray W1 (λb W2=>aH (λk=>M k\/V k) W1 W2/\(if b then I1 (qA V W1 W2) W2 else X1 (qA V W1 W2) W2)))(k1:∀V2,(∀k,V2 k->W0.heap.size<=k)->OJ C ops Q l ((d,.bool true)::E) D (dh hM V2 (kO V2)) L H)(k2:∀V2,(∀k,V2 k->W0.heap.size<=k)->OJ C ops Q l ((d,.bool false)::E) D (dh hM V2 (fE V2)) L H):OJ C ops Q (⟨some d,.call ⟨.value x,xs.toArray,eo⟩,ty,pos,aC,g⟩::l) E D (dh hM V hI) L H:=by
 refine T7 (λG'=>∃V2,(∀k,V2 k->W0.heap.size<=k)/\G'=dh hM V2 (kO V2)) (λG'=>∃V2,(∀k,V2 k->W0.heap.size<=k)/\G'=dh hM V2 (fE V2)) hw hN hx ha (λW1 hS=>?_) (by rintro _ ⟨V2,h2,rfl⟩;exact k1 V2 h2) (by rintro _ ⟨V2,h2,rfl⟩;exact k2 V2 h2);obtain⟨fn,tmps,assign,body,fK,kM⟩:=hy W1 (λk hk=>⟨hV k hk,hS.xlt k (.inr hk)⟩) hS.ghost;have h0:W0.heap.size<=W1.heap.size:=(hS.links W0 hw0).size;have hv:∀W2 k,qA V W1 W2 k->W0.heap.size<=k:=λW2 k hk=>by
  rcases hk with hk|hk
  ·exact hV k hk
  omega
 refine⟨fn,tmps,assign,body,fK,kM.mono ?_⟩;rintro e W2 ⟨b,rfl,hk,hb⟩;refine⟨b,rfl,hk,?_⟩;have up3:∀{p:aE} (k:Nat),(p k\/qA V W1 W2 k)->(p k\/V k)\/(W1.heap.size<=k/\k<W2.heap.size):=λk h=>h.elim (λh=>.inl (.inl h)) (λh=>h.elim (λh=>.inl (.inr h)) .inr);cases b with
 |true=>exact⟨dh hM (qA V W1 W2) (kO _),⟨_,hv W2,rfl⟩,⟨λk h=>h.imp id .inl,λk h=>up3 (p:=M) k h,λk h=>up3 (p:=λk=>k<W0.heap.size/\¬MI k) k h,hb⟩⟩
 |false=>exact⟨dh hM (qA V W1 W2) (fE _),⟨_,hv W2,rfl⟩,⟨λk h=>h.imp id .inl,λk h=>up3 (p:=M) k h,λk h=>up3 (p:=λk=>k<W0.heap.size/\¬MI k) k h,hb⟩⟩
theorem Bs{V:aE}{I:World->Prop}{hI:eX (λk=>(k<W0.heap.size/\¬MI k)\/V k) I}{α:Type}{Fin:List α->Prop}{I':List α->aE->World->Prop}{X:aE->World->Prop}{e:Exit}(he:e= .ret\/e= .normal)(hr:fn.results=#[])(hw:W0∈L)(hV:∀k,V k->W0.heap.size<=k)(hH:∀k,k<W0.heap.size->k∈H.map (·.1)->MI k)(h:∀A,I A->(∃xs,Fin xs/\I' xs V A)\/X V A):PJ C (bodyPost C.P fn (λe W'=>(∃v,e= .returned v)/\aH (λk=>M k\/MI k) W0 W'/\∃V,(∃xs,Fin xs/\I' xs V W')\/X V W')) e E [] (dh hM V hI) L H:=by
 intro a W' _ hD _ hS;have key:bodyPost C.P fn (λe W'=>(∃v,e= .returned v)/\aH (λk=>M k\/MI k) W0 W'/\∃V,(∃xs,Fin xs/\I' xs V W')\/X V W') .normal a W':=by
  refine⟨hD,.tuple #[],results_none hr _ _ _,⟨_,rfl⟩,(hS.links W0 hw).mono λk hk hx=>?_,V,h W' hS.ghost⟩;exact zLh
 exact zHh
end
/-! #### the consumer -/
section
variable {α:Type}
structure Loc (W1:World) (MI M V:aE) (G':Gh) (Hc:ad):Prop where
 v:∀k,G'.V k->(k<W1.heap.size/\¬MI k)\/V k
 x:∀k,G'.X k->M k\/V k
 h:∀p∈Hc,M p.1\/V p.1
def rI2 (W1:World) (MI M:aE) (L:List World) (Inv:List α->Gh->ad->Prop) (l:Nat) (rec:Loop) (bx:ad) (pre:List α) (V:aE) (W:World):Prop:=
 ∃G' Hc,Inv pre G' Hc/\Loc W1 MI M V G' Hc/\St G' L (book Hc l rec bx) W
def rX2 (W1:World) (MI M:aE) (L:List World) (cH:Code->Gh->ad->Prop) (l:Nat) (rec:Loop) (bx:ad) (V:aE) (W:World):Prop:=
 ∃c G' Hc,cH c G' Hc/\Loc W1 MI M V G' Hc/\St G' L (book Hc l {rec with state:=.done,pending:=some c} bx) W
def nXj (P:Program) (W1:World) (MI M:aE) (L:List World) (V:aE) (Wy:World) (Inv:List α->Gh->ad->Prop) (cH:Code->Gh->ad->Prop) (l:Nat) (rec:Loop) (bx:ad) (pre:List α):aZ:=
 roundPost P l (λe W'=>∃b,e= .returned (.bool b)/\aH (λk=>M k\/V k) Wy W'/\(if b then rI2 W1 MI M L Inv l rec bx pre (qA V Wy W') W' else rX2 W1 MI M L cH l rec bx (qA V Wy W') W'))
structure Al (G:Gh) (H:ad) (L:List World) (Dk:Nat) (W1:World) (MI M V:aE) (Wy:World) (G':Gh) (Hc:ad):Prop where
 loc:Loc W1 MI M V G' Hc
 m:∀k,M k->G.X k\/k∈H.map (·.1)\/k=Dk\/k=Dk+1
 m':∀k,k=Dk\/k=Dk+1->M k
 vge:∀k,V k->W1.heap.size<=k
 dk:Dk+1<W1.heap.size
 above:∀w∈L,w.heap.size<=Dk
theorem Al.z{Dk:Nat}{W1:World}{MI M V:aE}{Wy:World}{G':Gh}{Hc:ad}(h:Al G H L Dk W1 MI M V Wy G' Hc)(hk:k<Dk)(hX:¬G.X k)(hH:k∉H.map (·.1))(hX':¬G'.X k):¬(G'.ext (λk=>M k\/V k)).X k:=by
 rintro(hx|hx|hx)
 ·exact hX' hx
 ·rcases h.m k hx with hx|hx|hx|hx
  ·exact hX hx
  ·exact hH hx
  ·omega
  omega
 have:=h.vge k hx;have:=h.dk;omega
section
variable {C:Cx} {E:Env} {D:List Deferred} {G G' G2:Gh} {L:List World} {H Hc Hc2:ad} {W1 Wy:World} {MI M V:aE} {Inv:List α->Gh->ad->Prop} {cH:Code->Gh->ad->Prop} {l Dk:Nat} {rec lC:Loop} {pre:List α}
structure M3 (G G' G2:Gh) (H Hc Hc2:ad) (L:List World) (Wy:World):Prop where
 gx:∀k,G.X k->G2.X k
 x:∀k,G2.X k->G'.X k\/Wy.heap.size<=k
 v:∀k,G2.V k->G'.V k\/Wy.heap.size<=k
 h:∀p∈Hc2,p.1∈Hc.map (·.1)\/Wy.heap.size<=p.1
 gone:∀p∈H,p.1∈Hc2.map (·.1)\/G2.X p.1\/ae L p.1
theorem M3.ok(he:M3 G G' G2 H Hc Hc2 L Wy)(hl:Al G H L Dk W1 MI M V Wy G' Hc)(lD:l=Dk+1){W':World}{o:Loop}(hS:St (G2.ext λk=>M k\/V k) (Wy::L) (book Hc2 l o (fq Dk)) W'):aH (λk=>M k\/V k) Wy W'/\Loc W1 MI M (qA V Wy W') G2 Hc2/\St G2 L (book Hc2 l o (fq Dk)) W':=by
 have VM:∀p∈Hc,M p.1\/V p.1:=hl.loc.h;have abT:∀k,k∈Hc.map (·.1)->M k\/V k:=λk hk=>by obtain⟨p,hp,rfl⟩:=bY.1 hk;exact VM p hp
 have hb:∀k,k∈(book Hc2 l o (fq Dk)).map (·.1)↔k∈Hc2.map (·.1)\/k=Dk+1\/k=Dk:=λk=>by subst lD;simp[book]
 refine⟨(hS.links Wy A0).mono λk hk hx=>?_,⟨λk hv=>?_,λk hx=>?_,λp hp=>?_⟩,?_⟩
 ·rcases hx with(hx|hx)|hx
  ·rcases he.x k hx with h1|h1
   ·exact hl.loc.x k h1
   omega
  ·exact hx
  rcases(hb k).1 hx with hx|hx
  ·obtain⟨p,hp,rfl⟩:=bY.1 hx;rcases he.h p hp with h1|h1
   ·exact abT _ h1
   omega
  exact .inl (hl.m' k hx.symm)
 ·rcases he.v k hv with h1|h1
  ·exact(hl.loc.v k h1).imp id .inl
  exact .inr (.inr ⟨h1,hS.vlt k hv⟩)
 ·rcases he.x k hx with h1|h1
  ·exact(hl.loc.x k h1).imp id .inl
  exact .inr (.inr ⟨h1,hS.xlt k (.inl hx)⟩)
 ·rcases he.h p hp with h1|h1
  ·exact(abT _ h1).imp id .inl
  exact .inr (.inr ⟨h1,hS.lt p (by simp[book,hp])⟩)
 refine⟨hS.ghost,hS.vlt,λk hk=>hS.xlt k (.inl hk),λw hw=>(hS.links w (.tail _ hw)).mono λk hk hx=>?_,hS.own,hS.nodup,hS.apart⟩;rcases hx with(hx|hx|hx)|hx
 ·exact .inl hx
 ·rcases hl.m k hx with hx|hx|hx
  ·exact .inl (he.gx k hx)
  ·obtain⟨p,hp,rfl⟩:=bY.1 hx;rcases he.gone p hp with h1|h1|h1
   ·exact .inr ((hb _).2 (.inl h1))
   ·exact .inl h1
   have:=h1.mem w hw;omega
  exact .inr ((hb k).2 (.inr hx.symm))
 ·have:=hl.vge k hx;have:=hl.above w hw;have:=hl.dk;omega
 exact .inr hx
variable {sp:List Value}
theorem Uy{β:Type}{enc:β->List Value}{A A':ad}(hA:A'.map (·.1)=A.map (·.1)){b' c n:Nat}{xs ys:List β}(hf:r.isAt b'\/n<=b'):∀p∈(A'++((Rw.row b' c sp).hp enc t ys++[]):ad),p.1∈(A++(r.hp enc t xs++[]):ad).map (·.1)\/n<=p.1:=by grind [Rw.hp,Rw.mem_at]
theorem Ji{rec:Loop}(h1:rec.state= .ready)(h2:rec.pending=none):{({rec with state:=.busy}:Loop)with state:=.ready,pending:=none}=rec:=by cases rec;simp_all
theorem Jh(hl:Al G H L Dk W1 MI M V Wy G' Hc)(lD:l=Dk+1)(he:M3 G G' G2 H Hc Hc2 L Wy)(hr:{lC with state:=.ready,pending:=none}=rec)(hI:Inv pre G2 Hc2):PJ C (nXj C.P W1 MI M L V Wy Inv cH l rec (fq Dk) pre) .normal E D (G2.ext λk=>M k\/V k) (Wy::L) (book Hc2 l lC (fq Dk)):=by
 intro a W hN hD hF hS;have gF:=hS.loop {lC with state:=.ready,pending:=none};obtain⟨h1,h2,h3⟩:=he.ok hl lD gF;refine⟨_,W.putObj l (.loop {lC with state:=.ready,pending:=none}),run_endRound none hS.loopAt,true,rfl,h1,G2,Hc2,hI,h2,?_⟩;rw[hr]at h3 ⊢;exact h3
theorem nZk{e:Exit}{c:Code}(hl:Al G H L Dk W1 MI M V Wy G' Hc)(lD:l=Dk+1)(he':M3 G G' G2 H Hc Hc2 L Wy)(he:(e= .ret/\c= .ret)\/∃id,e= .exit id/\c= .exit id)(hr:{lC with state:=.done,pending:=some c}={rec with state:=.done,pending:=some c})(hI:cH c G2 Hc2):PJ C (nXj C.P W1 MI M L V Wy Inv cH l rec (fq Dk) pre) e E D (G2.ext λk=>M k\/V k) (Wy::L) (book Hc2 l lC (fq Dk)):=by
 intro a W hN hD hF hS;have gF:=hS.loop {lC with state:=.done,pending:=some c};obtain⟨h1,h2,h3⟩:=he'.ok hl lD gF;have key:∃v w',(Instr.endRound l (some c)).run C.P W= .ok v w'/\∃b,Ending.returned v= .returned (.bool b)/\aH (λk=>M k\/V k) Wy w'/\(if b then rI2 W1 MI M L Inv l rec (fq Dk) pre (qA V Wy w') w' else rX2 W1 MI M L cH l rec (fq Dk) (qA V Wy w') w'):=by
  refine⟨_,W.putObj l (.loop {lC with state:=.done,pending:=some c}),run_endRound (some c) hS.loopAt,false,rfl,h1,c,G2,Hc2,hI,h2,?_⟩;rw[hr]at h3 ⊢;exact h3
 rcases he with⟨rfl,rfl⟩|⟨id,rfl,rfl⟩<;>exact key
end
theorem P0{C:Cx}{Q:aZ}{e:Exit}{E:Env}{D:List Deferred}(h:∀W,St G L H W->PJ C Q e E D G L H):PJ C Q e E D G L H:=λa W hN hD hF hS=>h W hS a W hN hD hF hS
theorem Uz{Hc:ad}{l Dk:Nat}{rec:Loop}(hS:St G L (book Hc l rec (fq Dk)) W):∀p∈Hc,p.1≠Dk/\p.1≠l:=by
 intro p hp;have h:=(nX _).1 hS.nodup;all_goals grind
def rB (P:Program) (f:Nat) (cap:List Value) {α:Type} (enc:α->List Value) (Pre Fin:List α->aE->World->Prop) (MI RO:aE) (W:World):Prop:=
 ∀(l:Nat) (M:aE) (I:List α->aE->World->Prop) (X:aE->World->Prop),
  (∀k,M k->k<W.heap.size/\¬MI k/\¬RO k)->
  (∀pre V,eX (λk=>(k<W.heap.size/\¬MI k)\/V k) (I pre V))->(∀V,eX (λk=>(k<W.heap.size/\¬MI k)\/V k) (X V))->
  (∀pre x V W1,Pre (pre++[x]) (λk=>M k\/V k) W1->(∀k,V k->W.heap.size<=k/\k<W1.heap.size)->I pre V W1->Oo P l (enc x).toArray W1 (λb W2=>aH (λk=>M k\/V k) W1 W2/\(if b then I (pre++[x]) (qA V W1 W2) W2 else X (qA V W1 W2) W2)))->
  I [] (λ_=>False) W->
  Calls P f (yv l::cap).toArray W (λe W'=>(∃v,e= .returned v)/\aH (λk=>M k\/MI k) W W'/\∃V,(∃xs,Fin xs (λk=>M k\/V k) W'/\I xs V W')\/X V W')
variable {P:Program} {N:Nat} {Q:aZ} {E:Env} {D:List Deferred} {G:Gh} {L:List World} {H0 H:ad} {g:Operand} {ps:Array Tmp} {assign body:Code} {f:Nat} {cap:List Value} {enc:α->List Value} {MI RO:aE}
abbrev VA (P:Program) (N:Nat) (ps:Array Tmp) (assign body:Code) (E:Env) (G:Gh) (H:ad) (L:List World) (enc:α->List Value) (MI:aE) (Pre:List α->aE->World->Prop) (Inv:List α->Gh->ad->Prop) (cH:Code->Gh->ad->Prop):Prop:=
 ∀(pre:List α) (x:α) (G':Gh) (Hc:ad) (l Dk:Nat) (rec:Loop) (W1:World) (M V:aE) (Wy:World),rec.state= .ready->rec.pending=none->Pre (pre++[x]) (λk=>M k\/V k) Wy->Inv pre G' Hc->ae L Dk->l=Dk+1->l<Wy.heap.size->ae L Wy.heap.size->Al G H L Dk W1 MI M V Wy G' Hc->St G' L (book Hc l rec (fq Dk)) Wy->
  CJ ⟨P,some l,N⟩ assign (nym ⟨P,some l,N⟩ l body (nXj P W1 MI M L V Wy Inv cH l rec (fq Dk) (pre++[x]))) ((ps.toList.zip (enc x)).reverse++E) [] (G'.ext λk=>M k\/V k) (Wy::L) (book Hc l rec (fq Dk))
abbrev VB (P:Program) (N:Nat) (Q:aZ) (E:Env) (D:List Deferred) (L:List World) (cH:Code->Gh->ad->Prop):Prop:=∀l Dk rec c G' Hc,ae L Dk->l=Dk+1->cH c G' Hc->CJ ⟨P,none,N⟩ c Q E (kN Dk::D) G' L (book Hc l rec (fq Dk))
abbrev RgD (P:Program) (N:Nat) (Q:aZ) (E:Env) (D:List Deferred) (L:List World) (Fin:List α->Prop) (Inv:List α->Gh->ad->Prop):Prop:=∀xs l Dk rec G' Hc,Fin xs->ae L Dk->l=Dk+1->Inv xs G' Hc->PJ ⟨P,none,N⟩ Q .normal E (kN Dk::D) G' L (book Hc l rec (fq Dk))
abbrev Vz (G:Gh) (L:List World) (H:ad) (RO:aE):Prop:=∀W,St G L H W->(∀k,RO k->k<W.heap.size/\k∉H.map (·.1)/\¬G.X k)
theorem CJ.rg{B:World->Prop}{Pre Fin:List α->aE->World->Prop}(dX:∀W,St G L H0 W->St G L H W/\B W/\∀k,MI k->k<W.heap.size/\ae L k/\k∉H.map (·.1)/\¬G.V k/\¬G.X k)(hg:ev E g=some (.func (.func f) #[] cap.toArray))(az:eg P f)(lO:∀W W2,St G L H W->B W->Below W.heap.size W W2->rB P f cap enc Pre Fin MI RO W2)(kR:Vz G L H RO)(iJ:∀x,(enc x).length=ps.size)(Inv:List α->Gh->ad->Prop)(cH:Code->Gh->ad->Prop)(h0:Inv [] G H)(vJ:∀p∈ps.toList,p<N)(round:VA P N ps assign body E G H L enc MI Pre Inv cH)(done:∀xs l Dk rec G' Hc (Z:aE) (Wd:World),Fin xs Z Wd->(∀p∈book Hc l rec (fq Dk),Z p.1)->ae L Dk->l=Dk+1->Inv xs G' Hc->PJ ⟨P,none,N⟩ Q .normal E (kN Dk::D) G' (Wd::L) (book Hc l rec (fq Dk)))(stop:VB P N Q E D L cH):CJ ⟨P,none,N⟩ (.rangeFunc g ps assign body) Q E D G L H0:=by
 intro a W hN hD hF Lu;obtain⟨hS,hBW,sY⟩:=dX W Lu;refine wpIn_rangeFunc ?_;intro fn _;have kP:(W.alloc (.deferred (some []))).heap.size=W.heap.size+1:=by simp
 obtain⟨rec,py⟩:∃rec:Loop,rec={state:=.ready,pending:=none,fn,tmps:=a.tmps,params:=ps,assign,body,defers:=W.heap.size}:=⟨_,rfl⟩;obtain⟨W1,O2⟩:∃W1,W1=(W.alloc (.deferred (some []))).alloc (.loop rec):=⟨_,rfl⟩;have lG:St G L (book H (W.heap.size+1) rec (fq W.heap.size)) W1:=by
  have h1:=(hS.alloc (.deferred (some []))).alloc (.loop rec);rw[kP]at h1;rw[O2];exact h1.perm (List.perm_append_comm (l₁:=[_,_]) (l₂:=H))
 have hB1:Below W.heap.size W W1:=by
  rw[O2];exact((Below.refl _ _).alloc (ak _) _).alloc zJ _
 have aoK:W1.heap.size=W.heap.size+2:=by rw[O2];simp
 have he:(Instr.enterLoop fn a.tmps ps assign body (none:Option Nat)).run P W= .ok (W.heap.size+1,[kN W.heap.size]) W1:=by
  rw[O2,py];exact run_enterLoop_outer _ _ _ _ _
 refine⟨W.heap.size+1,[kN W.heap.size],W1,{target:=.fn (.func f) cap.toArray,args:=#[yv (W.heap.size+1)]},W1,f,(yv (W.heap.size+1)::cap).toArray,W1,he,?_,λ_ _=>trivial,?_,by simp,?_⟩
 ·simp[resolve,hF.ev hg,Deferred.ofValue];rfl
 ·simp[invoke,az _ W1]
 refine I7.2 ?_
 let M:aE:=λk=>G.X k\/k∈H.map (·.1)\/k=W.heap.size\/k=W.heap.size+1
 have M4:∀k,M k->k<W1.heap.size/\¬MI k/\¬RO k:=by
  rintro k (hk|hk|hk|hk)
  ·exact⟨lG.xlt k hk,λh=>(sY k h).2.2.2.2 hk,λh=>(kR W hS k h).2.2 hk⟩
  ·exact⟨by obtain⟨p,hp,rfl⟩:=bY.1 hk;have:=hS.lt p hp;omega,λh=>(sY k h).2.2.1 hk,λh=>(kR W hS k h).2.1 hk⟩
  ·exact zMh
  exact zMh
 have stab:∀{V:aE} {G':Gh} {Hc:ad} {o:Loop},Loc W1 MI M V G' Hc->eX (λk=>(k<W1.heap.size/\¬MI k)\/V k) (St G' L (book Hc (W.heap.size+1) o (fq W.heap.size))):=by
  intro V G' Hc o pz A B hA ho ht xw Cl hs ie;refine⟨G'.stab A B hA.ghost ho ht xw Cl hs (λk hv=>ie k (pz.v k hv)),λk hv=>lZ (hA.vlt k hv) hs,λk hv=>lZ (hA.xlt k hv) hs,λw hw=>?_,λp hp=>?_,hA.nodup,hA.apart⟩
  ·have h1:=hA.links w hw;exact⟨ho.trans h1.os,ht.trans h1.tape,xw.trans h1.output,dG h1.drawn Cl,dG h1.size hs,λk hk hx=>(ie k (.inl ⟨lZ hk (lG.links w hw).size,λhm=>by have:=(sY k hm).2.1.mem w hw;omega⟩)).trans (h1.block k hk hx)⟩
  have hq:M p.1\/V p.1:=by
   simp only[book,bA,bX,dy,or_false]at hp;rcases hp with hp|rfl|rfl
   ·exact pz.h p hp
   ·exact .inl (.inr (.inr (.inr rfl)))
   exact .inl (.inr (.inr (.inl rfl)))
  rw[ie p.1 (hq.imp (λh=>⟨(M4 _ h).1,(M4 _ h).2.1⟩) id)];exact hA.own p hp
 have abU:Loc W1 MI M (λ_=>False) G H:=⟨λk hv=>.inl ⟨lG.vlt k hv,λhm=>(sY k hm).2.2.2.1 hv⟩,λk hx=>.inl (.inl hx),λp hp=>.inl (.inr (.inl (bY.2 ⟨p,hp,rfl⟩)))⟩;have Bh:∀x,(ps.zip (enc x).toArray).foldl (λtmps (p:Tmp×Value)=>match p with|(t,a)=>tmps.setIfInBounds t a) a.tmps=(ps.toList.zip (enc x)).foldl (λt (p:Nat×Value)=>t.setIfInBounds p.1 p.2) a.tmps:=by
  intro x;rw[<-Array.foldl_toList,Array.toList_zip]
 have HR:=lO W W1 hS hBW hB1 (W.heap.size+1) M (rI2 W1 MI M L Inv (W.heap.size+1) rec (fq W.heap.size)) (rX2 W1 MI M L cH (W.heap.size+1) rec (fq W.heap.size)) M4
  (λpre V A B hA ho ht xw Cl hs ie=>by
   obtain⟨G',Hc,hi,pz,dX⟩:=hA;exact⟨G',Hc,hi,pz,stab pz A B dX ho ht xw Cl hs ie⟩)
  (λV A B hA ho ht xw Cl hs ie=>by
   obtain⟨c,G',Hc,hi,pz,dX⟩:=hA;exact⟨c,G',Hc,hi,pz,stab pz A B dX ho ht xw Cl hs ie⟩)
  (λpre x V Wy dP hV hI=>by
   obtain⟨G',Hc,hi,pz,dX⟩:=hI;have hy:=run_yield (P:=P) (args:=(enc x).toArray) dX.loopAt (by simp[iJ,py]);refine⟨_,_,_,_,hy,roundIn_of_wpIn (F:=FW none) trivial ?_⟩;have Df:W1.heap.size<=Wy.heap.size:=by
    have h1:=dX.lt (W.heap.size+1,.loop rec) zJ;simp only at h1;omega
   have du:Al G H L W.heap.size W1 MI M V Wy G' Hc:=⟨pz,λk hk=>hk,λk hk=>.inr (.inr hk),λk hk=>(hV k hk).1,by omega,λw hw=>(hS.links w hw).size⟩;have hS2:St (G'.ext λk=>M k\/V k) (Wy::L) (book Hc (W.heap.size+1) rec (fq W.heap.size)) Wy:=by
    refine⟨dX.ghost,dX.vlt,λk hk=>?_,λw hw=>?_,dX.own,dX.nodup,dX.apart⟩
    ·rcases hk with hk|hk|hk
     ·exact dX.xlt k hk
     ·exact lZ (M4 k hk).1 Df
     exact(hV k hk).2
    rcases bX.1 hw with rfl|hw
    ·exact aH.refl _ _
    exact(dX.links w hw).mono λk _ hk=>hk.imp .inl id
   have hr:=round pre x G' Hc (W.heap.size+1) W.heap.size rec W1 M V Wy (by rw[py]) (by rw[py]) dP hi hS.sizes rfl (aT.1 dX.loopAt).1 dX.sizes du dX;have amn:rec.params=ps:=by rw[py]
   have amo:rec.assign=assign:=by rw[py]
   have amp:rec.body=body:=by rw[py]
   have amr:rec.tmps=a.tmps:=by rw[py]
   rw[amo,amp,amr,amn,Bh x];have uK:=nWg (zs:=ps.toList.zip (enc x)) hF (λp hp=>by rw[hN];exact vJ p.1 (List.of_mem_zip hp).1);exact hr _ Wy (by have:=uK.1;rw[hN]at this;exact this) rfl uK.2 hS2)
  ⟨G,H,h0,abU,lG⟩
 refine HR.mono ?_;rintro e W2 ⟨⟨v,rfl⟩,abB,V,⟨xs,dK,hI⟩|hX⟩
 ·obtain⟨G',Hc,hi,pz,dX⟩:=hI;refine⟨rec.pending,_,run_endLoop dX.loopAt (by rw[py];simp),?_⟩;rw[show rec.pending=none by rw[py]];exact done xs _ _ _ G' Hc _ _ dK (λp hp=>by simp only[book,bA,bX,dy,or_false]at hp;rcases hp with hp|rfl|rfl;(exact pz.h p hp);(exact .inl (.inr (.inr (.inr rfl))));exact .inl (.inr (.inr (.inl rfl)))) hS.sizes rfl hi _ _ (by simpa using hN) (by simp[hD]) (λt v hv=>hF t v hv) (dX.snap.loop _)
 obtain⟨c,G',Hc,hi,pz,dX⟩:=hX;refine⟨some c,_,run_endLoop dX.loopAt zJ,?_⟩;exact stop _ _ _ c G' Hc hS.sizes rfl hi _ _ (by simpa using hN) (by simp[hD]) (λt v hv=>hF t v hv) (dX.loop _)
theorem nUl{B:World->Prop}{Pre Fin:List α->Prop}(dX:∀W,St G L H0 W->St G L H W/\B W/\∀k,MI k->k<W.heap.size/\ae L k/\k∉H.map (·.1)/\¬G.V k/\¬G.X k)(hg:ev E g=some (.func (.func f) #[] cap.toArray))(az:eg P f)(lO:∀W W2,St G L H W->B W->Below W.heap.size W W2->uc P f cap enc Pre Fin MI RO W2)(kR:Vz G L H RO)(iJ:∀x,(enc x).length=ps.size)(Inv:List α->Gh->ad->Prop)(cH:Code->Gh->ad->Prop)(h0:Inv [] G H)(vJ:∀p∈ps.toList,p<N)(round:VA P N ps assign body E G H L enc MI (λp _ _=>Pre p) Inv cH)(done:RgD P N Q E D L Fin Inv)(stop:VB P N Q E D L cH):CJ ⟨P,none,N⟩ (.rangeFunc g ps assign body) Q E D G L H0:=
 CJ.rg (Pre:=λp _ _=>Pre p) (Fin:=λp _ _=>Fin p) dX hg az lO kR iJ Inv cH h0 vJ round (λxs l Dk rec G' Hc _ _ h1 _ h2 h3 h4 a W k1 k2 k3 k4=>done xs l Dk rec G' Hc h1 h2 h3 h4 a W k1 k2 k3 ⟨k4.ghost,k4.vlt,k4.xlt,λw hw=>k4.links w (.tail _ hw),k4.own,k4.nodup,k4.apart⟩) stop
theorem VU{Pre Fin:List α->Prop}(hg:ev E g=some (.func (.func f) #[] cap.toArray))(az:eg P f)(lO:∀W W2,St G L H W->Below W.heap.size W W2->uc P f cap enc Pre Fin MI RO W2)(MP:∀W,St G L H W->(∀k,MI k->k<W.heap.size/\ae L k/\k∉H.map (·.1)/\¬G.V k/\¬G.X k))(kR:Vz G L H RO)(iJ:∀x,(enc x).length=ps.size)(Inv:List α->Gh->ad->Prop)(cH:Code->Gh->ad->Prop)(h0:Inv [] G H)(vJ:∀p∈ps.toList,p<N)(round:VA P N ps assign body E G H L enc MI (λp _ _=>Pre p) Inv cH)(done:RgD P N Q E D L Fin Inv)(stop:VB P N Q E D L cH):CJ ⟨P,none,N⟩ (.rangeFunc g ps assign body) Q E D G L H:=
 nUl (B:=λ_=>True) (λW h=>⟨h,trivial,MP W h⟩) hg az (λW W2 h _ hb=>lO W W2 h hb) kR iJ Inv cH h0 vJ round done stop
variable {i:Nat} {o:Obj}
theorem nKo{Pre Fin:List α->Prop}(hi:H0[i]? =some (b,o))(hH:H0.eraseIdx i=H)(hb:ae L b)(hbX:¬G.X b)(hg:ev E g=some (.func (.func f) #[] cap.toArray))(az:eg P f)(lO:∀W W2,St G L H W->W.heap[b]? =some o->Below W.heap.size W W2->uc P f cap enc Pre Fin (· =b) RO W2)(kR:Vz G L H RO)(iJ:∀x,(enc x).length=ps.size)(Inv:List α->Gh->ad->Prop)(cH:Code->Gh->ad->Prop)(h0:Inv [] G H)(vJ:∀p∈ps.toList,p<N)(round:VA P N ps assign body E G H L enc (· =b) (λp _ _=>Pre p) Inv cH)(done:RgD P N Q E D L Fin Inv)(stop:VB P N Q E D L cH):CJ ⟨P,none,N⟩ (.rangeFunc g ps assign body) Q E D G L H0:=by
 refine nUl (B:=λW'=>W'.heap[b]? =some o) (λW hS=>?_) hg az lO kR iJ Inv cH h0 vJ round done stop;have hp:=OH H0 i _ hi;rw[hH]at hp;have lG:=hS.perm hp;have Uf:=hS.own _ (cP hi);have hnd:=(nX _).1 lG.nodup;rw[dt,List.nodup_cons]at hnd;refine⟨lG.drop hb,Uf,λk hk=>?_⟩;subst hk;exact⟨(aT.1 Uf).1,hb,hnd.1,lG.apart (k,o) zJ,hbX⟩
theorem nrp{Pre Fin:List α->aE->World->Prop}(hg:ev E g=some (.func (.func f) #[] cap.toArray))(az:eg P f)(lO:∀W W2,St G L H W->Below W.heap.size W W2->rB P f cap enc Pre Fin MI RO W2)(MP:∀W,St G L H W->(∀k,MI k->k<W.heap.size/\ae L k/\k∉H.map (·.1)/\¬G.V k/\¬G.X k))(kR:Vz G L H RO)(iJ:∀x,(enc x).length=ps.size)(Inv:List α->Gh->ad->Prop)(cH:Code->Gh->ad->Prop)(h0:Inv [] G H)(vJ:∀p∈ps.toList,p<N)(round:VA P N ps assign body E G H L enc MI Pre Inv cH)(done:∀xs l Dk rec G' Hc (Z:aE) (Wd:World),Fin xs Z Wd->(∀p∈book Hc l rec (fq Dk),Z p.1)->ae L Dk->l=Dk+1->Inv xs G' Hc->PJ ⟨P,none,N⟩ Q .normal E (kN Dk::D) G' (Wd::L) (book Hc l rec (fq Dk)))(stop:VB P N Q E D L cH):CJ ⟨P,none,N⟩ (.rangeFunc g ps assign body) Q E D G L H:=
 CJ.rg (B:=λ_=>True) (λW h=>⟨h,trivial,MP W h⟩) hg az (λW W2 h _ hb=>lO W W2 h hb) kR iJ Inv cH h0 vJ round done stop
section
variable {C:Cx} {fn:Func} {R:Ending->World->Prop} {E:Env} {G:Gh} {L:List World} {H:ad} {enc:α->List Value} {m:Nat}
variable {fr:Nat×Nat}
theorem D6{Dk u T tt ct:Nat}{uv:Value}{e:Exit}{xs:List α}(he:e= .ret\/e= .normal)(hr:fn.results=#[.cell t T,.tmp u])(hA:ey C.P T false)(hx:look E t=some (ptr b 0))(hu:look E u=some uv)(hm:(Dk,.deferred (some []))∈H)(hb:(b,.cells cs ct fr)∈H)(hne:b≠Dk)(hv:cs[0]? =some (r.val xs.length))(bN:r.Fit m xs)(hrh:∀p∈r.hp enc tt xs,p∈H/\p.1≠Dk)(jw:r.ge w.heap.size)(h:∀W H',St G L H' W->H'.map (·.1)=H.map (·.1)->Below w.heap.size w W):PJ C (bodyPostM (FW none) 0 C.P fn (aD w enc m tt xs (λs=>.tuple #[s,uv]))) e E [kN Dk] G L H:=
 BI he hm λa W H' hF hS dX aQ=>by
  obtain⟨i,hi⟩:=kA.1 (dX _ hb hne);refine⟨_,(RS.w (C:=C) hi hA hx hv (RS.t hu RS.n)).res hr hF hS,r,rfl,h W H' hS aQ,jw,bN,?_⟩;cases r with
  |nil=>trivial
  |row b' cap sp=>
   obtain⟨h1,h2⟩:=hrh (b',aO enc tt xs sp) oR;exact hS.own _ (dX _ h1 h2)
end
end
end Px
namespace Px
open Go Go.RowKit Go.Sort
/-! ### the library's sorts, over own rows -/
theorem nMk(w:World)(os:Array Obj):aH (λ_=>False) w (grow w os):=
 ⟨rfl,rfl,rfl,ak _,by simp[grow],λk hk _=>by simp only[grow];rw[Vh hk]⟩
theorem nsg(w:World)(b:Nat)(f:Array Value->Array Value):aH (· =b) w (mapBlock w b f):=
 ⟨rfl,rfl,rfl,ak _,by simp[mapBlock],λk _ hk=>by
  simp only[mapBlock,a7p];rw[if_neg (λe=>hk e.symm)]⟩
theorem nxi(w:World)(n:Nat):aH (λ_=>False) w (Sort.ahead w n):=⟨rfl,rfl,rfl,by simp[Sort.ahead],ak _,λ_ _ _=>rfl⟩
variable {cs:Array Value} {b t:Nat} {fr:Nat×Nat} {w:World}
theorem nrg(f:Array Value->Array Value)(h:w.heap[b]? =some (.cells cs t fr)):(mapBlock w b f).heap[b]? =some (.cells (f cs) t fr):=by
 simp only[mapBlock,a7p,if_true,h];rfl
variable {sp:List Value}
theorem D7{xs:List Int}(h:w.heap[b]? =some (aO aA t xs sp)):Holds (Value.int .i64) w b 0 xs.toArray:=by
 intro j hj;have xU:j<xs.length:=by simpa using hj
 refine⟨?_,by simp[World.frozen?,h]⟩;rw[KB h,lE];have e:=Yw (enc:=aA) nz xs sp j xU;rw[xq]at e;have e2:=congrArg (λl=>l[0]?) e;all_goals grind [aA]
variable {os:Array Obj}
theorem Xl{n:Nat}{xs ys:List Int}(h:w.heap[b]? =some (aO aA t xs sp))(hl:ys.length=xs.length):aH (· =b) w (grow (putRow (Value.int .i64) (Sort.ahead w n) b 0 ys.toArray) os)/\(grow (putRow (Value.int .i64) (Sort.ahead w n) b 0 ys.toArray) os).heap[b]? =some (aO aA t ys sp):=by
 have hlt:=(aT.1 h).1;have k1:=(nxi w n).mono (Y:=(· =b)) (λ_ _ h=>h.elim);have k2:=nsg (Sort.ahead w n) b (putCells (Value.int .i64) 0 ys.toArray);have k3:=(nMk (mapBlock (Sort.ahead w n) b (putCells (Value.int .i64) 0 ys.toArray)) os).mono (Y:=(· =b)) (λ_ _ h=>h.elim);refine⟨(k1.trans k2).trans k3,?_⟩;have h2:=nrg (w:=Sort.ahead w n) (putCells (Value.int .i64) 0 ys.toArray) (show(Sort.ahead w n).heap[b]? =_ from h);have h3:(grow (putRow (Value.int .i64) (Sort.ahead w n) b 0 ys.toArray) os).heap[b]? =(mapBlock (Sort.ahead w n) b (putCells (Value.int .i64) 0 ys.toArray)).heap[b]? :=by
  simp only[grow,putRow];rw[Vh];have:=(aT.1 h2).1;exact this
 rw[h3,h2];congr 2;apply Array.ext';apply Cy;intro i;have hx:(gN aA xs).length=xs.length:=by rw[nW nz,xq]
 have hy:(gN aA ys).length=ys.length:=by rw[nW nz,xq]
 have key:∀(zs:List Int) (i:Nat),(gN aA zs)[i]? =(zs[i]?).map (Value.int .i64):=by
  intro zs;induction zs with
  |nil=>intro i;simp[gN]
  |cons z zs ih=>intro i;cases i with
   |zero=>simp[gN,aA]
   |succ i=>simpa[gN,aA]using ih i
 rw[NZ,NZ];simp only[putCells,Array.getElem?_mapIdx,DQ,cV,true_and,lE,qq,Nat.sub_zero];by_cases hi:i<ys.length
 ·rw[SH aa,SH aa,key,key];rw[kx (show i<xs.length by omega),kx hi];simp[hi]
 rw[Z1 aa,Z1 aa,hx,hy,hl];have:¬i<xs.length:=by omega
 cases sp[i-xs.length]?<;>simp[hl,this]
variable {k:Nat}
theorem nwk{α:Type}[Inhabited α]{enc:α->List Value}(hk:∀x,(enc x).length=k)(xs:List α):flatK enc k xs.toArray=(gN enc xs).toArray:=by
 apply Array.ext';apply List.ext_getElem (by simp[flatK,nW hk]);intro i h1 h2;have hi:i<xs.length*k:=by simpa[nW hk]using h2
 have k0:0<k:=Nat.pos_of_ne_zero (λh=>by subst h;simp at hi);have hj:i/k<xs.length:=Nat.div_lt_of_lt_mul (by rw[Ig];exact hi);have e:=Yw hk xs [] (i/k) hj;rw[dV]at e;have hm:i%k<k:=Nat.mod_lt _ k0;have e2:=congrArg (λl=>l[i%k]?) e;simp only[QX hm,QY]at e2;have e3:i/k*k+i%k=i:=by rw[Ig];exact Bq i k
 rw[e3]at e2;have e4:(gN enc xs)[i]? =some ((gN enc xs)[i]'Kq):=kx _;rw[e4]at e2;have e5:(xs.toArray[i/k]!)=xs[i/k]:=by simp[hj]
 simp only[flatK,Array.getElem_map,Array.toList_map,adq,Array.getElem_toList,Array.getElem_range];rw[e5];have h6:(enc xs[i/k])[i%k]? =some ((enc xs[i/k])[i%k]'(by rw[hk];exact hm)):=kx _;rw[h6]at e2;have e7:=Option.some.inj e2;rw[getElem!_pos (enc xs[i/k]) (i%k) (by rw[hk];exact hm),<-e7]
variable {us:List Value}
theorem T8(h:w.heap[b]? =some (.cells (us++sp).toArray t (0,0))):Holds id w b 0 us.toArray:=by
 intro j hj;have xU:j<us.length:=by simpa using hj
 refine⟨?_,by simp[World.frozen?,h]⟩;rw[KB h,lE,DQ,SH xU];simp[xU]
variable {vs:List Value}
theorem ams{n:Nat}(h:w.heap[b]? =some (.cells (us++sp).toArray t (0,0)))(hl:vs.length=us.length):aH (· =b) w (grow (putRow id (Sort.ahead w n) b 0 vs.toArray) os)/\(grow (putRow id (Sort.ahead w n) b 0 vs.toArray) os).heap[b]? =some (.cells (vs++sp).toArray t (0,0)):=by
 have k1:=(nxi w n).mono (Y:=(· =b)) (λ_ _ h=>h.elim);have k2:=nsg (Sort.ahead w n) b (putCells id 0 vs.toArray);have k3:=(nMk (mapBlock (Sort.ahead w n) b (putCells id 0 vs.toArray)) os).mono (Y:=(· =b)) (λ_ _ h=>h.elim);refine⟨(k1.trans k2).trans k3,?_⟩;have h2:=nrg (w:=Sort.ahead w n) (putCells id 0 vs.toArray) (show(Sort.ahead w n).heap[b]? =_ from h);have h3:(grow (putRow id (Sort.ahead w n) b 0 vs.toArray) os).heap[b]? =(mapBlock (Sort.ahead w n) b (putCells id 0 vs.toArray)).heap[b]? :=by
  simp only[grow,putRow];rw[Vh];exact(aT.1 h2).1
 rw[h3,h2];congr 2;apply Array.ext';apply Cy;intro i;rw[NZ,NZ];simp only[putCells,Array.getElem?_mapIdx,DQ,cV,true_and,lE,qq,Nat.sub_zero];by_cases hi:i<vs.length
 ·rw[SH aa,SH aa];rw[kx (show i<us.length by omega),kx hi];simp[hi]
 rw[Z1 aa,Z1 aa,hl];have:¬i<us.length:=by omega
 cases sp[i-us.length]?<;>simp[hl,this]
theorem n0i{α:Type}[Inhabited α]{enc:α->List Value}(hk:∀x,(enc x).length=k){xs:List α}(h:w.heap[b]? =some (aO enc t xs sp)):HoldsK enc k w b 0 xs.toArray:=by
 unfold HoldsK;rw[nwk hk];exact T8 h
theorem YB{α:Type}[Inhabited α]{enc:α->List Value}(hk:∀x,(enc x).length=k){n:Nat}{xs ys:List α}(h:w.heap[b]? =some (aO enc t xs sp))(hl:ys.length=xs.length):aH (· =b) w (Go.Proofs.sortWorldK enc k w b 0 n ys.toArray os)/\(Go.Proofs.sortWorldK enc k w b 0 n ys.toArray os).heap[b]? =some (aO enc t ys sp):=by
 unfold Go.Proofs.sortWorldK putRowK;rw[nwk hk];exact ams h (by rw[nW hk,nW hk,hl])
section
variable {C:Cx} {Q:aZ} {E:Env} {D:List Deferred} {G:Gh} {L:List World} {H H0 H1:ad} {ops:Array Oper} {l:List Oper}
variable {d ty f:Nat} {pos:String} {aC:Array Edge} {g:Option (Nat×Bool)} {xo:List Operand} {vs:List Value} {eo:Array Nat}
variable {α:Type} {enc:α->List Value} {m:Nat}
variable {r:Rw}
theorem Ec{xs ys:List α}(v:Rw->Value)(hH:H=H0++(r.hp enc t xs++H1))(az:eg C.P f)(hw:nl ops E g=some true)(hN:Nat.blt d C.N=true)(ha:iV E xo=some vs)(amt:r= .nil->∀W,St G L H W->Calls C.P f vs.toArray W (λe w'=>e= .returned (v .nil)/\ys=[]/\Below W.heap.size W w'))(uj:∀b cap sp,r= .row b cap sp->∀W,St G L H W->W.heap[b]? =some (aO enc t xs sp)->Calls C.P f vs.toArray W (λe w'=>∃bU,e= .returned (v (.row b cap bU))/\aH (· =b) W w'/\(Rw.row b cap bU).Fit m ys/\w'.heap[b]? =some (aO enc t ys bU)))(k:∀r':Rw,r'.Fit m ys->(r.Fr G L->r'.Fr G L)->(∀n,r.ge n->r'.ge n)->(∀n,r'.val n=r.val n)->OJ C ops Q l ((d,v r')::E) D G L (H0++(r'.hp enc t ys++H1))):OJ C ops Q (⟨some d,.call ⟨.value (.func f),xo.toArray,eo⟩,ty,pos,aC,g⟩::l) E D G L H:=by
 cases r with
 |nil=>
  refine nI rfl hw rfl ha zJ az λa W iW hD hF hS=>(amt rfl W hS).mono ?_;rintro e W' ⟨rfl,rfl,hb⟩;refine k .nil rfl id (λ_ h=>h) (λ_=>rfl) (a.put (some d) (v .nil)) W' z7 z5 (hF.put _ z6) ?_;rw[hH]at hS;exact hS.step hb
 |row b cap sp=>
  have hi:H[H0.length]? =some (b,aO enc t xs sp):=by rw[hH];simp[Rw.hp]
  refine nI rfl hw rfl ha zJ az λa W iW hD hF hS=>(uj b cap sp rfl W hS (hS.own _ (cP hi))).mono ?_;rintro e W' ⟨bU,rfl,hk,bN,fj⟩;refine k (.row b cap bU) bN zL (λ_ h=>h) (λ_=>rfl) (a.put (some d) (v (.row b cap bU))) W' z7 z5 (hF.put _ z6) ?_;have:=hS.put hi hk fj;rw[hH]at this;simpa[Rw.hp]using this
end
end Px
