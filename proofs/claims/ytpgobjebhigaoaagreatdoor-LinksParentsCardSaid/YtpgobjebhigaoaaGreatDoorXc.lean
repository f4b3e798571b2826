/- Memory, operations, iterators, slices, maps. No condition beyond those stated. -/
import Derived.Test.YtpgobjebhigaoaaGreatDoorXb
import Derived.Laws.IdiomStrings
import Derived.Laws.BytesArg
import Derived.RecoverIn
import Derived.Laws.StructEq
import Derived.ProofKit
import Derived.LaidMore
import Derived.OpenShut
import Derived.Stop.Joined
import Derived.Carry
import Derived.Deep.Slices
set_option linter.unusedSimpArgs false
set_option linter.unusedVariables false
set_option linter.unusedSectionVars false
set_option linter.unnecessarySimpa false
set_option maxRecDepth 20000
set_option maxHeartbeats 8000000
namespace Px
open Go Go.RowKit
theorem nHh{P:Program}(W:World)(t tx ty e:TypeId)(i:TypeInfo)(z:Value)(ht:P.underlying t=some (.slice e))(htx:P.underlying tx=some (.int .i64))(hi:P.info? e=some i)(hz:i.zero=some z)(sS:z.cells=#[z])(hs:i.size=1)(hb:i.bytes=1)(n:Nat)(h0:0<n)(h1:n<=1099511627776):(Builtin.append_ #[t,tx] ty #[.slice none 0 0,.int .i64 (n:Int)]).run P W= .ok (.slice (some ⟨W.heap.size,0,none⟩) n (grownCap W n 0 e)) (W.drew.alloc (.cells (cf (grownCap W n 0 e) (λ_=>z)) e (0,0))):=by
 have hw:IntKind.i64.wrap (n:Int)=(n:Int):=GP zJ zJ;have h48:¬(281474976710656<Builtin.nextslicecap n 0*i.bytes):=by
  have:=growslice_fits (need:=n) (old:=0) (bytes:=i.bytes) zJ (by rw[hb];omega);omega
 have kU:=grownCap_ge W n 0 e;have adY:∀k,Builtin.zeroCells z.cells k=cf k (λ_=>z):=by
  intro k;apply Array.ext';rw[sS];simp[Builtin.zeroCells,cf,Nat.mod_one]
 have adZ:cf n (λ_=>z)++cf (grownCap W n 0 e-n) (λ_=>z)=cf (grownCap W n 0 e) (λ_=>z):=by
  apply Array.ext';simp only[cf,Array.toList_append];rw[List.map_const',List.map_const',List.map_const'];simp only[List.length_range];rw[List.replicate_append_replicate];congr 1;omega
 rw[<-adZ];simp[Builtin.append_,run_underlying ht,run_underlying htx,Go.sizeOf,typeInfo,zeroValue,hi,hz,asInt,asIntOf,hw,hs,hb,show ¬((n:Int)<0) by omega,show ¬(281474976710656<(n:Int)) by omega,Nat.not_le.2 h0,
  show ¬(9223372036854775807<(n:Int)) by omega,Question.forced,Builtin.firstCells,newRow,grownCap,adY,show n≠0 by omega]at h48 ⊢
 intro h;omega
structure qm where
 b:Nat
 off:Nat
 n:Nat
 c:Nat
 m:Nat->Int
def qm.val (s:qm):Value:=.slice (some ⟨s.b,s.off,none⟩) s.n s.c
def iK (n:Nat) (m:Nat->Int):List Value:=(List.range n).map λi=>.int .u8 (m i)
def qm.l (s:qm):List Value:=iK s.n s.m
def qm.At (s:qm) (w:World):Prop:=∃cs t fr,w.heap[s.b]? =some (.cells cs t fr)/\s.off+s.n<=cs.size/\∀i,i<s.n->cs[s.off+i]? =some (.int .u8 (s.m i))
theorem uO(n:Nat)(m:Nat->Int):(iK n m).length=n:=by simp[iK]
theorem xr(n:Nat)(m:Nat->Int):∀u∈iK n m,u.oneCell'=true:=by
 intro u hu;obtain⟨i,_,rfl⟩:=bW.1 hu;rfl
variable {aA:Array Edge} {es:Array MapEntry} {dJ:Array Nat} {ops:Array Oper} {cs:Array Value} {C:Cx} {R:Ending->World->Prop} {E:Env} {ex:Exit} {G:Gh} {H H' H0:ab} {K:IntKind} {dX:List (List Nat)} {ps:List (Nat×Operand)} {Ph:List (Option Value)->List World->ab->Prop} {ch ds rest:List Nat} {rs:List ResultVar} {ys zs:List UInt8} {news sp bG us vs:List Value} {L:List World} {N N' T b e f i j k kt m tx ty u:Nat} {fr:Nat×Nat} {o:Obj} {fv x:Operand} {hi:Option Operand} {pos:String} {sv v:Value} {W W' w':World}
theorem XR{off n:Nat}{m:Nat->Int}(h:off+n<=cs.size)(hm:∀i,i<n->cs[off+i]? =some (.int .u8 (m i))):(cs.toList.drop off).take (n*1)=iK n m:=by
 apply tS;intro i;by_cases hi:i<n
 ·rw[I2 zJ,uL,vY,hm i hi];simp[iK,hi]
 rw[so jB,so (by rw[uO];omega)]
def nN:List qm->List Value
 | []=>[]
 |s::ss=>s.l++nN ss
theorem nQn(ss:List qm)(s:qm):nN (ss++[s])=nN ss++s.l:=by
 induction ss with
 |nil=>simp[nN]
 |cons x ss ih=>simp[nN,ih]
theorem XP(ss:List qm)(j:Nat)(h:j<ss.length):nN (ss.take (j+1))=nN (ss.take j)++ss[j].l:=by
 rw[GK h,nQn]
theorem nig(ss:List qm):∀j,(nN (ss.take j)).length<=(nN ss).length:=by
 induction ss with
 |nil=>intro j;simp[nN]
 |cons x ss ih=>intro j;cases j with
  |zero=>simp[nN]
  |succ j=>simp only[Rx,nN,cK];have:=ih j;omega
section
variable {C:Cx} {Q:aC} {E:Env} {D:List Deferred} {G:Gh} {L:List World} {H:ab} {ops:Array Oper} {l:List Oper}
variable {d T ty f:Nat} {pos:String} {aA:Array Edge} {g:Option (Nat×Bool)} {x y:Operand}
theorem XN{n t:Nat}{ti:TypeInfo}{z:Value}(hU:C.P.underlying t=some (.slice e))(hUx:C.P.underlying tx=some (.int .i64))(pj:C.P.info? e=some ti)(hz:ti.zero=some z)(sS:z.cells=#[z])(hs:ti.size=1)(hb:ti.bytes=1)(hw:np ops E g=some true)(hN:Nat.blt d C.N=true)(hx:ev E x=some (.slice none 0 0))(hy:ev E y=some (.int .i64 (n:Int)))(h0:0<n)(h1:n<=1099511627776)(k:∀(b cap:Nat),ad L b->bD H b->n<=cap->OJ C ops Q l ((d,.slice (some ⟨b,0,none⟩) n cap)::E) D G L ((b,.cells (cf cap (λ_=>z)) e (0,0))::H)):OJ C ops Q (⟨some d,.call ⟨.builtin .append,#[x,y],#[t,tx]⟩,ty,pos,aA,g⟩::l) E D G L H:=
 oG zX hw hN λa W hF hS=>by
  have hr:=nHh (P:=C.P) W t tx ty e ti z hU hUx pj hz sS hs hb n h0 h1;have fq:=(hS.step (Eb W (W.drawn+1))).alloc (.cells (cf (grownCap W n 0 e) (λ_=>z)) e (0,0));refine⟨_,_,_,_,?_,fq,k W.heap.size _ hS.sizes hS.offNew (grownCap_ge W n 0 e)⟩;simp[execOp,hF.ev hx,hF.ev hy,resolve,invoke,Deferred.ofValue,builtin,hr]
theorem Un{xs:List Operand}{α:Type}{v:α->Value}{bo:α->Nat×Obj}{Φ:α->Prop}(az:dP C.P f)(hw:np ops E g=some true)(hN:Nat.blt d C.N=true)(ha:gR E xs=some vs)(hc:∀W,St G L H W->Calls C.P f vs.toArray W (cJ W v (λx w1=>W.heap.size<=(bo x).1/\Φ x/\w1.heap[(bo x).1]? =some (bo x).2)))(k:∀x,ad L (bo x).1->bD H (bo x).1->Φ x->OJ C ops Q l ((d,v x)::E) D G L (bo x::H)):OJ C ops Q (⟨some d,.call ⟨.value (.func f),xs.toArray,dJ⟩,ty,pos,aA,g⟩::l) E D G L H:=
 nX rfl hw rfl ha zX az λa W gQ hD hF hS=>(hc W hS).mono (by
  rintro e W' ⟨x,rfl,hb,h1,h2,h3⟩;have lS:bD H (bo x).1:=bD.of_mem λhm=>by
   obtain⟨p,hp,e⟩:=bW.1 hm;have:=hS.lt p hp;omega
  have pb:ad L (bo x).1:=ad.of_mem λw hw=>aR (hS.links w hw).size h1;exact k x pb lS h2 (a.put (some d) (v x)) W' jY jr (hF.put _ kT)
   ((hS.step hb).adopt h3 lS (λhv=>by have:=hS.vlt _ hv;omega)))
def sB (s:ByteArray) (i:Nat):Int:=((s.data[i]?.getD 0).toNat:Int)
theorem ncm(s:ByteArray)(c i:Nat)(h:i<s.size):(bytesRow s c)[0+i]? =some (.int .u8 (sB s i)):=by
 have h':i<s.data.size:=h;rw[iC];unfold bytesRow sB;rw[Oe (by simpa using h')];simp only[Array.getElem?_map,Gn h',uW,Option.getD_some]
theorem nvk(s:ByteArray)(c:Nat):s.size<=(bytesRow s c).size:=by
 unfold bytesRow;simp only[Array.size_append,Array.size_map];exact Nat.le_add_right _ _
theorem O6{src dst:Nat}{s:ByteArray}(hs:C.P.underlying src=some .string)(hd:C.P.underlying dst=some (.slice e))(he:C.P.underlying e=some (.int .u8))(hw:np ops E g=some true)(hN:Nat.blt d C.N=true)(hx:ev E x=some (.string s))(k:∀(b cap:Nat) (w1:World) (cs:Array Value) (fr:Nat×Nat),w1.heap[b]? =some (.cells cs e fr)->ad L b->bD H b->¬G.X b->w1.heap.size=b+1->s.size<=cap->0+s.size<=cs.size->(∀i,i<s.size->cs[0+i]? =some (.int .u8 (sB s i)))->OJ C ops Q l ((d,.slice (some ⟨b,0,none⟩) s.size cap)::E) D G (w1::L) H):OJ C ops Q (⟨some d,.convert src dst x,ty,pos,aA,g⟩::l) E D G L H:=
 oG zX hw hN λa W hF hS=>by
  have hr:=run_bytes_of_string (P:=C.P) W src dst e s hs hd he;have fq:=((hS.step (Eb W (W.drawn+1))).step (Sg _ (.cells (bytesRow s (grownCap W s.size 0 e)) e ((bytesRow s (grownCap W s.size 0 e)).size,(bytesRow s (grownCap W s.size 0 e)).size+1)))).snap;refine⟨_,_,_,_,?_,fq,k W.heap.size _ _ _ _ (heap_alloc_new W.drew _) hS.sizes hS.offNew hS.mNew zX (grownCap_ge W s.size 0 e) (by rw[iC];exact nvk s _) (λi hi=>ncm s _ i hi)⟩;simp[execOp,hF.ev hx,hr]
theorem sH{n:Nat}{z:Value}{vs:List (Nat×Value)}(hU:C.P.underlying T=some (.array n e))(hz:tF C.P T z)(hp:nZ C.P e m)(ha:Gt E ps=some vs)(hs:vs=tK 0 (vs.map (·.2)))(hl:z.cells.size=vs.length*m)(hm:Mt m (vs.map (·.2))=true):RV C G L H E (.build T ps.toArray) (.agg (Gu (vs.map (·.2))).toArray):=λd ty pos aA g a W hF _=>by
 have hf:=Ms (pl:=λi=>some (i*m,m)) (ps:=vs) (cs:=z.cells) (ds:=Gu (vs.map (·.2))) (by
  have:=TM m (vs.map (·.2)) 0 [] z.cells.toList hm zX wv;rw[<-hs,dK,dK]at this;exact this)
 have h2:(ps.toArray).map (λ(i,x)=>(i,a.eval x))=vs.toArray:=by rw[wK,Mr hF ps vs ha]
 simp[execOp,h2,Instr.build,hz W,run_underlying hU,hp W,hf]
theorem O1(hU:C.P.underlying T=some (.slice e))(hZ:nZ C.P e m)(hx:ev E x=some (.slice none 0 0))(hh:BE E hi 0 0):RV C G L H E (.slice T x none hi none) (.slice none 0 0):=λd ty pos aA g a W hF _=>by
 have:=nOk (P:=C.P) (W:=W) hF true (lo:=none) (hi:=hi) (n:=0) (c:=0) (l:=0) (h:=0) rfl hh (ao _) (ao _);simp only[Option.map_none]at this;simp[execOp,hF.ev hx,Instr.sliceAt,Instr.slice,run_underlying hU,this,hZ W]
end
end Px
namespace Px

end Px
namespace Px
open Go Go.RowKit
/-! ### rows of bytes -/
def ub (l:List UInt8):List Value:=l.map λb=>Value.int .u8 b.toNat
theorem uR(l:List UInt8):(ub l).length=l.length:=by simp[ub]
theorem xO(a b:List UInt8):ub (a++b)=ub a++ub b:=by simp[ub]
theorem Yg(l:List UInt8):∀u∈ub l,u.oneCell'=true:=by
 intro u hu;obtain⟨i,_,rfl⟩:=bW.1 hu;rfl
def fU (l:List UInt8) (i:Nat):Int:=((l[i]?.getD 0).toNat:Int)
theorem nzm(l:List UInt8):ub l=iK l.length (fU l):=by
 apply tS;intro i;by_cases h:i<l.length
 ·simp[ub,iK,fU,h]
 rw[so (by rw[uR];omega),so (by rw[uO];omega)]
theorem Pr(l:List UInt8)(sp:List Value)(i:Nat)(h:i<l.length):((ub l++sp).toArray)[0+i]? =some (.int .u8 (fU l i)):=by
 rw[iC,B7,vZ (by rw[uR];exact h)];simp[ub,fU,h]
abbrev aW (b n cap:Nat):Value:=.slice (some ⟨b,0,none⟩) n cap
abbrev aV (e:Nat) (xs:List UInt8) (sp:List Value):Obj:=.cells (ub xs++sp).toArray e (0,0)
structure cy (xs:List UInt8) (cap:Nat) (sp:List Value):Prop where
 le:xs.length<=cap
 sp:sp.length=cap-xs.length
structure tT (P:Program) (t e:Nat):Prop where
 und:P.underlying t=some (.slice e)
 el:P.underlying e=some (.int .u8)
 info:∃ti,P.info? e=some ti/\ti.zero=some (.int .u8 0)/\ti.size=1/\ti.bytes=1
 sz:nZ P e 1
section
variable {G:Gh} {L:List World} {H:ab} {W:World}
variable {b i:Nat} {o:Obj}
theorem St.renewF(h:St G L H W)(o':Obj)(hi:H[i]? =some (b,o))(ha:Fr G L b):St G L (H.set i (W.heap.size,o')) (W.alloc o'):=by
 have rO:=(gi.1 hi).1;have hp:H.Perm ((b,o)::H.eraseIdx i):=Mw H i _ hi;exact(((h.perm hp).dropF ha).alloc o').perm (W6 H i _ rO).symm
theorem St.dropAtF(h:St G L H W)(hi:H[i]? =some (b,o))(ha:Fr G L b):St G L (H.eraseIdx i) W:=
 (h.perm (Mw H i _ hi)).dropF ha
theorem Fr.up(h:St G L H W)(hb:W.heap.size<=b):Fr G L b:=.inr (ad.of_mem λw hw=>aR (h.links w hw).size hb)
theorem IJ(h:St G L H W)(hb:W.heap.size<=b):ad L b:=ad.of_mem λw hw=>aR (h.links w hw).size hb
theorem BO(h:St G L H W)(hb:W.heap.size<=b):bD H b:=bD.of_mem λhm=>by
 obtain⟨p,hp,e⟩:=bW.1 hm;have:=h.lt p hp;omega
variable {news sp:List Value} {e m tx ty:Nat} {sv:Value}
theorem St.app{P:Program}{n len cap t:Nat}{ti:TypeInfo}{z:Value}{ys:List Value}(hS:St G L H W)(hi:H[i]? =some (b,.cells (ys++sp).toArray e (0,0)))(hU:P.underlying t=some (.slice e))(pj:P.info? e=some ti)(hz:ti.zero=some z)(hm:ti.size=m)(yH:z.cells.size=m)(rD:Src P m tx sv n news W)(hlen:ys.length=len*m)(xR:sp.length=(cap-len)*m)(Yd:len<=cap)(ha:Fr G L b)(h63:len+n<=9223372036854775807)(mD:(len+n)*ti.bytes<=140737488355328):∃b' aP bG W',(Builtin.append_ #[t,tx] ty #[.slice (some ⟨b,0,none⟩) len cap,sv]).run P W= .ok (.slice (some ⟨b',0,none⟩) (len+n) aP) W'/\St G L (H.set i (b',.cells (ys++news++bG).toArray e (0,0))) W'/\(b'=b\/W.heap.size<=b')/\len+n<=aP/\bG.length=(aP-(len+n))*m:=by
 subst hm;have hb:=hS.own _ (cb hi);have Ky:=rD.newsLen;by_cases iA:len+n<=cap
 ·have hle:(len+n)*ti.size<=cap*ti.size:=s4 _ iA;have iW:(ys++sp).toArray.size=cap*ti.size:=by
   simp only[qF,cK,hlen,xR];rw[<-kN];congr 1;omega
  rw[kN]at hle;have hr:=run_append_room_src (P:=P) W t tx ty e ti hU pj b 0 len cap sv n news rD iA
   (λj hj=>by rw[Cc hb];simp only[iC];rw[Gn zJ];rfl)
   (λj hj=>by simp[World.frozen?,hb])
  obtain⟨h1,h2⟩:=nZd b news (0+len*ti.size) W _ _ hb;have jC:(sp.drop (n*ti.size)).length=(cap-(len+n))*ti.size:=by
   rw[yT,xR,<-Nat.sub_mul];congr 1;omega
  have hc:setCells (ys++sp).toArray (0+len*ti.size) news=(ys++news++sp.drop (n*ti.size)).toArray:=by
   exact z3i
  rw[hc]at h2;exact⟨_,_,_,_,hr,hS.put hi h1 h2,.inl rfl,iA,jC⟩
 have hold:(Builtin.firstCells ti.size len (.slice (some ⟨b,0,none⟩) len cap)).run P W.drew= .ok ys.toArray W.drew:=by
  exact znj
 have hr:=run_append_grow_src (P:=P) W t tx ty e ti z hU pj hz (some ⟨b,0,none⟩) len cap ys hold sv n news rD zJ zJ (growslice_fits zJ mD);have hg:=grownCap_ge W (len+n) cap e;have fq:=(hS.step (Eb W (W.drawn+1))).renewF (.cells ((ys++news).toArray++Builtin.zeroCells z.cells (grownCap W (len+n) cap e-(len+n))) e (0,0)) hi ha;have Hx:(Builtin.zeroCells z.cells (grownCap W (len+n) cap e-(len+n))).toList.length=(grownCap W (len+n) cap e-(len+n))*ti.size:=by
  simp[Builtin.zeroCells,yH]
 have hc:(ys++news).toArray++Builtin.zeroCells z.cells (grownCap W (len+n) cap e-(len+n))=(ys++news++(Builtin.zeroCells z.cells (grownCap W (len+n) cap e-(len+n))).toList).toArray:=by
  apply Array.ext';simp
 rw[hc]at fq hr;exact⟨_,_,_,_,hr,fq,.inr (ao _),hg,Hx⟩
theorem St.appN{P:Program}{n t:Nat}{ti:TypeInfo}{z:Value}(hS:St G L H W)(hU:P.underlying t=some (.slice e))(pj:P.info? e=some ti)(hz:ti.zero=some z)(hm:ti.size=m)(yH:z.cells.size=m)(rD:Src P m tx sv n news W)(h0:0<n)(h63:n<=9223372036854775807)(mD:n*ti.bytes<=140737488355328):∃aP bG W',(Builtin.append_ #[t,tx] ty #[.slice none 0 0,sv]).run P W= .ok (.slice (some ⟨W.heap.size,0,none⟩) n aP) W'/\St G L ((W.heap.size,.cells (news++bG).toArray e (0,0))::H) W'/\n<=aP/\bG.length=(aP-n)*m:=by
 subst hm;have hold:(Builtin.firstCells ti.size 0 (.slice none 0 0)).run P W.drew= .ok ([]:List Value).toArray W.drew:=by simp[Builtin.firstCells]
 have hr:=run_append_grow_src (P:=P) W t tx ty e ti z hU pj hz none 0 0 [] hold sv n news rD zJ zJ (growslice_fits zJ (by rw[iC];exact mD));rw[iC]at hr;have hg:=grownCap_ge W n 0 e;have fq:=(hS.step (Eb W (W.drawn+1))).alloc (.cells (([]++news:List Value).toArray++Builtin.zeroCells z.cells (grownCap W n 0 e-n)) e (0,0));have hc:([]++news:List Value).toArray++Builtin.zeroCells z.cells (grownCap W n 0 e-n)=(news++(Builtin.zeroCells z.cells (grownCap W n 0 e-n)).toList).toArray:=by
  apply Array.ext';simp
 rw[hc]at fq hr;exact⟨_,_,_,hr,fq,hg,by simp[Builtin.zeroCells,yH]⟩
end
section
variable {C:Cx} {Q:aC} {E:Env} {D:List Deferred} {G:Gh} {L:List World} {H:ab} {ops:Array Oper} {l:List Oper}
variable {d T ty f:Nat} {pos:String} {aA:Array Edge} {g:Option (Nat×Bool)} {x y:Operand} {xs:List Operand} {vs:List Value} {dJ:Array Nat}
def gS (C:Cx) (G:Gh) (L:List World) (H:ab) (tx:Nat) (sv:Value) (zs:List UInt8):Prop:=jh C G L H 1 tx sv zs.length (ub zs)
variable {zs:List UInt8} {sp:List Value} {b i tx:Nat} {fr:Nat×Nat}
theorem gS.own{e' c t:Nat}(hU:C.P.underlying tx=some (.slice e'))(hi:H[i]? =some (b,.cells (ub zs++sp).toArray t fr)):gS C G L H tx (aW b zs.length c) zs:=
 jh.sl hU (Rd.own hi (by simp only[qF,cK,uR];omega) (by simp only[P0,sm];rw[<-uR zs,PT rfl])) (by rw[uR,sm]) (Yg _)
theorem gS.str{s:ByteArray}(hU:C.P.underlying tx=some .string):gS C G L H tx (.string s) s.data.toList:=
 ⟨.inr hU,λ_=>rfl,Rd.str,by rw[uR,sm],Yg _⟩
variable {e:Nat} {sv:Value}
theorem GV{cap t:Nat}{xs:List UInt8}(hi:H[i]? =some (b,aV e xs sp))(hB:tT C.P t e)(hw:np ops E g=some true)(hN:Nat.blt d C.N=true)(hx:ev E x=some (aW b xs.length cap))(hy:ev E y=some sv)(hs:gS C G L H tx sv zs)(hr:cy xs cap sp)(ha:Fr G L b)(gA:xs.length+zs.length<=1000000000000)(k:∀(b' aP:Nat) (bG:List Value),Fr G L b'->cy (xs++zs) aP bG->OJ C ops Q l ((d,aW b' (xs++zs).length aP)::E) D G L (H.set i (b',aV e (xs++zs) bG))):OJ C ops Q (⟨some d,.call ⟨.builtin .append,#[x,y],#[t,tx]⟩,ty,pos,aA,g⟩::l) E D G L H:=
 oG zX hw hN λa W hF hS=>by
  obtain⟨ti,pj,hz,iW,ox⟩:=hB.info;obtain⟨b',aP,bG,W',fZ,fq,ef,vO,jC⟩:=hS.app (P:=C.P) (ty:=ty) hi hB.und pj hz iW rfl (hs.src hS) (by rw[uR,sm]) (by rw[hr.sp,sm]) hr.le ha zJ (by rw[ox];omega);have TO:Fr G L b':=by
   rcases ef with rfl|ef
   ·exact ha
   exact Fr.up hS ef
  have hl:(xs++zs).length=xs.length+zs.length:=cK;refine⟨.slice (some ⟨b',0,none⟩) (xs.length+zs.length) aP,W',L,_,?_,fq,?_⟩
  ·simp[execOp,hF.ev hx,hF.ev hy,resolve,invoke,Deferred.ofValue,builtin,fZ]
  have:=k b' aP bG TO ⟨by rw[hl];exact vO,by rw[hl,jC,sm]⟩;rw[hl]at this;simpa only[aV,xO]using this
theorem apN{t:Nat}(hB:tT C.P t e)(hw:np ops E g=some true)(hN:Nat.blt d C.N=true)(hx:ev E x=some (.slice none 0 0))(hy:ev E y=some sv)(hs:gS C G L H tx sv zs)(h0:0<zs.length)(gA:zs.length<=1000000000000)(k:∀(b' aP:Nat) (bG:List Value),ad L b'->bD H b'->¬G.X b'->cy zs aP bG->OJ C ops Q l ((d,aW b' zs.length aP)::E) D G L ((b',aV e zs bG)::H)):OJ C ops Q (⟨some d,.call ⟨.builtin .append,#[x,y],#[t,tx]⟩,ty,pos,aA,g⟩::l) E D G L H:=
 oG zX hw hN λa W hF hS=>by
  obtain⟨ti,pj,hz,iW,ox⟩:=hB.info;obtain⟨aP,bG,W',fZ,fq,vO,jC⟩:=hS.appN (P:=C.P) (ty:=ty) hB.und pj hz iW rfl (hs.src hS) h0 zJ (by rw[ox];omega);refine⟨.slice (some ⟨W.heap.size,0,none⟩) zs.length aP,W',L,_,?_,fq,k W.heap.size aP bG hS.sizes hS.offNew hS.mNew ⟨vO,by rw[jC,sm]⟩⟩;simp[execOp,hF.ev hx,hF.ev hy,resolve,invoke,Deferred.ofValue,builtin,fZ]
/-! #### functions that are lent a row and give one back -/
def I8 (w:World) (b e:Nat) (ys:List UInt8):Ending->World->Prop:=λed w'=>
 ∃b' aP bG,ed= .returned (aW b' ys.length aP)/\aF (· =b) w w'/\(b'=b\/w.heap.size<=b')/\cy ys aP bG/\w'.heap[b']? =some (aV e ys bG)
def Ya (w:World) (e:Nat) (ys:List UInt8):Ending->World->Prop:=λed w'=>
 ∃b' aP bG,ed= .returned (aW b' ys.length aP)/\Below w.heap.size w w'/\w.heap.size<=b'/\cy ys aP bG/\w'.heap[b']? =some (aV e ys bG)
variable {o:Obj}
theorem xv{w:World}(h:w.heap[b]? =some o):St (Gh.lent (· =b)) [w] [(b,o)] w where
 ghost:=trivial
 vlt:=λ_ h=>h.elim
 xlt:=λk hk=>by
  have:k=b:=hk;subst this;exact(aT.1 h).1
 links:=λw' hw=>by simp at hw;subst hw;exact aF.refl _ _
 own:=λp hp=>by simp at hp;subst hp;exact h
 nodup:=λi j p q hi hj _=>by
  have h1:=(gi.1 hi).1;have h2:=(gi.1 hj).1;simp at h1 h2;omega
 apart:=λ_ _ h=>h.elim
def iY (Z:Nat->Prop) (n:Nat):ab->Prop
 | []=>True
 |p::H=>(Z p.1\/n<=p.1)/\iY Z n H
theorem iY.mem{Z:Nat->Prop}{n:Nat}(h:iY Z n H):∀p∈H,Z p.1\/n<=p.1:=by
 exact zyj
variable {W:World}
theorem St.baseX{Z:Nat->Prop}{w:World}(h:St (Gh.lent Z) L H W)(hw:w∈L)(ho:iY Z w.heap.size H):aF Z w W:=
 (h.links w hw).mono λk hk hx=>by
  rcases hx with hx|hx
  ·exact hx
  obtain⟨p,hp,rfl⟩:=bW.1 hx;rcases ho.mem p hp with h|h
  ·exact h
  omega
section
variable {fn:Func}
variable {ex:Exit} {ys:List UInt8} {bG:List Value}
theorem Ut{t b' aP:Nat}{w:World}(he:ex= .ret\/ex= .normal)(hr:fn.results=#[.tmp t])(hv:look E t=some (aW b' ys.length aP))(hi:H[i]? =some (b',aV e ys bG))(hw:w∈L)(ho:iY (· =b) w.heap.size H)(hk:cy ys aP bG):PJ C (bodyPost C.P fn (I8 w b e ys)) ex E [] (Gh.lent (· =b)) L H:=
 bH he (rs:=[.tmp t]) hr (RS.t hv RS.n) λW hS=>⟨b',aP,bG,rfl,hS.baseX hw ho,ho.mem _ (cb hi),hk,hS.own _ (cb hi)⟩
theorem Jf{t b' aP:Nat}{w:World}(he:ex= .ret\/ex= .normal)(hr:fn.results=#[.tmp t])(hv:look E t=some (aW b' ys.length aP))(hi:H[i]? =some (b',aV e ys bG))(hw:w∈L)(ho:Over w.heap.size H)(hk:cy ys aP bG):PJ C (bodyPost C.P fn (Ya w e ys)) ex E [] Gh.no L H:=
 bH he (rs:=[.tmp t]) hr (RS.t hv RS.n) λW hS=>⟨b',aP,bG,rfl,hS.base hw ho,ho.mem _ (cb hi),hk,hS.own _ (cb hi)⟩
end
variable {ys:List UInt8}
theorem M5{first cap:List Value}(hi:H[i]? =some (b,o))(hx:ev E x=some (.func (.func f) first.toArray cap.toArray))(az:dP C.P f)(hw:np ops E g=some true)(hN:Nat.blt d C.N=true)(ha:gR E xs=some vs)(hF:Fr G L b)(hc:∀W,St G L H W->W.heap[b]? =some o->Calls C.P f (first++vs++cap).toArray W (I8 W b e ys))(k:∀b' aP bG,Fr G L b'->cy ys aP bG->OJ C ops Q l ((d,aW b' ys.length aP)::E) D G L (H.set i (b',aV e ys bG))):OJ C ops Q (⟨some d,.call ⟨.value x,xs.toArray,dJ⟩,ty,pos,aA,g⟩::l) E D G L H:=
 nX rfl hw hx ha zX az λa W gQ hD IE hS=>(hc W hS (hS.own _ (cb hi))).mono (by
  rintro ed W' ⟨b',aP,bG,rfl,hk,ef,hr,fJ⟩;have SY:=λTO fq=>k b' aP bG TO hr (a.put (some d) (aW b' ys.length aP)) W' jY jr (IE.put _ kT) fq;rcases ef with rfl|ef
  ·exact SY hF (hS.put hi hk fJ)
  refine SY (Fr.up hS ef) ?_;have jf:=(aT.1 (hS.own _ (cb hi))).1;obtain⟨ob,vv⟩:∃ob,W'.heap[b]? =some ob:=⟨W'.heap[b]'(jT jf hk.size),Gn _⟩;have h1:=hS.put hi hk vv;have rO:=(gi.1 hi).1;have h2:(H.set i (b,ob))[i]? =some (b,ob):=by rw[Iu rO]
  have h3:=(h1.perm (Mw _ _ _ h2)).dropF hF;have hse:(H.set i (b,ob)).eraseIdx i=H.eraseIdx i:=by rw[List.eraseIdx_set_eq]
  rw[hse]at h3;have lS:bD (H.eraseIdx i) b':=bD.of_mem λhm=>by
   obtain⟨p,hp,e⟩:=bW.1 hm;have:=hS.lt p (List.mem_of_mem_eraseIdx hp);omega
  have h4:=h3.adopt fJ lS (λhv=>by have:=hS.vlt _ hv;omega);exact h4.perm (W6 H i _ rO).symm)
theorem OJ.dropF(hi:H[i]? =some (b,o))(ha:Fr G L b)(k:OJ C ops Q l E D G L (H.eraseIdx i)):OJ C ops Q l E D G L H:=λa W hN hD hF hS=>k a W hN hD hF (hS.dropAtF hi ha)
variable {ps:List (Nat×Operand)}
theorem M1{n:Nat}{z:Value}{vs:List (Nat×Value)}(zs:List UInt8)(hB:tT C.P T e)(hz:tF C.P e z)(hw:np ops E g=some true)(hN:Nat.blt d C.N=true)(ha:Gt E ps=some vs)(Mu:Nat.ble (n*1) 16777216=true)(hs:vs=tK 0 (vs.map (·.2)))(hl:vs.length=n)(hm:Mt 1 (vs.map (·.2))=true)(yH:Gu (vs.map (·.2))=ub zs)(hn:n=zs.length)(k:∀(b:Nat),ad L b->bD H b->¬G.X b->cy zs n []->OJ C ops Q l ((d,aW b zs.length n)::E) D G L ((b,aV e zs [])::H)):OJ C ops Q (⟨some d,.buildSlice T n ps.toArray,ty,pos,aA,g⟩::l) E D G L H:=
 oG zX hw hN λa W hF hS=>⟨_,_,_,_,nGd hB.und hB.sz hz (Mr hF ps vs ha) Mu (Ms (by
  have:=TM 1 (vs.map (·.2)) 0 [] ((Array.range (n*1)).map (λj=>((if n*1=0 then #[]else z.cells)[j%(if n*1=0 then #[]else z.cells).size]!))).toList hm zX (by rw[nTg,fp,hl]);rw[<-hs,dK,dK]at this;exact this)),hS.alloc _,by
   have:=k W.heap.size hS.sizes hS.offNew hS.mNew ⟨by omega,by simp;omega⟩;rw[yH];simp only[aV,dH]at this;rw[<-hn]at this;exact this⟩
end
/-! ### values of the codec -/
inductive V where
 |int (n:Int)
 |text (s:ByteArray)
 |list (l:List V)
theorem V.ind{p:V->Prop}(h1:∀n,p (.int n))(h2:∀s,p (.text s))(h3:∀l,(∀y∈l,p y)->p (.list l)):∀x,p x:=by
 intro x;exact V.rec (motive_1:=p) (motive_2:=λl=>∀y∈l,p y) h1 h2 h3 zX (λx l hx hl y hy=>by
  rcases cI.1 hy with rfl|hy
  ·exact hx
  exact hl y hy) x
def V.kind:V->Int
 | .int _=>1
 | .text _=>2
 | .list _=>3
def num (u:Nat):List UInt8:=if h:u<128 then[UInt8.ofNat u]else UInt8.ofNat (u%128+128)::num (u/128)
termination_by u
decreasing_by omega
variable {u:Nat}
theorem Pg(h:u<128):num u=[UInt8.ofNat u]:=by rw[num,dif_pos h]
theorem XW(h:¬u<128):num u=UInt8.ofNat (u%128+128)::num (u/128):=by rw[num,dif_neg h]
theorem Du(u:Nat):0<(num u).length:=by
 by_cases h:u<128
 ·rw[Pg h];simp
 rw[XW h];simp
theorem nYm:∀(k u:Nat),u<128^k->0<k->(num u).length<=k
 |0,_,_,h=>by omega
 |k+1,u,hu,_=>by
  by_cases h:u<128
  ·rw[Pg h];simp
  rw[XW h];simp only[dQ];cases k with
  |zero=>simp at hu;omega
  |succ k=>
   have h2:u/128<128^(k+1):=Nat.div_lt_of_lt_mul (by rw[Nat.pow_succ,rE]at hu;exact hu);have:=nYm (k+1) (u/128) h2 zJ;omega
theorem B8(h:u<18446744073709551616):(num u).length<=10:=nYm 10 u (jT h zO) zJ
def Dr (n:Int):Nat:=if 0<=n then(2*n).toNat else(-2*n-1).toNat
mutual
def V.enc:V->List UInt8
 | .int n=>1::num (Dr n)
 | .text s=>2::(num s.size++s.data.toList)
 | .list l=>3::(num l.length++V.encL l)
def V.encL:List V->List UInt8
 | []=>[]
 |x::l=>V.enc x++V.encL l
end
mutual
def V.depth:V->Nat
 | .int _=>0
 | .text _=>0
 | .list l=>V.depthL l+1
def V.depthL:List V->Nat
 | []=>0
 |x::l=>max (V.depth x) (V.depthL l)
end
theorem V.encL_take_le(l:List V):∀i,(V.encL (l.take i)).length<=(V.encL l).length:=by
 induction l with
 |nil=>intro i;simp[V.encL]
 |cons x l ih=>intro i;cases i with
  |zero=>simp[V.encL]
  |succ i=>simp only[Rx,V.encL,cK];have:=ih i;omega
theorem V.depthL_snoc(l:List V)(x:V):V.depthL (l++[x])=max (V.depthL l) x.depth:=by
 induction l with
 |nil=>simp[V.depthL]
 |cons y l ih=>simp only[eP,V.depthL,ih];omega
theorem V.depthL_take(l:List V)(i:Nat)(h:i<l.length):V.depthL (l.take (i+1))=max (V.depthL (l.take i)) (l[i]).depth:=by
 rw[GK h,V.depthL_snoc]
mutual
def V.fine:V->Prop
 | .int n=> -9223372036854775808<=n/\n<=9223372036854775807
 | .text s=>s.size<=1000000000
 | .list l=>l.length<=1000000000/\V.depthL l<=1000000000/\V.fineL l
def V.fineL:List V->Prop
 | []=>True
 |x::l=>V.fine x/\V.fineL l
end
theorem V.fineL_mem:∀{l:List V},V.fineL l->∀x∈l,x.fine
 | [],_,x,hx=>by cases hx
 |y::l,h,x,hx=>by
  simp only[V.fineL]at h;rcases cI.1 hx with rfl|hx
  ·exact h.1
  exact V.fineL_mem h.2 x hx
theorem V.depthL_mem:∀{l:List V} (x:V),x∈l->x.depth<=V.depthL l
 | [],x,hx=>by cases hx
 |y::l,x,hx=>by
  simp only[V.depthL];rcases cI.1 hx with rfl|hx
  ·omega
  have:=V.depthL_mem (l:=l) x hx;omega
abbrev vI (n:Int):Value:=.agg #[.int .i64 1,.int .i64 n,.string ⟨#[]⟩,.slice none 0 0]
abbrev vT (s:ByteArray):Value:=.agg #[.int .i64 2,.int .i64 0,.string s,.slice none 0 0]
abbrev vL (base:Option Addr) (n cap:Nat):Value:=.agg #[.int .i64 3,.int .i64 0,.string ⟨#[]⟩,.slice base n cap]
mutual
def dM (N:Nat) (w:World):V->Value->Prop
 | .int n,v=>v=vI n
 | .text s,v=>v=vT s
 | .list l,v=>∃base cap,v=vL base l.length cap/\l.length<=cap/\(l=[]\/∃b cs t fr,base=some ⟨b,0,none⟩/\b<N/\w.heap[b]? =some (.cells cs t fr)/\eF N w cs 0 l)
def eF (N:Nat) (w:World) (cs:Array Value):Nat->List V->Prop
 |_,[]=>True
 |off,x::l=>off+4<=cs.size/\dM N w x (.agg (cut cs off 4))/\eF N w cs (off+4) l
end
theorem eF.get{N:Nat}{w:World}{cs:Array Value}:∀{l:List V} {off:Nat},eF N w cs off l->∀(i:Nat) (h:i<l.length),off+4*i+4<=cs.size/\dM N w l[i] (.agg (cut cs (off+4*i) 4))
 | [],_,_,i,h=>by simp at h
 |x::l,off,hv,i,h=>by
  simp only[eF]at hv;cases i with
  |zero=>exact⟨by omega,hv.2.1⟩
  |succ i=>
   have:=eF.get hv.2.2 i qz;rw[show off+4*(i+1)=off+4+4*i by omega];simpa using this
variable {N N':Nat} {w':World}
theorem dM.up{w:World}(hN:N<=N')(hw:∀k,k<N->w'.heap[k]? =w.heap[k]?):∀(x:V) (v:Value),dM N w x v->dM N' w' x v:=by
 refine V.ind ?_ ?_ ?_
 ·intro n v h;simpa only[dM]using h
 ·intro s v h;simpa only[dM]using h
 intro l ih v h;simp only[dM]at h ⊢;obtain⟨base,cap,hv,hc,hl⟩:=h;refine⟨base,cap,hv,hc,?_⟩;rcases hl with hl|⟨b,cs,t,fr,hb,hlt,hcs,hs⟩
 ·exact .inl hl
 refine .inr ⟨b,cs,t,fr,hb,by omega,(hw b hlt).trans hcs,?_⟩;clear hb hlt hcs hc hv;generalize 0=off at *;induction l generalizing off with
 |nil=>simp only[eF]
 |cons x l ihl=>
  simp only[eF]at hs ⊢;exact⟨hs.1,ih x zX _ hs.2.1,ihl (λy hy=>ih y (by simp[hy])) _ hs.2.2⟩
theorem dM.shape{w:World}:∀{x:V} {v:Value},dM N w x v->∃n s p m c,v= .agg #[.int .i64 x.kind,.int .i64 n,.string s,.slice p m c]
 | .int n,v,h=>by simp only[dM]at h;exact⟨_,_,_,_,_,h⟩
 | .text s,v,h=>by simp only[dM]at h;exact⟨_,_,_,_,_,h⟩
 | .list l,v,h=>by simp only[dM]at h;obtain⟨_,_,h,_⟩:=h;exact⟨_,_,_,_,_,h⟩
variable {G:Gh} {H:ab} {L:List World} {W:World}
theorem St.same{w:World}(h:St G L H W)(hw:w∈L)(hN:N<=w.heap.size)(hX:∀k,k<N->¬G.X k)(hH:Over N H):∀k,k<N->W.heap[k]? =w.heap[k]? :=λk hk=>
 (h.links w hw).block k zJ (λhx=>by
  rcases hx with hx|hx
  ·exact hX k hk hx
  obtain⟨p,hp,rfl⟩:=bW.1 hx;have:=hH.mem p hp;omega)
section
variable {C:Cx} {Q:aC} {E:Env} {D:List Deferred} {G:Gh} {L:List World} {H:ab} {ops:Array Oper} {l:List Oper}
variable {d T U ty f:Nat} {pos:String} {aA:Array Edge} {g:Option (Nat×Bool)} {x y:Operand} {xs:List Operand} {vs:List Value} {dJ:Array Nat}
theorem qI{s:ByteArray}{t:Nat}(hU:C.P.underlying t=some .string)(hx:ev E x=some (.string s)):RV C G L H E (.call ⟨.builtin .len,#[x],#[t]⟩) (.int .i64 (s.size:Int)):=λd ty pos aA g a W hF _=>by
 simp[execOp,hF.ev hx,resolve,invoke,Deferred.ofValue,builtin,Builtin.len_,run_underlying hU,goInt]
theorem sx{s t:ByteArray}(hx:ev E x=some (.string s))(hy:ev E y=some (.string t)):RV C G L H E (.binOp .eql T x y U) (.bool (s.toList==t.toList)):=λd ty pos aA g a W hF _=>by
 simp[execOp,eqGuard,binOp,Op.stringOp,hF.ev hx,hF.ev hy]
variable {K:IntKind}
theorem xy{m n:Int}{t1 t2:Nat}(hx:ev E x=some (.int K m))(hy:ev E y=some (.int K n)):RV C G L H E (.call ⟨.builtin .max,#[x,y],#[t1,t2]⟩) (.int K (max m n)):=λd ty pos aA g a W hF _=>by
 have:(if m<n then n else m)=max m n:=by omega
 simp[execOp,hF.ev hx,hF.ev hy,resolve,invoke,Deferred.ofValue,builtin,Builtin.max_,Builtin.max2,this]
end
/-! #### the steps of a chain -/
section
variable {C:Cx} {Q:aC} {E:Env} {D:List Deferred} {G:Gh} {L:List World} {H:ab} {id:Nat}
def CY (C:Cx) (ops:Array Oper) (G:Gh) (E:Env) (sp:Sp) (ch:List Nat) (Ph:List Value->List World->ab->Prop):List Oper->Sp->Prop
 |o::l,(ds,some u)::ss=>(∀cv L' H',Me ch ds cv.length=true->Ph cv L' H'->X C ops G L' H' (dh ops sp ch cv ds++E) (λ_=>True) o (λv _=>v=u))/\CY C ops G E sp ch Ph l ss
 |_::l,(_,none)::ss=>CY C ops G E sp ch Ph l ss
 |_,_=>True
theorem Xa{ops:Array Oper}{sp:Sp}{ch:List Nat}{Ph:List Value->List World->ab->Prop}:∀(l:List Oper) (ss:Sp),CY C ops G E sp ch Ph l ss->∀(i:Nat) (o:Oper) (ds:List Nat) (u:Value),l[i]? =some o->ss[i]? =some (ds,some u)->∀cv L' H',Me ch ds cv.length=true->Ph cv L' H'->X C ops G L' H' (dh ops sp ch cv ds++E) (λ_=>True) o (λv _=>v=u)
 | [],_,_,i,o,ds,u,hl,_=>by simp at hl
 |_::_,[],_,i,o,ds,u,_,hs=>by simp at hs
 |o'::l,(rC,some u')::ss,h,i,o,ds,u,hl,hs=>by
  cases i with
  |zero=>simp at hl hs;obtain⟨rfl,rfl⟩:=hs;subst hl;exact h.1
  |succ i=>exact Xa l ss h.2 i o ds u wv (by simpa using hs)
 |o'::l,(rC,none)::ss,h,i,o,ds,u,hl,hs=>by
  cases i with
  |zero=>simp at hs
  |succ i=>exact Xa l ss h i o ds u wv (by simpa using hs)
variable {ops:Array Oper} {ch ds:List Nat}
theorem pc{sp:Sp}{Ph:List Value->List World->ab->Prop}{o:Oper}{l:List Oper}{u:Value}{ss:Sp}(h:∀cv L' H',Me ch ds cv.length=true->Ph cv L' H'->X C ops G L' H' (dh ops sp ch cv ds++E) (λ_=>True) o (λv _=>v=u))(t:CY C ops G E sp ch Ph l ss):CY C ops G E sp ch Ph (o::l) ((ds,some u)::ss):=⟨h,t⟩
theorem pk{sp:Sp}{Ph:List Value->List World->ab->Prop}{o:Oper}{l:List Oper}{ss:Sp}(t:CY C ops G E sp ch Ph l ss):CY C ops G E sp ch Ph (o::l) ((ds,none)::ss):=t
theorem pn{sp:Sp}{Ph:List Value->List World->ab->Prop}{l:List Oper}:CY C ops G E sp ch Ph l []:=by cases l<;>trivial
def Oq (C:Cx) (l:List Oper) (G:Gh) (E:Env) (D:List Deferred) (sp:Sp) (ch:List Nat) (Ph:List Value->List World->ab->Prop):Nat->List Nat->Prop
 |_,[]=>True
 |k,c::rest=>(∀(o:Oper) (ds:List Nat) (d:Nat),l[c]? =some o->sp[c]? =some (ds,none)->o.dst=some d->∀cv L' H',cv.length=k->Ph cv L' H'->∀(F:Env) (Q':aC),
  (∀v dq dr,Ph (cv++[v]) dq dr->PJ C Q' .normal ((d,v)::(dh l.toArray sp ch cv ds++(E++F))) D G dq dr)->OJ C l.toArray Q' [o] (dh l.toArray sp ch cv ds++(E++F)) D G L' H')/\Oq C l G E D sp ch Ph (k+1) rest
theorem n9h{l:List Oper}{sp:Sp}{ch:List Nat}{Ph:List Value->List World->ab->Prop}:∀(rest:List Nat) (n:Nat),Oq C l G E D sp ch Ph n rest->∀(k c:Nat) (o:Oper) (ds:List Nat) (d:Nat),rest[k]? =some c->l[c]? =some o->sp[c]? =some (ds,none)->o.dst=some d->∀cv L' H',cv.length=n+k->Ph cv L' H'->∀(F:Env) (Q':aC),(∀v dq dr,Ph (cv++[v]) dq dr->PJ C Q' .normal ((d,v)::(dh l.toArray sp ch cv ds++(E++F))) D G dq dr)->OJ C l.toArray Q' [o] (dh l.toArray sp ch cv ds++(E++F)) D G L' H'
 | [],_,_,k,c,_,_,_,h,_,_,_=>by simp at h
 |c'::rest,n,h,k,c,o,ds,d,hk,hl,hs,hd=>by
  cases k with
  |zero=>simp at hk;subst hk;exact λcv L' H' hlen=>h.1 o ds d hl hs hd cv L' H' (by simpa using hlen)
  |succ k=>exact λcv L' H' hlen=>n9h rest (n+1) h.2 k c o ds d Mf hl hs hd cv L' H' zJ
variable {rest:List Nat} {k:Nat}
theorem sc{l:List Oper}{sp:Sp}{Ph:List Value->List World->ab->Prop}{c:Nat}{o:Oper}{d:Nat}(h1:l[c]? =some o)(h2:sp[c]? =some (ds,none))(h3:o.dst=some d)(h:∀cv L' H',cv.length=k->Ph cv L' H'->∀(F:Env) (Q':aC),(∀v dq dr,Ph (cv++[v]) dq dr->PJ C Q' .normal ((d,v)::(dh l.toArray sp ch cv ds++(E++F))) D G dq dr)->OJ C l.toArray Q' [o] (dh l.toArray sp ch cv ds++(E++F)) D G L' H')(t:Oq C l G E D sp ch Ph (k+1) rest):Oq C l G E D sp ch Ph k (c::rest):=
 ⟨λo' rC d' e1 e2 e3=>by
  rw[h1]at e1;cases e1;rw[h2]at e2;cases e2;rw[h3]at e3;cases e3;exact h,t⟩
theorem sn{l:List Oper}{sp:Sp}{Ph:List Value->List World->ab->Prop}:Oq C l G E D sp ch Ph k []:=trivial
theorem nP{l:List Oper}(nA:Nat)(ch:List Nat)(sp:Sp)(Ph:List Value->List World->ab->Prop)(hm:C.P.follows .mixedOrders=true)(h0:Ph [] L H)(iF:Gf l.toArray nA (sp.map (·.1)) E=true)(hN:wM C.N l=true)(jX:ID l ch=true)(hnd:By ch=true)(qy:ph ch 0 sp=true)(eU:ch.all (λc=>Nat.blt c nA)=true)(pure:CY C l.toArray G E sp ch Ph l sp)(step:Oq C l G E D sp ch Ph 0 ch)(fin:∀cv L' H',cv.length=ch.length->Ph cv L' H'->OJ C l.toArray Q (l.drop nA) (dh l.toArray sp ch cv (List.range nA)++E) D G L' H'):CJ C (.region id l.toArray true) Q E D G L H:=
 nrl nA ch sp Ph hm h0 iF hN jX hnd qy eU (Xa l sp pure) (λk c o ds d hk hl hs hd cv L' H' hlen=>n9h ch 0 step k c o ds d hk hl hs hd cv L' H' zJ) fin
end
theorem cM{α:Type}{l:List α}(h:l.length=1):∃a,l=[a]:=by
 match l,h with
 | [a],_=>exact⟨a,rfl⟩
theorem iL{α:Type}{l:List α}(h:l.length=2):∃a b,l=[a,b]:=by
 match l,h with
 | [a,b],_=>exact⟨a,b,rfl⟩
theorem lT{α:Type}{l:List α}(h:l.length=3):∃a b c,l=[a,b,c]:=by
 match l,h with
 | [a,b,c],_=>exact⟨a,b,c,rfl⟩
theorem pH{α:Type}{l:List α}(h:l.length=4):∃a b c d,l=[a,b,c,d]:=by
 match l,h with
 | [a,b,c,d],_=>exact⟨a,b,c,d,rfl⟩
theorem gT{α:Type}{l:List α}(h:l.length=5):∃a b c d e,l=[a,b,c,d,e]:=by
 match l,h with
 | [a,b,c,d,e],_=>exact⟨a,b,c,d,e,rfl⟩
section
variable {C:Cx} {Q:aC} {E:Env} {D:List Deferred} {G:Gh} {L:List World} {H:ab} {ops:Array Oper} {l:List Oper}
variable {d T ty f:Nat} {pos:String} {aA:Array Edge} {g:Option (Nat×Bool)} {x y:Operand} {xs:List Operand} {vs:List Value} {dJ:Array Nat}
variable {ys:List UInt8} {e:Nat}
theorem Jg{first cap:List Value}(hx:ev E x=some (.func (.func f) first.toArray cap.toArray))(az:dP C.P f)(hw:np ops E g=some true)(hN:Nat.blt d C.N=true)(ha:gR E xs=some vs)(hc:∀W,St G L H W->Calls C.P f (first++vs++cap).toArray W (Ya W e ys))(k:∀b' aP bG,ad L b'->bD H b'->¬G.X b'->cy ys aP bG->OJ C ops Q l ((d,aW b' ys.length aP)::E) D G L ((b',aV e ys bG)::H)):OJ C ops Q (⟨some d,.call ⟨.value x,xs.toArray,dJ⟩,ty,pos,aA,g⟩::l) E D G L H:=
 nX rfl hw hx ha zX az λa W gQ hD hF hS=>(hc W hS).mono (by
  rintro ed W' ⟨b',aP,bG,rfl,hb,iW,hr,fJ⟩;exact k b' aP bG (IJ hS iW) (BO hS iW) (λhx=>by have:=hS.xlt _ hx;omega) hr (a.put (some d) (aW b' ys.length aP)) W' jY jr (hF.put _ kT)
   ((hS.step hb).adopt fJ (BO hS iW) (λhv=>by have:=hS.vlt _ hv;omega)))
def Yb (w:World) (e:Nat) (ys:List UInt8):Ending->World->Prop:=λed w'=>
 ∃b' aP bG,ed= .returned (.tuple #[aW b' ys.length aP,.int .i64 0])/\Below w.heap.size w w'/\w.heap.size<=b'/\cy ys aP bG/\w'.heap[b']? =some (aV e ys bG)
variable {ex:Exit} {bG:List Value} {i:Nat}
theorem Jh{fn:Func}{t b' aP:Nat}{w:World}(he:ex= .ret\/ex= .normal)(hr:fn.results=#[.tmp t,.tmp u])(hv:look E t=some (aW b' ys.length aP))(hu:look E u=some (.int .i64 0))(hi:H[i]? =some (b',aV e ys bG))(hw:w∈L)(ho:Over w.heap.size H)(hk:cy ys aP bG):PJ C (bodyPost C.P fn (Yb w e ys)) ex E [] Gh.no L H:=
 bH he (rs:=[.tmp t,.tmp u]) hr (RS.t hv (RS.t hu RS.n)) λW hS=>⟨b',aP,bG,rfl,hS.base hw ho,ho.mem _ (cb hi),hk,hS.own _ (cb hi)⟩
theorem ndj(az:dP C.P f)(hw:np ops E g=some true)(hN:Nat.blt d C.N=true)(ha:gR E xs=some vs)(hc:∀W,St G L H W->Calls C.P f vs.toArray W (Yb W e ys))(k:∀b' aP bG,ad L b'->bD H b'->¬G.X b'->cy ys aP bG->OJ C ops Q l ((d,.tuple #[aW b' ys.length aP,.int .i64 0])::E) D G L ((b',aV e ys bG)::H)):OJ C ops Q (⟨some d,.call ⟨.value (.func f),xs.toArray,dJ⟩,ty,pos,aA,g⟩::l) E D G L H:=
 nX rfl hw rfl ha zX az λa W gQ hD hF hS=>(hc W hS).mono (by
  rintro ed W' ⟨b',aP,bG,rfl,hb,iW,hr,fJ⟩;exact k b' aP bG (IJ hS iW) (BO hS iW) (λhx=>by have:=hS.xlt _ hx;omega) hr (a.put (some d) _) W' jY jr (hF.put _ kT)
   ((hS.step hb).adopt fJ (BO hS iW) (λhv=>by have:=hS.vlt _ hv;omega)))
variable {v:Value}
theorem PC{first cap:List Value}(hx:ev E x=some (.func (.func f) first.toArray cap.toArray))(az:dP C.P f)(hw:np ops E g=some true)(hN:Nat.blt d C.N=true)(ha:gR E xs=some vs)(hc:∀W,St G L H W->Calls C.P f (first++vs++cap).toArray W (ay W v))(k:OJ C ops Q l ((d,v)::E) D G L H):OJ C ops Q (⟨some d,.call ⟨.value x,xs.toArray,dJ⟩,ty,pos,aA,g⟩::l) E D G L H:=
 nX rfl hw hx ha zX az λa W gQ hD hF hS=>(hc W hS).mono (by
  rintro e W' ⟨rfl,hb⟩;exact k (a.put (some d) v) W' jY jr (hF.put _ kT) (hS.step hb))
theorem nfn{Pre:World->Prop}{Φ:Value->World->Prop}{first cap:List Value}(hx:ev E x=some (.func (.func f) first.toArray cap.toArray))(az:dP C.P f)(hw:np ops E g=some true)(ha:gR E xs=some vs)(hc:∀W,St G L H W->Pre W->Calls C.P f (first++vs++cap).toArray W (ay W v))(hΦ:∀W,Φ v W):X C ops G L H E Pre ⟨some d,.call ⟨.value x,xs.toArray,dJ⟩,ty,pos,aA,g⟩ Φ:=by
 intro a W K Q gQ hF hS hP hk;rw[if_pos (tD hF hw)];refine⟨λ_ _=>trivial,?_⟩;have hr:(execOp a.eval ⟨some d,.call ⟨.value x,xs.toArray,dJ⟩,ty,pos,aA,g⟩).run C.P W= .ok (.enter f (first++vs++cap).toArray) W:=by
  have h2:(xs.toArray).map a.eval=vs.toArray:=by rw[wK,Gb hF xs vs ha]
  simp only[execOp,resolve,hF.ev hx,Deferred.ofValue,h2];simp[invoke,az _ W]
 rw[Oper.semAt_eq _ _ _ zX,hr,Oper.uponIn_enter];refine⟨by simp,Bp.2 ((hc W hS hP).mono ?_)⟩;rintro e W' ⟨rfl,hb⟩;exact hk v W' hb (hΦ W')
end
section
variable {C:Cx} {Q:aC} {E:Env} {D:List Deferred} {G:Gh} {L:List World} {H:ab} {id:Nat}
def CZ (C:Cx) (ops:Array Oper) (G:Gh) (E:Env) (sp:Sp) (ch:List Nat) (Ph:List (Option Value)->List World->ab->Prop):List Oper->Sp->Prop
 |o::l,(ds,some u)::ss=>(∀cv L' H',cv.length=ch.length->Gj ch ds cv=true->Ph cv L' H'->X C ops G L' H' (bK ops sp ch cv ds++E) (λ_=>True) o (λv _=>v=u))/\CZ C ops G E sp ch Ph l ss
 |_::l,(_,none)::ss=>CZ C ops G E sp ch Ph l ss
 |_,_=>True
theorem Xb{ops:Array Oper}{sp:Sp}{ch:List Nat}{Ph:List (Option Value)->List World->ab->Prop}:∀(l:List Oper) (ss:Sp),CZ C ops G E sp ch Ph l ss->∀(i:Nat) (o:Oper) (ds:List Nat) (u:Value),l[i]? =some o->ss[i]? =some (ds,some u)->∀cv L' H',cv.length=ch.length->Gj ch ds cv=true->Ph cv L' H'->X C ops G L' H' (bK ops sp ch cv ds++E) (λ_=>True) o (λv _=>v=u)
 | [],_,_,i,o,ds,u,hl,_=>by simp at hl
 |_::_,[],_,i,o,ds,u,_,hs=>by simp at hs
 |o'::l,(rC,some u')::ss,h,i,o,ds,u,hl,hs=>by
  cases i with
  |zero=>simp at hl hs;obtain⟨rfl,rfl⟩:=hs;subst hl;exact h.1
  |succ i=>exact Xb l ss h.2 i o ds u wv (by simpa using hs)
 |o'::l,(rC,none)::ss,h,i,o,ds,u,hl,hs=>by
  cases i with
  |zero=>simp at hs
  |succ i=>exact Xb l ss h i o ds u wv (by simpa using hs)
variable {ops:Array Oper} {Ph:List (Option Value)->List World->ab->Prop} {ch ds:List Nat}
theorem qc{sp:Sp}{o:Oper}{l:List Oper}{u:Value}{ss:Sp}(h:∀cv L' H',cv.length=ch.length->Gj ch ds cv=true->Ph cv L' H'->X C ops G L' H' (bK ops sp ch cv ds++E) (λ_=>True) o (λv _=>v=u))(t:CZ C ops G E sp ch Ph l ss):CZ C ops G E sp ch Ph (o::l) ((ds,some u)::ss):=⟨h,t⟩
theorem qk{sp:Sp}{o:Oper}{l:List Oper}{ss:Sp}(t:CZ C ops G E sp ch Ph l ss):CZ C ops G E sp ch Ph (o::l) ((ds,none)::ss):=t
theorem qn{sp:Sp}{l:List Oper}:CZ C ops G E sp ch Ph l []:=by cases l<;>trivial
def Ot (C:Cx) (l:List Oper) (G:Gh) (E:Env) (D:List Deferred) (sp:Sp) (ch:List Nat) (dX:List (List Nat)) (Ph:List (Option Value)->List World->ab->Prop):Nat->List Nat->Prop
 |_,[]=>True
 |k,c::rest=>(∀(rq:List Nat) (o:Oper) (ds:List Nat) (d:Nat),dX[k]? =some rq->l[c]? =some o->sp[c]? =some (ds,none)->o.dst=some d->∀cv L' H',cv.length=ch.length->vN rq k cv=true->Ph cv L' H'->∀(F:Env) (Q':aC),
  (∀v dq dr,Ph (cv.set k (some v)) dq dr->PJ C Q' .normal ((d,v)::(bK l.toArray sp ch cv ds++(E++F))) D G dq dr)->OJ C l.toArray Q' [o] (bK l.toArray sp ch cv ds++(E++F)) D G L' H')/\Ot C l G E D sp ch dX Ph (k+1) rest
theorem nph{l:List Oper}{sp:Sp}{ch:List Nat}{dX:List (List Nat)}{Ph:List (Option Value)->List World->ab->Prop}:∀(rest:List Nat) (n:Nat),Ot C l G E D sp ch dX Ph n rest->∀(k c:Nat) (rq:List Nat) (o:Oper) (ds:List Nat) (d:Nat),rest[k]? =some c->dX[n+k]? =some rq->l[c]? =some o->sp[c]? =some (ds,none)->o.dst=some d->∀cv L' H',cv.length=ch.length->vN rq (n+k) cv=true->Ph cv L' H'->∀(F:Env) (Q':aC),(∀v dq dr,Ph (cv.set (n+k) (some v)) dq dr->PJ C Q' .normal ((d,v)::(bK l.toArray sp ch cv ds++(E++F))) D G dq dr)->OJ C l.toArray Q' [o] (bK l.toArray sp ch cv ds++(E++F)) D G L' H'
 | [],_,_,k,c,_,_,_,_,h,_,_,_,_=>by simp at h
 |c'::rest,n,h,k,c,rq,o,ds,d,hk,hr,hl,hs,hd=>by
  cases k with
  |zero=>simp at hk;subst hk;exact h.1 rq o ds d hr hl hs hd
  |succ k=>
   rw[show n+(k+1)=n+1+k by omega]at hr ⊢;exact nph rest (n+1) h.2 k c rq o ds d Mf hr hl hs hd
variable {dX:List (List Nat)} {rest:List Nat} {k:Nat}
theorem nc{l:List Oper}{sp:Sp}{c:Nat}{rq:List Nat}{o:Oper}{d:Nat}(h0:dX[k]? =some rq)(h1:l[c]? =some o)(h2:sp[c]? =some (ds,none))(h3:o.dst=some d)(h:∀cv L' H',cv.length=ch.length->vN rq k cv=true->Ph cv L' H'->∀(F:Env) (Q':aC),(∀v dq dr,Ph (cv.set k (some v)) dq dr->PJ C Q' .normal ((d,v)::(bK l.toArray sp ch cv ds++(E++F))) D G dq dr)->OJ C l.toArray Q' [o] (bK l.toArray sp ch cv ds++(E++F)) D G L' H')(t:Ot C l G E D sp ch dX Ph (k+1) rest):Ot C l G E D sp ch dX Ph k (c::rest):=
 ⟨λrq' o' rC d' e0 e1 e2 e3=>by
  rw[h0]at e0;cases e0;rw[h1]at e1;cases e1;rw[h2]at e2;cases e2;rw[h3]at e3;cases e3;exact h,t⟩
theorem nn{l:List Oper}{sp:Sp}:Ot C l G E D sp ch dX Ph k []:=trivial
theorem P2{l:List Oper}(nA:Nat)(ch:List Nat)(sp:Sp)(dX:List (List Nat))(Ph:List (Option Value)->List World->ab->Prop)(hm:C.P.follows .mixedOrders=true)(h0:Ph (ch.map λ_=>none) L H)(iF:Gf l.toArray nA (sp.map (·.1)) E=true)(hN:wM C.N l=true)(jX:qb l ch 0 dX=true)(hnd:By ch=true)(qy:ph ch 0 sp=true)(eU:ch.all (λc=>Nat.blt c nA)=true)(Om:dX.length=ch.length)(pure:CZ C l.toArray G E sp ch Ph l sp)(step:Ot C l G E D sp ch dX Ph 0 ch)(fin:∀cv L' H',cv.length=ch.length->cv.all (λx=>x.isSome)=true->Ph cv L' H'->OJ C l.toArray Q (l.drop nA) (bK l.toArray sp ch cv (List.range nA)++E) D G L' H'):CJ C (.region id l.toArray true) Q E D G L H:=
 CJ.net nA ch sp dX Ph hm h0 iF hN jX hnd qy eU (Xb l sp pure) (λk c rq o ds d hk hr hl hs hd cv L' H' hlen BI=>by
  have:=nph ch 0 step k c rq o ds d hk (by rw[iC];exact hr) hl hs hd cv L' H' hlen;rw[iC]at this;exact this BI) Om fin
theorem PJ.swp{e:Exit}{p q:Nat×Obj}(k:PJ C Q e E D G L (p::q::H)):PJ C Q e E D G L (q::p::H):=λa W hN hD hF hS=>k a W hN hD hF (hS.perm (List.Perm.swap p q H))
end
/-! ### deferred calls, and recover -/
def BP (cs:List Frame):Value×List Frame:=match recoverD cs with|some p=>p|none=>(.nilIface,cs)
theorem nsm(cs:List Frame):(BP cs).2.length=cs.length:=by
 unfold BP;split
 ·rename_i p h;obtain⟨v,dS⟩:=p;exact recoverD_length h
 rfl
variable {ops:Array Oper} {rest:List Nat}
theorem nho{F:Fence}{n:Nat}{P:Program}{Q:Exit->Act->List Frame->World->Prop}{a:Act}{cs:List Frame}{w:World}{id:Nat}{o:Oper}(M7:F.round=none)(hrg:List.range ops.size=0::rest)(ho:ops[0]? =some o)(hw:Region.wanted o (yielded ops a.tmps)=true)(pb:∀f,o.about P w a.eval=some f->F.fn f)(hr:(execOp a.eval o).run P w= .ok .recover w')(h:wpOpsIn F n P ops (λe a' w'=>Q e a' (BP cs).2 w') rest (a.put o.dst (BP cs).1) w'):(Code.region id ops false).wpSIn F n P Q a cs w:=by
 intro b k hb Og hF iA;have h0:(lone (b.atR a (.inRegion ops (0::rest)::k)) cs w).fenced P F:=fenced_oper hF iA ho pb;have hg:=stepGR_op (P:=P) (b:=b) (k:=k) (cs:=cs) (w:=w) (rest:=rest) ho hw;rw[Og,Oper.semAt_none]at hg;have cB:∀v,(b.atR a (.inRegion ops (0::rest)::k)).finish v=b.atR (a.put o.dst v) (.inRegion ops rest::k):=by
  intro v;rw[Frame.finish_atR,ho];rfl
 have hk:(b.atR a (.inRegion ops (0::rest)::k)).kind= .deferred:=hb;have eX:=tryRecover_deferred hk cs;have hlen:=nsm cs;obtain⟨e,a',w'',hq,ad0⟩:=wp_opsIn rest (a.put o.dst (BP cs).1) w' h b k (BP cs).2 (Og.trans M7.symm) hF (by rw[hlen];exact iA);refine⟨e,a',(BP cs).2,w'',hlen,hq,?_⟩;have TP:=stepR_region (P:=P) (b:=b) (a:=a) (id:=id) (ops:=ops) (k:=k) (cs:=cs) (w:=w);rw[hrg]at TP;refine .of_steps (.head (fenced_calm hF iA rfl) TP (.one h0 (step_lone_go ?_))) ad0;rw[hg,<-cB];unfold BP;cases eV:recoverD cs with
 |none=>
  simp only[Frame.atR,Og]at eX ⊢;simp[stepG.apply,hr,eX,eV]
 |some p=>
  obtain⟨v,dS⟩:=p;simp only[Frame.atR,Og]at eX ⊢;simp[stepG.apply,hr,eX,eV]
variable {aA:Array Edge} {dJ:Array Nat} {R:Ending->World->Prop} {vs:List Value} {f ty:Nat} {pos:String}
theorem DO{P:Program}{fn:Func}{l:List Oper}{id d:Nat}{w:World}(u u':FrameMode)(rv:Value)(hu:∀(c₀:Frame) (cs:List Frame),c₀.mode=u->BP (c₀::cs)=(rv,{c₀ with mode:=u'}::cs))(hf:P.funcs[f]? =some fn)(hb:fn.body=some (.region id ((⟨some d,.call ⟨.builtin .recover,#[],dJ⟩,ty,pos,aA,none⟩:Oper)::l).toArray false))(hN:fn.ntmps=N)(hl:Nat.ble vs.length N=true)(hd:Nat.blt d N=true)(hS:St G [w] H w)(h:OJ ⟨P,none,N⟩ ((⟨some d,.call ⟨.builtin .recover,#[],dJ⟩,ty,pos,aA,none⟩:Oper)::l).toArray (bodyPost P fn R) l ((d,rv)::wL 0 vs) [] G [w] H):CallsDIn (FW none) 0 P f vs.toArray u w (λe u'' w'=>u''=u'/\R e w'):=by
 refine callsDIn_of_wpSIn hf hb trivial λc₀ cs hc=>?_;have iW:vs.toArray.size=vs.length:=by simp
 have gQ:(vs.toArray++Array.replicate (fn.ntmps-vs.toArray.size) undef).size=N:=by
  exact Tj
 have hF:Fits (wL 0 vs) ⟨vs.toArray++Array.replicate (fn.ntmps-vs.toArray.size) undef,[]⟩:=Th vs _;have lN:=hu c₀ cs hc;refine nho (w':=w) (rest:=List.range' 1 l.length) rfl ?_ rfl ?_ (λ_ _=>trivial) ?_ ?_
 ·simp[List.range_eq_range',List.range'_succ]
 ·simp[Region.wanted]
 ·simp[execOp,resolve,invoke,builtin,Deferred.ofValue]
 rw[lN,wpOpsIn_eq_wpListIn l 1 (λj=>by simp[Nat.add_comm])];have AK:=h ((⟨vs.toArray++Array.replicate (fn.ntmps-vs.toArray.size) undef,[]⟩:Act).put (some d) rv) w (by simp only[Act.put];simpa using gQ) rfl (hF.put rv (by rw[gQ];exact nV hd)) hS;have mono:∀(l':List Oper) (a:Act) (W:World),wpListIn (FW none) 0 P ((⟨some d,.call ⟨.builtin .recover,#[],dJ⟩,ty,pos,aA,none⟩:Oper)::l).toArray (bodyPost P fn R) l' a W->
  wpListIn (FW none) 0 P ((⟨some d,.call ⟨.builtin .recover,#[],dJ⟩,ty,pos,aA,none⟩:Oper)::l).toArray (λe a' w'=>bodyPostS P fn c₀ cs (λe u'' w'=>u''=u'/\R e w') e a' ({c₀ with mode:=u'}::cs) w') l' a W:=by
  intro l';induction l' with
  |nil=>
   intro a W hq;obtain⟨h1,v,h2,h3⟩:=hq;exact⟨h1,u',rfl,v,h2,rfl,h3⟩
  |cons o l' ih=>
   intro a W hq;unfold wpListIn at hq ⊢;split
   ·rename_i Oc;rw[if_pos Oc]at hq;refine n2f (λa' W' hk=>ih a' W' hk) (λc a' W' hk=>?_) (λhk=>?_) hq
    ·obtain⟨h1,h2⟩:=hk;exact⟨h1,u',rfl,rfl,h2⟩
    obtain⟨a0,w0,hk⟩:=hk;exact⟨a0,w0,u',rfl,hk⟩
   rename_i Oc;rw[if_neg Oc]at hq;exact⟨hq.1,ih _ _ hq.2⟩
 exact mono l _ _ AK
theorem nwk(c₀:Frame)(cs:List Frame)(h:c₀.mode= .returning):BP (c₀::cs)=(.nilIface,{c₀ with mode:=.returning}::cs):=by
 simp only[BP,recoverD,h];rw[<-h]
theorem Jo{P:Program}{fn:Func}{c:Code}{w:World}(G:Gh)(H:ab)(hf:P.funcs[f]? =some fn)(hb:fn.body=some c)(hN:fn.ntmps=N)(hl:Nat.ble vs.length N=true)(hS:St G [w] H w)(h:CJ ⟨P,none,N⟩ c (bodyPostDIn (FW none) 0 P fn R) (wL 0 vs) [] G [w] H):Calls P f vs.toArray w R:=by
 rw[<-Bp (r:=none) (n:=0)];refine callsIn_of_wp_defers hf hb trivial (h _ w ?_ rfl ?_ hS)
 ·exact Tj
 exact Th vs _
section
variable {P:Program} {N:Nat} {Q:aC} {E:Env} {D:List Deferred} {G:Gh} {L:List World} {H:ab} {ops:Array Oper} {l:List Oper}
variable {ty f:Nat} {pos:String} {aA:Array Edge} {g:Option (Nat×Bool)} {x:Operand}
theorem OJ.defer{cap:List Value}(hw:np ops E g=some true)(hx:ev E x=some (.func (.func f) #[] cap.toArray))(k:OJ ⟨P,none,N⟩ ops Q l E ({target:=.fn (.func f) cap.toArray,args:=#[]}::D) G L H):OJ ⟨P,none,N⟩ ops Q (⟨none,.defer ⟨.value x,#[],dJ⟩,ty,pos,aA,g⟩::l) E D G L H:=by
 intro a W gQ hD hF hS;unfold wpListIn;rw[if_pos (tD hF hw)];refine⟨λ_ _=>trivial,?_⟩;have hr:(execOp a.eval ⟨none,.defer ⟨.value x,#[],dJ⟩,ty,pos,aA,g⟩).run P W= .ok (.defer {target:=.fn (.func f) cap.toArray,args:=#[]}) W:=by
  simp[execOp,resolve,hF.ev hx,Deferred.ofValue]
 dsimp only;rw[Oper.semAt_none,hr,Oper.uponIn_defer];exact k _ W gQ jr (λt v hv=>hF t v hv) hS
variable {ex:Exit} {rs:List ResultVar}
theorem Yp{fn:Func}{cap:List Value}(he:ex= .ret\/ex= .normal)(az:dP P f)(hc:∀W,St G L H W->CallsDIn (FW none) 0 P f cap.toArray .returning W (λe u' w'=>u'= .returning/\(∃v,e= .returned v)/\Below W.heap.size W w'))(hr:fn.results=rs.toArray)(h:RS ⟨P,none,N⟩ G L H E rs vs)(hR:∀W,St G L H W->R (.returned (IH vs)) W):PJ ⟨P,none,N⟩ (bodyPostDIn (FW none) 0 P fn R) ex E [{target:=.fn (.func f) cap.toArray,args:=#[]}] G L H:=by
 intro a W gQ hD hF hS;have key:LeavesIn (FW none) 0 P fn a.tmps R a.defers .returning W:=by
  rw[hD];refine leavesIn_cons (f:=f) (args:=cap.toArray) zX zX (by simp[invoke,az _ W]) (λ_ _=>trivial) ?_;refine(hc W hS).mono ?_;rintro e u' w' ⟨rfl,⟨v,rfl⟩,hb⟩;exact⟨_,h.res hr hF (hS.step hb),hR w' (hS.step hb)⟩
 exact Oh
end
/-! ### several blocks that are lent -/
def keys (H:ab):List Nat:=H.map (·.1)
def po (G:Gh) (L:List World):ab->Prop
 | []=>True
 |p::H=>Fr G L p.1/\po G L H
theorem po.mem{G:Gh}{L:List World}:∀{H:ab},po G L H->∀p∈H,Fr G L p.1
 | [],_,p,hp=>by cases hp
 |q::H,h,p,hp=>by
  rcases cI.1 hp with rfl|hp
  ·exact h.1
  exact po.mem h.2 p hp
variable {H0:ab} {W':World}
theorem St.swapZ{Hz Hn:ab}(h:St G L (Hz++H0) W)(hk:aF (λk=>k∈keys Hz) W W')(qt:po G L Hz)(hn:∀p∈Hn,W'.heap[p.1]? =some p.2/\(p.1∈keys Hz\/W.heap.size<=p.1))(hd:jk Hn):St G L (Hn++H0) W':=by
 have hnd:=(vM (Hz++H0)).1 h.nodup;rw[gP,List.nodup_append]at hnd;obtain⟨gb,dY,da⟩:=hnd;have BQ:∀p∈H0,p.1∉keys Hz:=λp hp hm=>da p.1 hm p.1 (bW.2 ⟨p,hp,rfl⟩) rfl;have hH0:∀p∈H0,W'.heap[p.1]? =some p.2:=λp hp=>by
  rw[hk.block p.1 (h.lt p (by simp[hp])) (BQ p hp)];exact h.own p (by simp[hp])
 refine⟨?_,λk hv=>jT (h.vlt k hv) hk.size,λk hv=>jT (h.xlt k hv) hk.size,λw hw=>?_,λp hp=>?_,?_,λp hp=>?_⟩
 ·refine G.stab W W' h.ghost hk.os hk.tape hk.output hk.size (λk hv=>hk.block k (h.vlt k hv) λhm=>?_);obtain⟨p,hp,rfl⟩:=bW.1 hm;exact h.apart p (by simp[hp]) hv
 ·have hl:=h.links w hw;refine⟨hk.os.trans hl.os,hk.tape.trans hl.tape,hk.output.trans hl.output,aR hl.size hk.size,λk hkw hx=>?_⟩;simp only[gP,cQ,not_or]at hx;have hnz:k∉keys Hz:=λhm=>by
   obtain⟨p,hp,rfl⟩:=bW.1 hm;rcases qt.mem p hp with hf|hf
   ·exact hx.1 hf
   have:=hf.mem w hw;omega
  rw[hk.block k (jT hkw hl.size) hnz];refine hl.block k hkw λhy=>?_;simp only[gP,cQ]at hy;rcases hy with hy|hy|hy
  ·exact hx.1 hy
  ·exact hnz hy
  exact hx.2.2 hy
 ·rcases cQ.1 hp with hp|hp
  ·exact(hn p hp).1
  exact hH0 p hp
 ·rw[vM,gP,List.nodup_append];refine⟨(vM Hn).1 hd,dY,λa ha b hb e=>?_⟩;subst e;obtain⟨p,hp,rfl⟩:=bW.1 ha;obtain⟨q,hq,e⟩:=bW.1 hb;rcases(hn p hp).2 with h1|h1
  ·exact BQ q hq (e▸h1)
  have:=h.lt q (by simp[hq]);omega
 rcases cQ.1 hp with hp|hp
 ·intro hv;rcases(hn p hp).2 with h1|h1
  ·obtain⟨q,hq,e⟩:=bW.1 h1;exact h.apart q (by simp[hq]) (e▸hv)
  have:=h.vlt _ hv;omega
 exact h.apart p (by simp[hp])
def qM {α:Type} (w:World) (Z:List Nat) (v:α->Value) (Hn:α->ab) (Φ:α->Prop):Ending->World->Prop:=λe w'=>
 ∃x,e= .returned (v x)/\aF (λk=>k∈Z) w w'/\Φ x/\(∀p∈Hn x,w'.heap[p.1]? =some p.2/\(p.1∈Z\/w.heap.size<=p.1))/\jk (Hn x)
theorem PE{w:World}{Hz:ab}(h:∀p∈Hz,w.heap[p.1]? =some p.2)(hd:jk Hz):St (Gh.lent (λk=>k∈keys Hz)) [w] Hz w where
 ghost:=trivial
 vlt:=λ_ h=>h.elim
 xlt:=λk hk=>by
  obtain⟨p,hp,rfl⟩:=bW.1 (show k∈keys Hz from hk);exact(aT.1 (h p hp)).1
 links:=λw' hw=>by simp at hw;subst hw;exact aF.refl _ _
 own:=h
 nodup:=hd
 apart:=λ_ _ h=>h.elim
def gC (w:World):ab->Prop
 | []=>True
 |p::H=>w.heap[p.1]? =some p.2/\gC w H
theorem gC.mem{w:World}:∀{H:ab},gC w H->∀p∈H,w.heap[p.1]? =some p.2
 | [],_,p,hp=>by cases hp
 |q::H,h,p,hp=>by
  rcases cI.1 hp with rfl|hp
  ·exact h.1
  exact gC.mem h.2 p hp
theorem PF(p:Nat×Obj):jk [p]:=by rw[vM];simp
theorem PN{p q:Nat×Obj}(h:p.1≠q.1):jk [p,q]:=by rw[vM];simp[h]
def pq (Z:List Nat) (n:Nat):ab->Prop
 | []=>True
 |p::H=>(p.1∈Z\/n<=p.1)/\pq Z n H
theorem pq.mem{Z:List Nat}{n:Nat}:∀{H:ab},pq Z n H->∀p∈H,p.1∈Z\/n<=p.1
 | [],_,p,hp=>by cases hp
 |q::H,h,p,hp=>by
  rcases cI.1 hp with rfl|hp
  ·exact h.1
  exact pq.mem h.2 p hp
section
variable {C:Cx} {Q:aC} {E:Env} {D:List Deferred} {G:Gh} {L:List World} {H:ab} {ops:Array Oper} {l:List Oper}
variable {d T ty f:Nat} {pos:String} {aA:Array Edge} {g:Option (Nat×Bool)} {x:Operand} {xs:List Operand} {vs:List Value} {dJ:Array Nat} {fn:Func}
variable {ex:Exit} {rs:List ResultVar} {us:List Value}
theorem xM{α:Type}{v:α->Value}{Hn:α->ab}{Φ:α->Prop}{Hz:ab}{w:World}(z:α)(he:ex= .ret\/ex= .normal)(hr:fn.results=rs.toArray)(h:RS C (Gh.lent (λk=>k∈keys Hz)) L (Hn z++H0) E rs us)(hw:w∈L)(ho:pq (keys Hz) w.heap.size (Hn z++H0))(hv:IH us=v z)(hΦ:Φ z):PJ C (bodyPost C.P fn (qM w (keys Hz) v Hn Φ)) ex E [] (Gh.lent (λk=>k∈keys Hz)) L (Hn z++H0):=
 bH he hr h λW hS=>⟨z,by rw[hv],(hS.links w hw).mono (λk hk hx=>by
  rcases hx with hx|hx
  ·exact hx
  ·obtain⟨p,hp,rfl⟩:=bW.1 hx;rcases ho.mem p hp with h|h
   ·exact h
   omega),hΦ,λp hp=>⟨hS.own p (by simp[hp]),ho.mem p (by simp[hp])⟩,by
  have:=(vM _).1 hS.nodup;rw[gP,List.nodup_append]at this;exact(vM _).2 this.1⟩
theorem PL{α:Type}{v:α->Value}{Hn:α->ab}{Φ:α->Prop}{Hz:ab}{first cap:List Value}(hH:H=Hz++H0)(hx:ev E x=some (.func (.func f) first.toArray cap.toArray))(az:dP C.P f)(hw:np ops E g=some true)(hN:Nat.blt d C.N=true)(ha:gR E xs=some vs)(qt:po G L Hz)(hc:∀W,St G L (Hz++H0) W->Calls C.P f (first++vs++cap).toArray W (qM W (keys Hz) v Hn Φ))(k:∀z,Φ z->(∀p∈Hn z,p.1∈keys Hz\/(ad L p.1/\bD H p.1))->OJ C ops Q l ((d,v z)::E) D G L (Hn z++H0)):OJ C ops Q (⟨some d,.call ⟨.value x,xs.toArray,dJ⟩,ty,pos,aA,g⟩::l) E D G L H:=by
 subst hH;exact nX rfl hw hx ha zX az λa W gQ hD hF hS=>(hc W hS).mono (by
  rintro ed W' ⟨z,rfl,hk,hΦ,hn,hd⟩;refine k z hΦ (λp hp=>?_) (a.put (some d) (v z)) W' jY jr (hF.put _ kT) (hS.swapZ hk qt hn hd);rcases(hn p hp).2 with h|h
  ·exact .inl h
  exact .inr ⟨IJ hS h,BO hS h⟩)
variable {i j:Nat}
theorem n1h{p q:Nat×Obj}(hi:H[i]? =some p)(hj:H[j]? =some q)(vo:i≠j)(k:p.1≠q.1->OJ C ops Q l E D G L H):OJ C ops Q l E D G L H:=
 λa W hN hD hF hS=>k (λe=>vo (hS.nodup i j p q hi hj e)) a W hN hD hF hS
end
/-! ### equality of plain data -/
inductive TK where|i|b|s
def Nh:Value->Value->Bool
 | .int _ a,.int _ b=>a==b
 | .bool a,.bool b=>a==b
 | .string a,.string b=>a.toList==b.toList
 |_,_=>false
def Ou:TK->Value->Value->Bool
 | .i,.int k _,.int k' _=>decide (k=k')
 | .b,.bool _,.bool _=>true
 | .s,.string _,.string _=>true
 |_,_,_=>false
def mG:List Value->List Value->Bool
 |x::xs,y::ys=>Nh x y&&mG xs ys
 |_,_=>true
def jd:List TK->List Value->List Value->Bool
 |k::ks,x::xs,y::ys=>Ou k x y&&jd ks xs ys
 | [],[],[]=>true
 |_,_,_=>false
theorem BR{k:TK}{x y:Value}(h:Ou k x y=true):Nh x x=true:=by cases k<;>cases x<;>cases y<;>simp_all[Ou,Nh]
theorem nQl:∀{ks:List TK} {xs ys:List Value},jd ks xs ys=true->mG xs xs=true
 | [],[],_,_=>rfl
 |k::ks,x::xs,y::ys,h=>by
  simp only[jd,fm]at h;simp only[mG,BR h.1,nQl h.2,Bool.and_self]
 |_::_,[],_,_=>rfl
 |_::_,_::_,[],h=>by simp[jd]at h
 | [],_::_,_,h=>by simp[jd]at h
theorem nym:∀{ks:List TK} {xs ys:List Value},jd ks xs ys=true->xs.length=ks.length/\ys.length=ks.length
 | [],[],[],_=>⟨rfl,rfl⟩
 |k::ks,x::xs,y::ys,h=>by
  simp only[jd,fm]at h;have:=nym h.2;simp[this.1,this.2]
 | [],_::_,_,h=>by simp[jd]at h
 | [],[],_::_,h=>by simp[jd]at h
 |_::_,[],_,h=>by simp[jd]at h
 |_::_,_::_,[],h=>by simp[jd]at h
theorem nOi:∀{a b c d:List Value},a.length=c.length->mG (a++b) (c++d)=(mG a c&&mG b d)
 | [],b,[],d,_=>by simp[mG]
 |x::a,b,y::c,d,h=>by
  simp only[eP,mG];rw[nOi qz,Bool.and_assoc]
 | [],b,y::c,d,h=>by simp at h
 |x::a,b,[],d,h=>by simp at h
theorem n4h:∀{k1 k2:List TK} {a b c d:List Value},a.length=k1.length->c.length=k1.length->jd (k1++k2) (a++b) (c++d)=(jd k1 a c&&jd k2 b d)
 | [],k2,[],b,[],d,_,_=>by simp[jd]
 |k::k1,k2,x::a,b,y::c,d,h,h'=>by
  simp only[eP,jd];rw[n4h qz (by simpa using h'),Bool.and_assoc]
 | [],k2,x::a,b,c,d,h,h'=>by simp at h
 | [],k2,[],b,y::c,d,h,h'=>by simp at h'
 |k::k1,k2,[],b,c,d,h,h'=>by simp at h
 |k::k1,k2,x::a,b,[],d,h,h'=>by simp at h'
def DW (P:Program) (k t:Nat) (ks:List TK):Prop:=∀(d:Nat) (xs ys:List Value) (w:World),jd ks xs ys=true->(Op.equalIn (d+k) t (.agg xs.toArray) (.agg ys.toArray)).run P w= .ok (mG xs ys) w
def u2 (P:Program) (k t:Nat) (ks:List TK):Prop:=∀(d:Nat) (p1 c1 q1 p2 c2 q2:List Value) (w:World),p1.length=p2.length->jd ks c1 c2=true->
 ∃a b,(part t (p1++(c1++q1)).toArray p1.length).run P w= .ok a w/\(part t (p2++(c2++q2)).toArray p1.length).run P w= .ok b w/\(Op.equalIn (d+k) t a b).run P w= .ok (mG c1 c2) w
variable {ks:List TK} {k:Nat}
theorem u2.up{P:Program}{k' t:Nat}(h:u2 P k t ks)(hk:k<=k'):u2 P k' t ks:=λd p1 c1 q1 p2 c2 q2 w h1 h2=>by
 have:=h (d+(k'-k)) p1 c1 q1 p2 c2 q2 w h1 h2;rwa[show d+(k'-k)+k=d+k' by omega]at this
theorem u2.one{P:Program}{t:Nat}{k:TK}(hA:eZ P t false)(h:∀(d:Nat) (v u:Value) (w:World),Ou k v u=true->(Op.equalIn (d+1) t v u).run P w= .ok (Nh v u) w):u2 P 1 t [k]:=by
 intro d p1 c1 q1 p2 c2 q2 w h1 h2
 match c1,c2,h2 with
 | [v],[u],h2=>
  simp only[jd,Bool.and_true]at h2;refine⟨v,u,by simp[part,hA w],by rw[h1];simp[part,hA w],?_⟩;rw[h d v u w h2];simp[mG]
 | [],_,h2=>simp[jd]at h2
 | [_],[],h2=>simp[jd]at h2
 |_::_::_,[],h2=>simp[jd]at h2
 | [_],_::_::_,h2=>simp[jd]at h2
 |_::_::_,_::_,h2=>simp[jd]at h2
variable {K:IntKind}
theorem u2.int{P:Program}{t:Nat}(hU:P.underlying t=some (.int K))(hA:eZ P t false):u2 P 1 t [.i]:=u2.one hA (by
 intro d v u w h;cases v<;>cases u<;>simp only[Ou,Bool.false_eq_true]at h
 rename_i k a k' b;have:k=k':=by simpa using h
 subst this;rw[run_equalIn_int w d t k K a b hU];rfl)
def kp:Nat->List TK->List TK
 |0,_=>[]
 |n+1,ks=>ks++kp n ks
variable {e m:Nat}
theorem DW.array{P:Program}{t len:Nat}(hU:P.underlying t=some (.array len e))(hZ:nZ P e m)(hm:ks.length=m)(h:u2 P k e ks):DW P (k+1) t (kp len ks):=by
 intro d xs ys w hs;have key:∀(n i:Nat) (p1 c1 p2 c2:List Value),p1.length=i*m->p2.length=i*m->jd (kp n ks) c1 c2=true->
  (do
   for j in List.range' i n do
    if !(<-Op.equalIn (d+k) e (<-part e (p1++c1).toArray (j*m)) (<-part e (p2++c2).toArray (j*m)))then return false
   pure true:Sem Bool).run P w= .ok (mG c1 c2) w:=by
  intro n;induction n with
  |zero=>
   intro i p1 c1 p2 c2 _ _ hs
   match c1,c2,hs with
   | [],[],_=>simp[mG]
   |_::_,_,hs=>simp[kp,jd]at hs
   | [],_::_,hs=>simp[kp,jd]at hs
  |succ n ih=>
   intro i p1 c1 p2 c2 wF rN hs;have hl:=nym hs;simp only[kp,cK]at hl;obtain⟨a1,b1,rfl,eO⟩:∃a b,c1=a++b/\a.length=ks.length:=⟨c1.take ks.length,c1.drop ks.length,(DQ _ _).symm,by simp;omega⟩;obtain⟨a2,b2,rfl,cR⟩:∃a b,c2=a++b/\a.length=ks.length:=⟨c2.take ks.length,c2.drop ks.length,(DQ _ _).symm,by simp;omega⟩;simp only[kp]at hs;rw[n4h eO cR,fm]at hs;obtain⟨x,y,hx,hy,he⟩:=h d p1 a1 b1 p2 a2 b2 w zJ hs.1;rw[wF]at hx hy;have tH:=ih (i+1) (p1++a1) b1 (p2++a2) b2 (by rw[cK,wF,eO,hm,kN];omega) (by rw[cK,rN,cR,hm,kN];omega) hs.2;simp only[iX]at tH;rw[nOi zJ];simp only[List.range'_succ,List.forIn_cons,Sem.run_bind,hx,hy,he,Result.andThen]at tH ⊢;cases hq:mG a1 a2 with
   |false=>simp[Sem.run]
   |true=>
    simp only[Bool.not_true,Bool.false_eq_true,if_false,Bool.true_and,Sem.run_pure];exact tH
 have:=key len 0 [] xs [] ys zX zX hs;simp only[dK]at this;rw[<-Nat.add_assoc];simp only[Op.equalIn,Sem.run_bind,run_underlying hU,Result.andThen_ok,hZ w];rw[Std.Legacy.Range.forIn_eq_forIn_range'];simpa[Std.Legacy.Range.size]using this
section
variable {C:Cx} {E:Env} {G:Gh} {L:List World} {H:ab} {T U:Nat} {x y:Operand}
theorem pJ{iz bs:Array Value}(h:DW C.P k T ks)(hk:Nat.ble k 10000=true)(hg:C.P.eqGuardType C.P.depth T=false)(hx:ev E x=some (.agg iz))(hy:ev E y=some (.agg bs))(hs:jd ks iz.toList bs.toList=true):RV C G L H E (.binOp .eql T x y U) (.bool (mG iz.toList bs.toList)):=λd ty pos aA g a W hF _=>by
 have h1:=h (10000-k) iz.toList bs.toList W hs;rw[show 10000-k+k=10000 by have:=bj hk;omega]at h1;simp only[Array.toArray_toList]at h1;have h2:=run_eql_struct (P:=C.P) W T iz bs;rw[h1]at h2;have h3:=run_eqGuard_agg (P:=C.P) W .eql T x y iz bs hg;simp only[execOp,hF.ev hx,hF.ev hy,Sem.run_bind,h3,h2,Result.andThen];rfl
theorem ie{iz bs:Array Value}(h:DW C.P k T ks)(hk:Nat.ble k 10000=true)(hg:C.P.eqGuardType C.P.depth T=false)(hx:ev E x=some (.agg iz))(hy:ev E y=some (.agg bs))(hs:jd ks iz.toList bs.toList=true):RV C G L H E (.binOp .neq T x y U) (.bool (!mG iz.toList bs.toList)):=λd ty pos aA g a W hF _=>by
 have h1:=h (10000-k) iz.toList bs.toList W hs;rw[show 10000-k+k=10000 by have:=bj hk;omega]at h1;simp only[Array.toArray_toList]at h1;have h2:=run_neq_struct (P:=C.P) W T iz bs;rw[h1]at h2;have h3:=run_eqGuard_agg (P:=C.P) W .neq T x y iz bs hg;simp only[execOp,hF.ev hx,hF.ev hy,Sem.run_bind,h3,h2,Result.andThen];rfl
theorem n2m{P:Program}(hU:P.underlying T=some (.slice e))(n c:Nat)(d:Nat)(W:World):(Op.equalIn (d+1) T (.slice none n c) (.slice none 0 0)).run P W= .ok true W:=by
 exact PD
theorem Jp(hU:C.P.underlying T=some (.slice e))(hx:ev E x=some (.slice none 0 0))(hy:ev E y=some (.slice none 0 0)):RV C G L H E (.binOp .eql T x y U) (.bool true):=λd ty pos aA g a W hF _=>by
 have h1:(eqGuard .eql T x y (.slice none 0 0) (.slice none 0 0)).run C.P W= .ok () W:=by simp[eqGuard]
 have h2:(binOp .eql T (.slice none 0 0) (.slice none 0 0)).run C.P W= .ok (.bool true) W:=by
  have e:binOp .eql T (.slice none 0 0) (.slice none 0 0)=(do pure (.bool (<-Op.equalIn (9999+1) T (.slice none 0 0) (.slice none 0 0)))):=rfl;rw[e,Sem.run_bind,n2m hU];rfl
 exact zMj
end
variable {kt:Nat}
theorem Ov{P:Program}(hK:P.underlying kt=some (.int .i64))(b:Bool)(k:Int):(Instr.checkKey b 10000 kt (.int .i64 k)).run P W= .ok () W:=by
 show(Instr.checkKey b (9999+1) kt (.int .i64 k)).run P W= .ok () W;generalize 9999=n;simp[Instr.checkKey,run_underlying hK]
variable {es:Array MapEntry} {b:Nat}
theorem C0{P:Program}{c:Nat}(h:W.heap[b]? =some (.map es c)):(getObj b).run P W= .ok (.map es c) W:=by simp[getObj,Sem.run,h]
theorem Ow{P:Program}{c:Nat}(o':Obj)(h:W.heap[b]? =some (.map es c)):(setObj b o').run P W= .ok () (W.putObj b o'):=by simp[setObj,Sem.run,h,World.putObj]
section
variable {C:Cx} {Q:aC} {E:Env} {D:List Deferred} {G:Gh} {L:List World} {H:ab} {ops:Array Oper} {l:List Oper}
variable {d T ty:Nat} {pos:String} {aA:Array Edge} {g:Option (Nat×Bool)} {x y z:Operand}
def bL (G:Gh) (L:List World) (H:ab) (b:Nat) (o:Obj):Prop:=∀W,St G L H W->W.heap[b]? =some o
variable {i:Nat} {o:Obj}
theorem bL.own(hi:H[i]? =some (b,o)):bL G L H b o:=λ_ hS=>hS.own _ (cb hi)
theorem bL.old{w:World}(hm:w∈L)(hb:w.heap[b]? =some o)(hG:¬G.X b)(hO:bD H b):bL G L H b o:=λ_ hS=>hS.old hm hb hG hO
end
def ag {α:Type} (enc:α->Array Value) (n N:Nat) (w:World) (a:Option Addr) (xs:List α):Prop:=
 xs=[]\/∃b off cs t fr,a=some ⟨b,off,none⟩/\b<N/\w.heap[b]? =some (.cells cs t fr)/\∀i (h:i<xs.length),off+i*n+n<=cs.size/\cut cs (off+i*n) n=enc xs[i]
section
variable {α:Type} {enc:α->Array Value} {n N N':Nat} {w w':World} {a:Option Addr} {xs:List α}
theorem ag.up(h:ag enc n N w a xs)(hN:N<=N')(hw:∀k,k<N->w'.heap[k]? =w.heap[k]?):ag enc n N' w' a xs:=by
 rcases h with h|⟨b,off,cs,t,fr,h1,h2,h3,h4⟩
 ·exact .inl h
 exact .inr ⟨b,off,cs,t,fr,h1,by omega,(hw b h2).trans h3,h4⟩
theorem ag.get(h:ag enc n N w a xs)(hx:0<xs.length):∃b off cs t fr,a=some ⟨b,off,none⟩/\b<N/\w.heap[b]? =some (.cells cs t fr)/\∀i (h:i<xs.length),off+i*n+n<=cs.size/\cut cs (off+i*n) n=enc xs[i]:=by
 rcases h with rfl|h
 ·simp at hx
 exact h
variable {cs:Array Value} {fr:Nat×Nat}
theorem ag.block{t:Nat}(hb:b<N)(h:w.heap[b]? =some (.cells cs t fr))(hx:∀i (h:i<xs.length),i*n+n<=cs.size/\cut cs (i*n) n=enc xs[i]):ag enc n N w (some ⟨b,0,none⟩) xs:=
 .inr ⟨b,0,cs,t,fr,rfl,hb,h,λi hi=>by rw[iC];exact hx i hi⟩
end
variable {cs:Array Value}
theorem th{n:Nat}{r:Array Value}(h:cut cs k n=r)(j:Nat)(hj:j<n):cs[k+j]? =r[j]? :=by
 subst h;unfold cut;conv=>rhs;rw[B7,I2 hj,uL,vY]
section
variable {α:Type} {enc:α->Array Value} {n off:Nat} {cs:Array Value} {xs:List α}
variable {j:Nat}
theorem wz(h:∀i (h:i<xs.length),off+i*n+n<=cs.size/\cut cs (off+i*n) n=enc xs[i]){x:α}(hj:xs[j]? =some x){i:Int}(hi:i=(j:Int))(k:Nat)(hk:k<n):cs[off+i.toNat*n+k]? =(enc x)[k]? :=by
 obtain⟨h1,h2⟩:=gi.1 hj;subst hi;rw[uS,th (h j h1).2 k hk,h2]
theorem nR(h:∀i (h:i<xs.length),off+i*n+n<=cs.size/\cut cs (off+i*n) n=enc xs[i]){x:α}(hj:xs[j]? =some x){i:Int}(hi:i=(j:Int))(hn:0<n):cs[off+i.toNat*n]? =(enc x)[0]? :=by
 have:=wz h hj hi 0 hn;rwa[Nat.add_zero]at this
theorem nr(h:∀i (h:i<xs.length),off+i*n+n<=cs.size/\cut cs (off+i*n) n=enc xs[i]){x:α}(hj:xs[j]? =some x){i:Int}(hi:i=(j:Int)):cut cs (off+i.toNat*n) n=enc x:=by
 obtain⟨h1,h2⟩:=gi.1 hj;subst hi;rw[uS,(h j h1).2,h2]
theorem nk(h:∀i (h:i<xs.length),off+i*n+n<=cs.size/\cut cs (off+i*n) n=enc xs[i]){x:α}(hj:xs[j]? =some x){i:Int}(hi:i=(j:Int)):off+i.toNat*n+n<=cs.size:=by
 obtain⟨h1,_⟩:=gi.1 hj;subst hi;rw[uS];exact(h j h1).1
end
def encI (x:Int):Array Value:=#[.int .i64 x]
variable {j:Nat}
theorem nC{α:Type}{xs:List α}{x:α}(h:xs[j]? =some x):xs.take (j+1)=xs.take j++[x]:=by
 obtain⟨h1,h2⟩:=gi.1 h;rw[GK h1,h2]
theorem nj{α:Type}(xs:List α)(j:Nat)(h:j<xs.length):∃x,xs[j]? =some x:=⟨_,gB h⟩
theorem nE{α:Type}{xs:List α}{x:α}(h:xs[j]? =some x):j<xs.length:=(gi.1 h).1
section
variable {C:Cx} {Q:aC} {fn:Func} {R:Ending->World->Prop} {E:Env} {D:List Deferred} {G:Gh} {L L':List World} {H:ab} {e:Exit}
theorem Zm(h:∀w∈L',w∈L)(k:PJ C Q e E D G L' H):PJ C Q e E D G L H:=λa W hN hD hF hS=>k a W hN hD hF (hS.lessL h)
end
section
variable {C:Cx} {E:Env} {G:Gh} {L:List World} {H:ab} {T:Nat} {x y:Operand}
end
variable {C:Cx} {E:Env} {T:Nat} {x:Operand}
theorem Kq{U:Nat}{y:Operand}{a b:Bool}(hU:C.P.underlying T=some .bool)(hx:ev E x=some (.bool a))(hy:ev E y=some (.bool b)):RV C G L H E (.binOp .eql T x y U) (.bool (a==b)):=λd ty pos aA g ac W hF _=>by
 have h1:(Op.equalIn (9999+1) T (.bool a) (.bool b)).run C.P W= .ok (a==b) W:=by
  generalize 9999=n;exact PD
 have h2:(binOp .eql T (.bool a) (.bool b)).run C.P W= .ok (.bool (a==b)) W:=by
  have e:binOp .eql T (.bool a) (.bool b)=(do pure (.bool (<-Op.equalIn (9999+1) T (.bool a) (.bool b)))):=rfl;rw[e,Sem.run_bind,h1];rfl
 have h3:(eqGuard .eql T x y (.bool a) (.bool b)).run C.P W= .ok () W:=by simp[eqGuard]
 simp only[execOp,hF.ev hx,hF.ev hy,Sem.run_bind,h3,h2,Result.andThen];rfl
/-! ### what comes in -/
theorem nnh{α:Type}{p:Nat->α->Prop}:∀n,(∀i,i<n->∃x,p i x)->∃xs:List α,xs.length=n/\∀i x,xs[i]? =some x->p i x
 |0,_=>⟨[],rfl,λi x h=>by simp at h⟩
 |n+1,h=>by
  obtain⟨xs,h1,h2⟩:=nnh n λi hi=>h i zJ;obtain⟨x,hx⟩:=h n zJ;refine⟨xs++[x],by simp[h1],λi y hy=>?_⟩;by_cases hi:i<xs.length
  ·rw[vZ hi]at hy;exact h2 i y hy
  have e:i=n:=by
   have:=nE hy;simp at this;omega
  subst e;rw[B6 zJ,h1,Nat.sub_self]at hy;obtain rfl:x=y:=by simpa using hy
  exact hx
theorem My{n:Nat}{r:List Value}(hn:0<n)(hr:r.length=n)(h:∀j,j<n->cs[k+j]? =r[j]?):k+n<=cs.size/\cut cs k n=r.toArray:=by
 constructor
 ·have h1:=h (n-1) zJ;rw[gB zJ]at h1;have:=(aT.1 h1).1;omega
 unfold cut;congr 1;apply tS;intro i;by_cases hi:i<n
 ·rw[I2 hi,uL,vY];exact h i hi
 rw[List.getElem?_take_eq_none zJ,so zJ]
variable {i:Nat} {v:Value}
theorem nIn(h:W.cell? ⟨b,i,none⟩=some v):∃cs t fr,W.heap[b]? =some (.cells cs t fr)/\cs[i]? =some v:=by
 unfold World.cell? at h;cases hb:W.heap[b]? with
 |none=>simp[hb]at h
 |some o=>
  cases o with
  |cells cs t fr=>simp[hb]at h;exact⟨cs,t,fr,rfl,h⟩
  |_=>simp[hb]at h
theorem Xc(b off n:Nat):(⟨b,off,none⟩:Addr).add n=⟨b,off+n,none⟩:=Iy b off n
theorem Gw{α:Type}{enc:α->Array Value}{n:Nat}(hn:0<n){a:Addr}{xs:List α}(h:∀i x,xs[i]? =some x->∃dS:List Value,W.cells? 0 (a.add (i*n)) n=some dS/\dS=(enc x).toList):ag enc n W.heap.size W (some a) xs:=by
 rcases xs with _|⟨x0,xs⟩
 ·exact .inl rfl
 right;obtain⟨c0,h0,_⟩:=h 0 x0 rfl;rw[Nat.zero_mul]at h0;obtain⟨_,BW,hc0⟩:=World.cells?_some h0;have e0:=hc0 0 hn;rw[gB zJ]at e0;obtain⟨b,off,spot⟩:=a;have hs:spot=none:=by simpa[Addr.add]using World.cell?_spot e0
 subst hs;rw[Xc,Xc]at e0;obtain⟨cs,t,fr,hb,_⟩:=nIn e0;refine⟨b,off,cs,t,fr,rfl,(aT.1 hb).1,hb,λi hi=>?_⟩;obtain⟨c1,h1,e1⟩:=h i _ (gB hi);rw[Xc]at h1;obtain⟨_,mE,ah⟩:=World.cells?_some h1;have:=My (cs:=cs) (k:=off+i*n) (r:=c1) hn mE (λj hj=>by
  have:=ah j hj;rw[Xc,Cc hb]at this;exact this)
 refine⟨this.1,?_⟩;rw[this.2,e1]
section
variable {H:Type} {enc:TypeId×Value->H} {P:Program} {w:World} {held:Bool}
theorem sl_in{α:Type}{el:α->Array Value}{n t fuel:Nat}{cs:List Value}{x:DataW H×List MemPlace}(q:α->Prop)(hn:0<n)(ht:P.underlying t=some (.slice e))(hc:P.cellsOf e=n)(h:DataW.trod enc P w 0 (λ_=>true) held fuel t cs=some x)(oO:∀dS m y,dS.length=n->DataW.trod enc P w 0 (λ_=>true) held m e dS=some y->∃z,dS=(el z).toList/\q z):∃a xs cap,cs=[.slice a xs.length cap]/\ag el n w.heap.size w a xs/\(∀z∈xs,q z)/\xs.length<=maxLen:=by
 rcases Go.Deep.open_slice ht h with⟨rfl,_⟩|⟨a,len,cap,m,nn,D,Pl,rfl,_,hl,hm,ve,_,hx⟩
 ·exact⟨none,[],0,rfl,.inl rfl,by simp,db _⟩
 have Io:len<=m:=by rw[ve];simpa using hl
 obtain⟨xs,h1,h2⟩:=nnh (p:=λi z=>∃dS,w.cells? 0 (a.add (i*n)) n=some dS/\dS=(el z).toList/\q z) len (λi hi=>by
  obtain⟨dS,g1,g2⟩:=hx i zJ;rw[hc]at g1;obtain⟨z,g3,g4⟩:=oO dS nn _ (World.cells?_some g1).2.1 g2;exact⟨z,dS,g1,g3,g4⟩)
 refine⟨some a,xs,cap,by rw[h1],Gw hn (λi z hz=>?_),λz hz=>?_,by omega⟩
 ·obtain⟨dS,g1,g2,_⟩:=h2 i z hz;exact⟨dS,g1,g2⟩
 obtain⟨i,hi⟩:=List.getElem?_of_mem hz;exact(h2 i z hi).choose_spec.2.2
theorem tC{cs:List Value}(h:(cs.drop i).take 1=[v]):cs[i]? =some v:=by
 have:=congrArg (λl=>l[0]?) h;simpa[List.getElem?_take,uL]using this
theorem wfI{n:Int}(h:(Lit.int .i64 n).wf=true): -9223372036854775808<=n/\n<=9223372036854775807:=bounds_i64 h
theorem arr_ints{t n fuel base:Nat}{spare:Nat->Bool}{k:IntKind}{cs:List Value}{ns:List Int}{ps:List MemPlace}(ht:P.underlying t=some (.array n e))(he:P.underlying e=some (.int k))(hc:P.cellsOf e=1)(hn:P.cellsOf t=n)(h:DataW.trod enc P w base spare held fuel t cs=some (.agg (ns.map λx=>.lit (.int k x)),ps)):cs=ns.map λx=>.int k x:=by
 obtain⟨xs,m,rfl,hx,hl,cj,oO⟩:=DataW.trod_array ht h;simp only[Prod.mk.injEq,DataW.agg.injEq]at hx;have hlen:ns.length=n:=by have:=congrArg List.length hx.1;simpa[cj]using this
 apply List.ext_getElem (by rw[hl,hn];simp[hlen]);intro i h1 h2;have hi:i<n:=by rw[hl,hn]at h1;exact h1
 have Hk:i<ns.length:=by omega
 have e1:=oO i hi;rw[hc]at e1;have hxi:i<xs.length:=by omega
 rw[gB hxi]at e1;obtain⟨q,e2,e3,_⟩:=DataW.trod_int he e1;have e4:(xs.map (·.1))[i]'(by simpa using hxi)= .lit (.int k q):=by simp[e3]
 have e5:(xs.map (·.1))[i]'(by simpa using hxi)= .lit (.int k ns[i]):=by
  have:(xs.map (·.1))=ns.map λx=>.lit (.int k x):=hx.1.symm;simp only[this,L8]
 rw[e4]at e5;have e6:q=ns[i]:=by injection e5 with e7;injection e7
 subst e6;have e8:cs[i]= .int k ns[i]:=by
  have:=congrArg (λl=>l[0]?) e2;simp[List.getElem?_take,uL]at this;rw[gB h1]at this;exact Option.some.inj this
 rw[e8,L8]
end
theorem LV{l:List Value}(hs:cs.size=l.length)(h:∀i,i<l.length->cs[i]? =l[i]?):cs=l.toArray:=by
 apply Array.ext';apply tS;intro i;rw[vY];by_cases hi:i<l.length
 ·rw[h i hi]
 rw[so HY,Array.getElem?_eq_none zJ]
/-! ### rows of elements: a list that grows from nil -/
/-- the cells of a list of elements -/
def eg {α:Type} (enc:α->List Value) (xs:List α):List Value:=xs.flatMap enc
theorem qQ{α:Type}{enc:α->List Value}(h:∀x,(enc x).length=m)(xs:List α):(eg enc xs).length=xs.length*m:=by
 induction xs with
 |nil=>simp[eg]
 |cons x xs ih=>simp only[eg,GZ,cK,dQ]at *;rw[h,ih,kN];omega
theorem Nl{α:Type}(enc:α->List Value)(xs ys:List α):eg enc (xs++ys)=eg enc xs++eg enc ys:=by simp[eg]
theorem Gx{α:Type}(enc:α->List Value)(x:α):eg enc [x]=enc x:=by simp[eg]
theorem RC{α:Type}{enc:α->List Value}{m:Nat}(h:∀x,(enc x).length=m):∀(xs:List α) (sp:List Value) (i:Nat) (hi:i<xs.length),((eg enc xs++sp).drop (i*m)).take m=enc xs[i]
 | [],_,i,hi=>by simp at hi
 |x::xs,sp,0,_=>by
  simp only[eg,GZ,Nat.zero_mul,P0,iX,List.getElem_cons_zero];rw[PT (h x)]
 |x::xs,sp,i+1,hi=>by
  have:=RC h xs sp i HY;simp only[eg,GZ,iX,List.getElem_cons_succ]at *;rw[show(i+1)*m=m+i*m by rw[kN];omega,<-List.drop_drop,List.drop_left' (h x)];exact this
theorem BS{α:Type}{enc:α->List Value}(h:∀x,∀u∈enc x,u.oneCell'=true)(xs:List α):∀u∈eg enc xs,u.oneCell'=true:=by
 intro u hu;obtain⟨x,_,hx⟩:=PZ.1 hu;exact h x u hx
inductive Rw where
 |nil
 |row (b cap:Nat) (sp:List Value)
def Rw.val (n:Nat):Rw->Value
 | .nil=>.slice none 0 0
 | .row b cap _=>.slice (some ⟨b,0,none⟩) n cap
theorem Rw.val_cells(n:Nat)(r:Rw):(r.val n).cells=#[r.val n]:=by cases r<;>rfl
theorem Rw.val_size(n:Nat)(r:Rw):(r.val n).cells.size=1:=by cases r<;>rfl
theorem Rw.val_one(n:Nat)(r:Rw):nT (r.val n).cells.toList=true:=by cases r<;>rfl
abbrev ck {α:Type} (enc:α->List Value) (t:Nat) (xs:List α) (sp:List Value):Obj:=.cells (eg enc xs++sp).toArray t (0,0)
def Rw.hp {α:Type} (enc:α->List Value) (t:Nat) (xs:List α):Rw->ab
 | .nil=>[]
 | .row b _ sp=>[(b,ck enc t xs sp)]
def Rw.Fit {α:Type} (m:Nat) (xs:List α):Rw->Prop
 | .nil=>xs=[]
 | .row _ cap sp=>xs.length<=cap/\sp.length=(cap-xs.length)*m
def Rw.Fr (G:Gh) (L:List World):Rw->Prop
 | .nil=>True
 | .row b _ _=>Px.Fr G L b
def Rw.ge (n:Nat):Rw->Prop
 | .nil=>True
 | .row b _ _=>n<=b
def Rw.isAt (k:Nat):Rw->Prop
 | .nil=>False
 | .row b _ _=>b=k
variable {r:Rw}
theorem Rw.Fr_at(h:r.Fr G L)(hk:r.isAt k):Px.Fr G L k:=by
 cases r with
 |nil=>exact hk.elim
 |row b cap sp=>cases hk;exact h
theorem Rw.ge_at{n:Nat}(h:r.ge n)(hk:r.isAt k):n<=k:=by
 cases r with
 |nil=>exact hk.elim
 |row b cap sp=>cases hk;exact h
def Rw.At {α:Type} (enc:α->List Value) (t:Nat) (xs:List α) (w:World):Rw->Prop
 | .nil=>True
 | .row b _ sp=>w.heap[b]? =some (ck enc t xs sp)
theorem Rw.mem_at{α:Type}{enc:α->List Value}{t:Nat}{xs:List α}(hk:r.isAt k):k∈(r.hp enc t xs).map (·.1):=by
 cases r with
 |nil=>exact hk.elim
 |row b cap sp=>cases hk;simp[Rw.hp]
theorem Rw.off_ge{α:Type}{enc:α->List Value}{t n:Nat}{xs:List α}(h:r.ge n)(hk:k<n):bD (r.hp enc t xs) k:=by
 cases r with
 |nil=>trivial
 |row b cap sp=>exact⟨by have:n<=b:=h;omega,trivial⟩
theorem Rw.ge_mono{n n':Nat}(h:r.ge n)(hn:n'<=n):r.ge n':=by
 cases r with
 |nil=>trivial
 |row b cap sp=>exact aR hn h
theorem Rw.over{α:Type}{enc:α->List Value}{t n:Nat}{xs:List α}(h:r.ge n):Over n (r.hp enc t xs):=by
 cases r with
 |nil=>trivial
 |row b cap sp=>exact⟨h,trivial⟩
variable {H':ab}
theorem ne:bD (H++H') k↔bD H k/\bD H' k:=by
 induction H with
 |nil=>simp[bD]
 |cons p H ih=>simp only[eP,bD,ih,and_assoc]
theorem n9:Over k (H++H')↔Over k H/\Over k H':=by
 induction H with
 |nil=>simp[Over]
 |cons p H ih=>simp only[eP,Over,ih,and_assoc]
theorem Fr.ge{w:World}(h:Px.Fr G L b)(hX:¬G.X b)(hw:w∈L):w.heap.size<=b:=by
 rcases h with h|h
 ·exact absurd h hX
 exact h.mem w hw
theorem Rw.ge_of{w:World}(h:r.Fr Gh.no L)(hw:w∈L):r.ge w.heap.size:=by
 cases r with
 |nil=>trivial
 |row b cap sp=>exact Fr.ge (G:=Gh.no) h zU hw
theorem Rw.mem_ge{α:Type}{enc:α->List Value}{t n:Nat}{xs:List α}(h:r.ge n)(hk:k∈(r.hp enc t xs).map (·.1)):n<=k:=by
 cases r with
 |nil=>simp[Rw.hp]at hk
 |row b cap sp=>simp[Rw.hp]at hk;subst hk;exact h
structure kY (P:Program) (t e m:Nat):Prop where
 und:P.underlying t=some (.slice e)
 info:∃ti z,P.info? e=some ti/\ti.zero=some z/\ti.size=m/\z.cells.size=m/\ti.bytes<=100000
section
variable {C:Cx} {Q:aC} {E:Env} {D:List Deferred} {G:Gh} {L:List World} {H H0 H1:ab} {ops:Array Oper} {l:List Oper}
variable {d T ty f:Nat} {pos:String} {aA:Array Edge} {g:Option (Nat×Bool)} {x y:Operand} {xo:List Operand} {vs:List Value} {dJ:Array Nat}
variable {α:Type} {enc:α->List Value} {m:Nat}
def dz (C:Cx) (G:Gh) (L:List World) (H:ab) (enc:α->List Value) (m tx:Nat) (sv:Value) (zs:List α):Prop:=jh C G L H m tx sv zs.length (eg enc zs)
variable {tx:Nat} {fr:Nat×Nat}
theorem dz.at{e' off c t:Nat}{zs:List α}(hm:∀x,(enc x).length=m)(h1:∀x,∀u∈enc x,u.oneCell'=true)(hU:C.P.underlying tx=some (.slice e'))(hb:bL G L H b (.cells cs t fr))(hn:off+zs.length*m<=cs.size)(he:(cs.toList.drop off).take (zs.length*m)=eg enc zs):dz C G L H enc m tx (.slice (some ⟨b,off,none⟩) zs.length c) zs:=
 jh.sl hU (λW hS=>by rw[W8 (hb W hS) hn];unfold cut;rw[he]) (qQ hm zs) (BS h1 zs)
theorem dz.one{e' c t:Nat}{z:α}(hm:∀x,(enc x).length=m)(h1:∀x,∀u∈enc x,u.oneCell'=true)(hU:C.P.underlying tx=some (.slice e'))(hb:bL G L H b (.cells (enc z).toArray t fr)):dz C G L H enc m tx (.slice (some ⟨b,0,none⟩) 1 c) [z]:=
 dz.at (zs:=[z]) hm h1 hU hb (by simp[hm]) (by simp only[P0,HV,Nat.one_mul,Gx];rw[<-hm z];exact JU)
variable {sv:Value}
theorem pM{t:Nat}{xs zs:List α}(hH:H=H0++(r.hp enc e xs++H1))(hT:kY C.P t e m)(hm:∀x,(enc x).length=m)(hw:np ops E g=some true)(hN:Nat.blt d C.N=true)(hx:ev E x=some (r.val xs.length))(hy:ev E y=some sv)(hs:dz C G L H enc m tx sv zs)(hr:r.Fit m xs)(hf:r.Fr G L)(h0:0<zs.length)(gA:xs.length+zs.length<=1000000)(k:∀(b' aP:Nat) (bG:List Value),(r.isAt b'\/ad L b')->(Rw.row b' aP bG).Fit m (xs++zs)->OJ C ops Q l ((d,.slice (some ⟨b',0,none⟩) (xs++zs).length aP)::E) D G L (H0++((b',ck enc e (xs++zs) bG)::H1))):OJ C ops Q (⟨some d,.call ⟨.builtin .append,#[x,y],#[t,tx]⟩,ty,pos,aA,g⟩::l) E D G L H:=
 oG zX hw hN λa W hF hS=>by
  obtain⟨ti,z,pj,hz,iW,sS,ox⟩:=hT.info;have hl:(xs++zs).length=xs.length+zs.length:=cK;have hB:(xs.length+zs.length)*ti.bytes<=140737488355328:=aR (Nat.mul_le_mul gA ox) zO;cases r with
  |nil=>
   have il:xs=[]:=hr;subst il;rw[mT,iC]at hB;obtain⟨aP,bG,W',fZ,fq,vO,jC⟩:=hS.appN (P:=C.P) (ty:=ty) hT.und pj hz iW sS (hs.src hS) h0 zJ hB;refine⟨.slice (some ⟨W.heap.size,0,none⟩) zs.length aP,W',L,H0++((W.heap.size,ck enc e ([]++zs) bG)::H1),?_,?_,?_⟩
   ·have hxx:ev E x=some (.slice none 0 0):=hx;simp[execOp,hF.ev hxx,hF.ev hy,resolve,invoke,Deferred.ofValue,builtin,fZ]
   ·rw[hH]at fq;exact fq.perm (by simpa[Rw.hp,dK]using List.perm_middle.symm)
   exact k _ _ _ (.inr hS.sizes) ⟨by simpa using vO,by simpa using jC⟩
  |row b cap sp=>
   obtain⟨hc,xR⟩:=hr;have hi:H[H0.length]? =some (b,.cells (eg enc xs++sp).toArray e (0,0)):=by rw[hH];simp[Rw.hp]
   obtain⟨b',aP,bG,W',fZ,fq,ef,vO,jC⟩:=hS.app (P:=C.P) (ty:=ty) hi hT.und pj hz iW sS (hs.src hS) (qQ hm xs) xR hc hf zJ hB;have TO:(Rw.row b cap sp).isAt b'\/ad L b':=by
    rcases ef with rfl|ef
    ·exact .inl rfl
    exact .inr (IJ hS ef)
   refine⟨.slice (some ⟨b',0,none⟩) (xs.length+zs.length) aP,W',L,_,?_,fq,?_⟩
   ·have hxx:ev E x=some (.slice (some ⟨b,0,none⟩) xs.length cap):=hx;simp[execOp,hF.ev hxx,hF.ev hy,resolve,invoke,Deferred.ofValue,builtin,fZ]
   have:=k b' aP bG TO ⟨by rw[hl];exact vO,by rw[hl];exact jC⟩;rw[hl]at this;rw[hH];simpa[Rw.hp,ck,Nl]using this
theorem Rw.sl{t:Nat}{xs:List α}{w:World}(hm:∀x,(enc x).length=m)(hr:r.Fit m xs)(hA:r.At enc t xs w)(hN:w.heap.size<=N):∃a cap,r.val xs.length= .slice a xs.length cap/\ag (λx=>(enc x).toArray) m N w a xs:=by
 cases r with
 |nil=>
  have il:xs=[]:=hr;subst il;exact⟨none,0,rfl,.inl rfl⟩
 |row b cap sp=>
  have hA':w.heap[b]? =some (ck enc t xs sp):=hA;refine⟨_,_,rfl,ag.block (jT (aT.1 hA').1 hN) hA' λi hi=>⟨?_,?_⟩⟩
  ·have h1:(i+1)*m<=xs.length*m:=s4 _ hi;rw[kN]at h1;simp only[qF,cK,qQ hm];omega
  unfold cut;rw[RC hm xs sp i hi]
def nD (w:World) (enc:α->List Value) (m t:Nat) (xs:List α) (v:Value->Value):Ending->World->Prop:=λe w'=>
 ∃r:Rw,e= .returned (v (r.val xs.length))/\Below w.heap.size w w'/\r.ge w.heap.size/\r.Fit m xs/\r.At enc t xs w'
variable {fv:Operand}
theorem Ho{t:Nat}{xs:List α}{v:Value->Value}{first cap:List Value}(hx:ev E fv=some (.func (.func f) first.toArray cap.toArray))(az:dP C.P f)(hw:np ops E g=some true)(hN:Nat.blt d C.N=true)(ha:gR E xo=some vs)(hc:∀W,St G L H W->Calls C.P f (first++vs++cap).toArray W (nD W enc m t xs v))(k:∀r:Rw,r.Fr G L->r.Fit m xs->OJ C ops Q l ((d,v (r.val xs.length))::E) D G L (r.hp enc t xs++H)):OJ C ops Q (⟨some d,.call ⟨.value fv,xo.toArray,dJ⟩,ty,pos,aA,g⟩::l) E D G L H:=
 nX rfl hw hx ha zX az λa W gQ hD hF hS=>(hc W hS).mono (by
  rintro ed W' ⟨r,rfl,hb,kU,bN,fJ⟩;refine k r ?_ bN (a.put (some d) (v (r.val xs.length))) W' jY jr (hF.put _ kT) ?_
  ·cases r with
   |nil=>trivial
   |row b cap sp=>exact Fr.up hS kU
  cases r with
  |nil=>exact hS.step hb
  |row b cap sp=>exact(hS.step hb).adopt fJ (BO hS kU) (λhv=>by have:=hS.vlt _ hv;have:W.heap.size<=b:=kU;omega))
theorem n0{t:Nat}{xs:List α}{v:Value->Value}{first cap:List Value}(hx:ev E fv=some (.func (.func f) first.toArray cap.toArray))(az:dP C.P f)(hw:np ops E g=some true)(hN:Nat.blt d C.N=true)(ha:gR E xo=some vs)(hm:∀x,(enc x).length=m)(hc:∀W,St G L H W->Calls C.P f (first++vs++cap).toArray W (nD W enc m t xs v))(k:∀W a cp w1,St G L H W->Below W.heap.size W w1->ag (λx=>(enc x).toArray) m w1.heap.size w1 a xs->(∀b,a=some b->W.heap.size<=b.block)->OJ C ops Q l ((d,v (.slice a xs.length cp))::E) D G (w1::L) H):OJ C ops Q (⟨some d,.call ⟨.value fv,xo.toArray,dJ⟩,ty,pos,aA,g⟩::l) E D G L H:=
 nX rfl hw hx ha zX az λac W gQ hD hF hS=>(hc W hS).mono (by
  rintro ed W' ⟨r,rfl,hb,kU,bN,fJ⟩;obtain⟨a,cp,he,aH⟩:=r.sl hm bN fJ (ao _);have:=k W a cp W' hS hb aH (by
   intro b pb;cases r with
   |nil=>simp only[Rw.val,Value.slice.injEq]at he;rw[<-he.1]at pb;cases pb
   |row b' cap sp=>simp only[Rw.val,Value.slice.injEq]at he;rw[<-he.1]at pb;cases pb;exact kU) (ac.put (some d) (v (.slice a xs.length cp))) W' jY jr (hF.put _ kT) (hS.step hb).snap
  rw[he];exact this)
variable {rs:List ResultVar} {us:List Value}
theorem nW{fn:Func}{t:Nat}{xs:List α}{v:Value->Value}{w:World}{e:Exit}(he:e= .ret\/e= .normal)(hr:fn.results=rs.toArray)(h:RS C Gh.no L H E rs us)(hw:w∈L)(ho:Over w.heap.size H)(hv:IH us=v (r.val xs.length))(bN:r.Fit m xs)(kU:r.ge w.heap.size)(hH:H=H0++(r.hp enc t xs++H1)):PJ C (bodyPost C.P fn (nD w enc m t xs v)) e E [] Gh.no L H:=
 bH he hr h λW hS=>⟨r,by rw[hv],hS.base hw ho,kU,bN,by
  cases r with
  |nil=>trivial
  |row b cap sp=>exact hS.own (b,ck enc t xs sp) (by rw[hH];simp[Rw.hp])⟩
end
def aj (x:Int):List Value:=[.int .i64 x]
theorem nw(x:Int):(aj x).length=1:=rfl
theorem Hm(x:Int):∀u∈aj x,u.oneCell'=true:=by intro u hu;simp[aj]at hu;subst hu;rfl
end Px
