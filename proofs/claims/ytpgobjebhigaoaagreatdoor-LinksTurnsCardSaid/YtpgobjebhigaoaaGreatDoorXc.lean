/- Memory, operations, iterators, slices, maps. No condition beyond those stated. -/
import Derived.Test.YtpgobjebhigaoaaGreatDoorXb
import Derived.Laws.IdiomStrings
import Derived.Laws.BytesArg
import Derived.RecoverIn
import Derived.Laws.StructEq
import Derived.ProofKit
import Derived.LaidMore
import Derived.OpenShut
import Derived.Stop.Joined
import Derived.Carry
import Derived.Deep.Slices
set_option linter.unusedSimpArgs false
set_option linter.unusedVariables false
set_option linter.unusedSectionVars false
set_option maxRecDepth 20000
set_option maxHeartbeats 8000000
namespace Px
open Go Go.RowKit
theorem nYh{P:Program}(W:World)(t tx ty e:TypeId)(i:TypeInfo)(z:Value)(ht:P.underlying t=some (.slice e))(htx:P.underlying tx=some (.int .i64))(hi:P.info? e=some i)(hz:i.zero=some z)(uM:z.cells=#[z])(hs:i.size=1)(hb:i.bytes=1)(n:Nat)(h0:0<n)(h1:n<=1099511627776):(Builtin.append_ #[t,tx] ty #[.slice none 0 0,.int .i64 (n:Int)]).run P W= .ok (.slice (some ⟨W.heap.size,0,none⟩) n (grownCap W n 0 e)) (W.drew.alloc (.cells (cf (grownCap W n 0 e) (λ_=>z)) e (0,0))):=by
 have hw:IntKind.i64.wrap (n:Int)=(n:Int):=IE zM zM;have h48:¬(281474976710656<Builtin.nextslicecap n 0*i.bytes):=by
  have:=growslice_fits (need:=n) (old:=0) (bytes:=i.bytes) zM (by rw[hb];omega);omega
 have kV:=grownCap_ge W n 0 e;have agc:∀k,Builtin.zeroCells z.cells k=cf k (λ_=>z):=by
  intro k;apply Array.ext';rw[uM];simp[Builtin.zeroCells,cf,Nat.mod_one]
 have agd:cf n (λ_=>z)++cf (grownCap W n 0 e-n) (λ_=>z)=cf (grownCap W n 0 e) (λ_=>z):=by
  apply Array.ext';simp only[cf,Array.toList_append];rw[List.map_const',List.map_const',List.map_const'];simp only[List.length_range];rw[List.replicate_append_replicate];congr 1;omega
 rw[<-agd];simp[Builtin.append_,run_underlying ht,run_underlying htx,Go.sizeOf,typeInfo,zeroValue,hi,hz,asInt,asIntOf,hw,hs,hb,show ¬((n:Int)<0) by omega,show ¬(281474976710656<(n:Int)) by omega,Nat.not_le.2 h0,
  show ¬(9223372036854775807<(n:Int)) by omega,Question.forced,Builtin.firstCells,newRow,grownCap,agc,show n≠0 by omega]at h48 ⊢
 intro h;omega
structure rz where
 b:Nat
 off:Nat
 n:Nat
 c:Nat
 m:Nat->Int
def rz.val (s:rz):Value:=.slice (some ⟨s.b,s.off,none⟩) s.n s.c
def jr (n:Nat) (m:Nat->Int):List Value:=(List.range n).map λi=>.int .u8 (m i)
def rz.l (s:rz):List Value:=jr s.n s.m
def rz.At (s:rz) (w:World):Prop:=∃cs t fr,w.heap[s.b]? =some (.cells cs t fr)/\s.off+s.n<=cs.size/\∀i,i<s.n->cs[s.off+i]? =some (.int .u8 (s.m i))
theorem wF(n:Nat)(m:Nat->Int):(jr n m).length=n:=by simp[jr]
theorem ze(n:Nat)(m:Nat->Int):∀u∈jr n m,u.oneCell'=true:=by
 intro u hu;obtain⟨i,_,rfl⟩:=bU.1 hu;rfl
variable {aB:Array Edge} {es:Array MapEntry} {dX:Array Nat} {ops:Array Oper} {cs:Array Value} {C:Cx} {R:Ending->World->Prop} {E:Env} {e ex:Exit} {G:Gh} {H H' H0:ad} {K:IntKind} {eE:List (List Nat)} {ps:List (Nat×Operand)} {Ph:List (Option Value)->List World->ad->Prop} {ch ds rest:List Nat} {rs:List ResultVar} {ys zs:List UInt8} {news sp bK us vs:List Value} {L:List World} {N N' T b f i j k kt m tx ty u:Nat} {fr:Nat×Nat} {o:Obj} {fv x:Operand} {hi:Option Operand} {pos:String} {sv v:Value} {W W' w':World}
theorem ZI{off n:Nat}{m:Nat->Int}(h:off+n<=cs.size)(hm:∀i,i<n->cs[off+i]? =some (.int .u8 (m i))):(cs.toList.drop off).take (n*1)=jr n m:=by
 apply vr;intro i;by_cases hi:i<n
 ·rw[KC zM,wC,xW,hm i hi];simp[jr,hi]
 rw[um kh,um (by rw[wF];omega)]
def nP:List rz->List Value
 | []=>[]
 |s::ss=>s.l++nP ss
theorem nbo(ss:List rz)(s:rz):nP (ss++[s])=nP ss++s.l:=by
 induction ss with
 |nil=>simp[nP]
 |cons x ss ih=>simp[nP,ih]
theorem ZG(ss:List rz)(j:Nat)(h:j<ss.length):nP (ss.take (j+1))=nP (ss.take j)++ss[j].l:=by
 rw[IA h,nbo]
theorem nBg(ss:List rz):∀j,(nP (ss.take j)).length<=(nP ss).length:=by
 induction ss with
 |nil=>intro j;simp[nP]
 |cons x ss ih=>intro j;cases j with
  |zero=>simp[nP]
  |succ j=>simp only[Tj,nP,cC];have:=ih j;omega
section
variable {C:Cx} {Q:aF} {E:Env} {D:List Deferred} {G:Gh} {L:List World} {H:ad} {ops:Array Oper} {l:List Oper}
variable {d T ty f:Nat} {pos:String} {aB:Array Edge} {g:Option (Nat×Bool)} {x y:Operand}
theorem ZE{n e t:Nat}{ti:TypeInfo}{z:Value}(hU:C.P.underlying t=some (.slice e))(hUx:C.P.underlying tx=some (.int .i64))(qd:C.P.info? e=some ti)(hz:ti.zero=some z)(uM:z.cells=#[z])(hs:ti.size=1)(hb:ti.bytes=1)(hw:np ops E g=some true)(hN:Nat.blt d C.N=true)(hx:ev E x=some (.slice none 0 0))(hy:ev E y=some (.int .i64 (n:Int)))(h0:0<n)(h1:n<=1099511627776)(k:∀(b cap:Nat),ab L b->bE H b->n<=cap->OJ C ops Q l ((d,.slice (some ⟨b,0,none⟩) n cap)::E) D G L ((b,.cells (cf cap (λ_=>z)) e (0,0))::H)):OJ C ops Q (⟨some d,.call ⟨.builtin .append,#[x,y],#[t,tx]⟩,ty,pos,aB,g⟩::l) E D G L H:=
 pC z1 hw hN λa W hF hS=>by
  have hr:=nYh (P:=C.P) W t tx ty e ti z hU hUx qd hz uM hs hb n h0 h1;have fP:=(hS.step (FT W (W.drawn+1))).alloc (.cells (cf (grownCap W n 0 e) (λ_=>z)) e (0,0));refine⟨_,_,_,_,?_,fP,k W.heap.size _ hS.sizes hS.offNew (grownCap_ge W n 0 e)⟩;simp[execOp,hF.ev hx,hF.ev hy,resolve,invoke,Deferred.ofValue,builtin,hr]
theorem Wa{xs:List Operand}{α:Type}{v:α->Value}{bo:α->Nat×Obj}{Φ:α->Prop}(ax:dU C.P f)(hw:np ops E g=some true)(hN:Nat.blt d C.N=true)(ha:il E xs=some vs)(hc:∀W,St G L H W->Calls C.P f vs.toArray W (cu W v (λx w1=>W.heap.size<=(bo x).1/\Φ x/\w1.heap[(bo x).1]? =some (bo x).2)))(k:∀x,ab L (bo x).1->bE H (bo x).1->Φ x->OJ C ops Q l ((d,v x)::E) D G L (bo x::H)):OJ C ops Q (⟨some d,.call ⟨.value (.func f),xs.toArray,dX⟩,ty,pos,aB,g⟩::l) E D G L H:=
 nY rfl hw rfl ha z1 ax λa W ik hD hF hS=>(hc W hS).mono (by
  rintro e W' ⟨x,rfl,hb,h1,h2,h3⟩;have mT:bE H (bo x).1:=bE.of_mem λhm=>by
   obtain⟨p,hp,e⟩:=bU.1 hm;have:=hS.lt p hp;omega
  have sP:ab L (bo x).1:=ab.of_mem λw hw=>aS (hS.links w hw).size h1;exact k x sP mT h2 (a.put (some d) (v x)) W' kW ke (hF.put _ lO)
   ((hS.step hb).adopt h3 mT (λhv=>by have:=hS.vlt _ hv;omega)))
def sB (s:ByteArray) (i:Nat):Int:=((s.data[i]?.getD 0).toNat:Int)
theorem nUm(s:ByteArray)(c i:Nat)(h:i<s.size):(bytesRow s c)[0+i]? =some (.int .u8 (sB s i)):=by
 have h':i<s.data.size:=h;rw[jg];unfold bytesRow sB;rw[U6 (by simpa using h')];simp only[Array.getElem?_map,Ie h',wO,Option.getD_some]
theorem nGk(s:ByteArray)(c:Nat):s.size<=(bytesRow s c).size:=by
 unfold bytesRow;simp only[Array.size_append,Array.size_map];exact Nat.le_add_right _ _
theorem QZ{src dst e:Nat}{s:ByteArray}(hs:C.P.underlying src=some .string)(hd:C.P.underlying dst=some (.slice e))(he:C.P.underlying e=some (.int .u8))(hw:np ops E g=some true)(hN:Nat.blt d C.N=true)(hx:ev E x=some (.string s))(k:∀(b cap:Nat) (w1:World) (cs:Array Value) (fr:Nat×Nat),w1.heap[b]? =some (.cells cs e fr)->ab L b->bE H b->¬G.X b->w1.heap.size=b+1->s.size<=cap->0+s.size<=cs.size->(∀i,i<s.size->cs[0+i]? =some (.int .u8 (sB s i)))->OJ C ops Q l ((d,.slice (some ⟨b,0,none⟩) s.size cap)::E) D G (w1::L) H):OJ C ops Q (⟨some d,.convert src dst x,ty,pos,aB,g⟩::l) E D G L H:=
 pC z1 hw hN λa W hF hS=>by
  have hr:=run_bytes_of_string (P:=C.P) W src dst e s hs hd he;have fP:=((hS.step (FT W (W.drawn+1))).step (TV _ (.cells (bytesRow s (grownCap W s.size 0 e)) e ((bytesRow s (grownCap W s.size 0 e)).size,(bytesRow s (grownCap W s.size 0 e)).size+1)))).snap;refine⟨_,_,_,_,?_,fP,k W.heap.size _ _ _ _ (heap_alloc_new W.drew _) hS.sizes hS.offNew hS.mNew z1 (grownCap_ge W s.size 0 e) (by rw[jg];exact nGk s _) (λi hi=>nUm s _ i hi)⟩;simp[execOp,hF.ev hx,hr]
theorem uD{n e:Nat}{z:Value}{vs:List (Nat×Value)}(hU:C.P.underlying T=some (.array n e))(hz:vc C.P T z)(hp:nZ C.P e m)(ha:Ij E ps=some vs)(hs:vs=vh 0 (vs.map (·.2)))(hl:z.cells.size=vs.length*m)(hm:Ou m (vs.map (·.2))=true):RV C G L H E (.build T ps.toArray) (.agg (Ik (vs.map (·.2))).toArray):=λd ty pos aB g a W hF _=>by
 have hf:=Ot (pl:=λi=>some (i*m,m)) (ps:=vs) (cs:=z.cells) (ds:=Ik (vs.map (·.2))) (by
  have:=Vz m (vs.map (·.2)) 0 [] z.cells.toList hm z1 yq;rw[<-hs,eg,eg]at this;exact this)
 have h2:(ps.toArray).map (λ(i,x)=>(i,a.eval x))=vs.toArray:=by rw[yD,Oq hF ps vs ha]
 simp[execOp,h2,Instr.build,hz W,run_underlying hU,hp W,hf]
theorem RS.wAw{t ct n:Nat}(hi:H[i]? =some (b,.cells cs ct fr))(hA:eQ C.P T true)(hZ:nZ C.P T n)(hx:look E t=some (ptr b 0))(hv:cs.size=n)(k:RS C G L H E rs vs):RS C G L H E (.cell t T::rs) (.agg cs::vs):=by
 have:=RS.wA (C:=C) (G:=G) (L:=L) hi hA hZ hx zM k;rw[YM cs n hv]at this;exact this
theorem QU{e:Nat}(hU:C.P.underlying T=some (.slice e))(hZ:nZ C.P e m)(hx:ev E x=some (.slice none 0 0))(hh:BE E hi 0 0):RV C G L H E (.slice T x none hi none) (.slice none 0 0):=λd ty pos aB g a W hF _=>by
 have:=nsl (P:=C.P) (W:=W) hF true (lo:=none) (hi:=hi) (n:=0) (c:=0) (l:=0) (h:=0) rfl hh (ao _) (ao _);simp only[Option.map_none]at this;simp[execOp,hF.ev hx,Instr.sliceAt,Instr.slice,run_underlying hU,this,hZ W]
end
end Px
namespace Px

end Px
namespace Px
open Go Go.RowKit
/-! ### rows of bytes -/
def ub (l:List UInt8):List Value:=l.map λb=>Value.int .u8 b.toNat
theorem wJ(l:List UInt8):(ub l).length=l.length:=by simp[ub]
theorem zB(a b:List UInt8):ub (a++b)=ub a++ub b:=by simp[ub]
theorem Z9(l:List UInt8):∀u∈ub l,u.oneCell'=true:=by
 intro u hu;obtain⟨i,_,rfl⟩:=bU.1 hu;rfl
def fU (l:List UInt8) (i:Nat):Int:=((l[i]?.getD 0).toNat:Int)
theorem nqn(l:List UInt8):ub l=jr l.length (fU l):=by
 apply vr;intro i;by_cases h:i<l.length
 ·simp[ub,jr,fU,h]
 rw[um (by rw[wJ];omega),um (by rw[wF];omega)]
theorem Ri(l:List UInt8)(sp:List Value)(i:Nat)(h:i<l.length):((ub l++sp).toArray)[0+i]? =some (.int .u8 (fU l i)):=by
 rw[jg,DK,xX (by rw[wJ];exact h)];simp[ub,fU,h]
abbrev bB (b n cap:Nat):Value:=.slice (some ⟨b,0,none⟩) n cap
abbrev bj (e:Nat) (xs:List UInt8) (sp:List Value):Obj:=.cells (ub xs++sp).toArray e (0,0)
structure cJ (xs:List UInt8) (cap:Nat) (sp:List Value):Prop where
 le:xs.length<=cap
 sp:sp.length=cap-xs.length
structure vv (P:Program) (t e:Nat):Prop where
 und:P.underlying t=some (.slice e)
 el:P.underlying e=some (.int .u8)
 info:∃ti,P.info? e=some ti/\ti.zero=some (.int .u8 0)/\ti.size=1/\ti.bytes=1
 sz:nZ P e 1
section
variable {G:Gh} {L:List World} {H:ad} {W:World}
variable {b i:Nat} {o:Obj}
theorem St.renewF(h:St G L H W)(o':Obj)(hi:H[i]? =some (b,o))(ha:Fr G L b):St G L (H.set i (W.heap.size,o')) (W.alloc o'):=by
 have tG:=(gA.1 hi).1;have hp:H.Perm ((b,o)::H.eraseIdx i):=Ox H i _ hi;exact(((h.perm hp).dropF ha).alloc o').perm (YW H i _ tG).symm
theorem St.dropAtF(h:St G L H W)(hi:H[i]? =some (b,o))(ha:Fr G L b):St G L (H.eraseIdx i) W:=
 (h.perm (Ox H i _ hi)).dropF ha
theorem Fr.up(h:St G L H W)(hb:W.heap.size<=b):Fr G L b:=.inr (ab.of_mem λw hw=>aS (h.links w hw).size hb)
theorem Kl(h:St G L H W)(hb:W.heap.size<=b):ab L b:=ab.of_mem λw hw=>aS (h.links w hw).size hb
theorem Du(h:St G L H W)(hb:W.heap.size<=b):bE H b:=bE.of_mem λhm=>by
 obtain⟨p,hp,e⟩:=bU.1 hm;have:=h.lt p hp;omega
variable {news sp:List Value} {m tx ty:Nat} {sv:Value}
theorem St.app{P:Program}{e n len cap t:Nat}{ti:TypeInfo}{z:Value}{ys:List Value}(hS:St G L H W)(hi:H[i]? =some (b,.cells (ys++sp).toArray e (0,0)))(hU:P.underlying t=some (.slice e))(qd:P.info? e=some ti)(hz:ti.zero=some z)(hm:ti.size=m)(Az:z.cells.size=m)(tr:Src P m tx sv n news W)(hlen:ys.length=len*m)(zE:sp.length=(cap-len)*m)(Z6:len<=cap)(ha:Fr G L b)(h63:len+n<=9223372036854775807)(oG:(len+n)*ti.bytes<=140737488355328):∃b' aU bK W',(Builtin.append_ #[t,tx] ty #[.slice (some ⟨b,0,none⟩) len cap,sv]).run P W= .ok (.slice (some ⟨b',0,none⟩) (len+n) aU) W'/\St G L (H.set i (b',.cells (ys++news++bK).toArray e (0,0))) W'/\(b'=b\/W.heap.size<=b')/\len+n<=aU/\bK.length=(aU-(len+n))*m:=by
 subst hm;have hb:=hS.own _ (cB hi);have L6:=tr.newsLen;by_cases jf:len+n<=cap
 ·have hle:(len+n)*ti.size<=cap*ti.size:=uR _ jf;have jF:(ys++sp).toArray.size=cap*ti.size:=by
   simp only[rU,cC,hlen,zE];rw[<-lK];congr 1;omega
  rw[lK]at hle;have hr:=run_append_room_src (P:=P) W t tx ty e ti hU qd b 0 len cap sv n news tr jf
   (λj hj=>by rw[DP hb];simp only[jg];rw[Ie zM];rfl)
   (λj hj=>by simp[World.frozen?,hb])
  obtain⟨h1,h2⟩:=n8d b news (0+len*ti.size) W _ _ hb;have ku:(sp.drop (n*ti.size)).length=(cap-(len+n))*ti.size:=by
   rw[AN,zE,<-Nat.sub_mul];congr 1;omega
  have hc:setCells (ys++sp).toArray (0+len*ti.size) news=(ys++news++sp.drop (n*ti.size)).toArray:=by
   exact zPj
  rw[hc]at h2;exact⟨_,_,_,_,hr,hS.put hi h1 h2,.inl rfl,jf,ku⟩
 have hold:(Builtin.firstCells ti.size len (.slice (some ⟨b,0,none⟩) len cap)).run P W.drew= .ok ys.toArray W.drew:=by
  exact zak
 have hr:=run_append_grow_src (P:=P) W t tx ty e ti z hU qd hz (some ⟨b,0,none⟩) len cap ys hold sv n news tr zM zM (growslice_fits zM oG);have hg:=grownCap_ge W (len+n) cap e;have fP:=(hS.step (FT W (W.drawn+1))).renewF (.cells ((ys++news).toArray++Builtin.zeroCells z.cells (grownCap W (len+n) cap e-(len+n))) e (0,0)) hi ha;have Jf:(Builtin.zeroCells z.cells (grownCap W (len+n) cap e-(len+n))).toList.length=(grownCap W (len+n) cap e-(len+n))*ti.size:=by
  simp[Builtin.zeroCells,Az]
 have hc:(ys++news).toArray++Builtin.zeroCells z.cells (grownCap W (len+n) cap e-(len+n))=(ys++news++(Builtin.zeroCells z.cells (grownCap W (len+n) cap e-(len+n))).toList).toArray:=by
  apply Array.ext';simp
 rw[hc]at fP hr;exact⟨_,_,_,_,hr,fP,.inr (ao _),hg,Jf⟩
theorem St.appN{P:Program}{e n t:Nat}{ti:TypeInfo}{z:Value}(hS:St G L H W)(hU:P.underlying t=some (.slice e))(qd:P.info? e=some ti)(hz:ti.zero=some z)(hm:ti.size=m)(Az:z.cells.size=m)(tr:Src P m tx sv n news W)(h0:0<n)(h63:n<=9223372036854775807)(oG:n*ti.bytes<=140737488355328):∃aU bK W',(Builtin.append_ #[t,tx] ty #[.slice none 0 0,sv]).run P W= .ok (.slice (some ⟨W.heap.size,0,none⟩) n aU) W'/\St G L ((W.heap.size,.cells (news++bK).toArray e (0,0))::H) W'/\n<=aU/\bK.length=(aU-n)*m:=by
 subst hm;have hold:(Builtin.firstCells ti.size 0 (.slice none 0 0)).run P W.drew= .ok ([]:List Value).toArray W.drew:=by simp[Builtin.firstCells]
 have hr:=run_append_grow_src (P:=P) W t tx ty e ti z hU qd hz none 0 0 [] hold sv n news tr zM zM (growslice_fits zM (by rw[jg];exact oG));rw[jg]at hr;have hg:=grownCap_ge W n 0 e;have fP:=(hS.step (FT W (W.drawn+1))).alloc (.cells (([]++news:List Value).toArray++Builtin.zeroCells z.cells (grownCap W n 0 e-n)) e (0,0));have hc:([]++news:List Value).toArray++Builtin.zeroCells z.cells (grownCap W n 0 e-n)=(news++(Builtin.zeroCells z.cells (grownCap W n 0 e-n)).toList).toArray:=by
  apply Array.ext';simp
 rw[hc]at fP hr;exact⟨_,_,_,hr,fP,hg,by simp[Builtin.zeroCells,Az]⟩
end
section
variable {C:Cx} {Q:aF} {E:Env} {D:List Deferred} {G:Gh} {L:List World} {H:ad} {ops:Array Oper} {l:List Oper}
variable {d T ty f:Nat} {pos:String} {aB:Array Edge} {g:Option (Nat×Bool)} {x y:Operand} {xs:List Operand} {vs:List Value} {dX:Array Nat}
def iA (C:Cx) (G:Gh) (L:List World) (H:ad) (tx:Nat) (sv:Value) (zs:List UInt8):Prop:=jP C G L H 1 tx sv zs.length (ub zs)
variable {zs:List UInt8} {sp:List Value} {b i tx:Nat} {fr:Nat×Nat}
theorem iA.own{e' c t:Nat}(hU:C.P.underlying tx=some (.slice e'))(hi:H[i]? =some (b,.cells (ub zs++sp).toArray t fr)):iA C G L H tx (bB b zs.length c) zs:=
 jP.sl hU (Rd.own hi (by simp only[rU,cC,wJ];omega) (by simp only[RL,uk];rw[<-wJ zs,Pc rfl])) (by rw[wJ,uk]) (Z9 _)
theorem iA.str{s:ByteArray}(hU:C.P.underlying tx=some .string):iA C G L H tx (.string s) s.data.toList:=
 ⟨.inr hU,λ_=>rfl,Rd.str,by rw[wJ,uk],Z9 _⟩
variable {sv:Value}
theorem II{e cap t:Nat}{xs:List UInt8}(hi:H[i]? =some (b,bj e xs sp))(hB:vv C.P t e)(hw:np ops E g=some true)(hN:Nat.blt d C.N=true)(hx:ev E x=some (bB b xs.length cap))(hy:ev E y=some sv)(hs:iA C G L H tx sv zs)(hr:cJ xs cap sp)(ha:Fr G L b)(gQ:xs.length+zs.length<=1000000000000)(k:∀(b' aU:Nat) (bK:List Value),Fr G L b'->cJ (xs++zs) aU bK->OJ C ops Q l ((d,bB b' (xs++zs).length aU)::E) D G L (H.set i (b',bj e (xs++zs) bK))):OJ C ops Q (⟨some d,.call ⟨.builtin .append,#[x,y],#[t,tx]⟩,ty,pos,aB,g⟩::l) E D G L H:=
 pC z1 hw hN λa W hF hS=>by
  obtain⟨ti,qd,hz,jF,ph⟩:=hB.info;obtain⟨b',aU,bK,W',gv,fP,eJ,xM,ku⟩:=hS.app (P:=C.P) (ty:=ty) hi hB.und qd hz jF rfl (hs.src hS) (by rw[wJ,uk]) (by rw[hr.sp,uk]) hr.le ha zM (by rw[ph];omega);have VB:Fr G L b':=by
   rcases eJ with rfl|eJ
   ·exact ha
   exact Fr.up hS eJ
  have hl:(xs++zs).length=xs.length+zs.length:=cC;refine⟨.slice (some ⟨b',0,none⟩) (xs.length+zs.length) aU,W',L,_,?_,fP,?_⟩
  ·simp[execOp,hF.ev hx,hF.ev hy,resolve,invoke,Deferred.ofValue,builtin,gv]
  have:=k b' aU bK VB ⟨by rw[hl];exact xM,by rw[hl,ku,uk]⟩;rw[hl]at this;simpa only[bj,zB]using this
theorem apN{e t:Nat}(hB:vv C.P t e)(hw:np ops E g=some true)(hN:Nat.blt d C.N=true)(hx:ev E x=some (.slice none 0 0))(hy:ev E y=some sv)(hs:iA C G L H tx sv zs)(h0:0<zs.length)(gQ:zs.length<=1000000000000)(k:∀(b' aU:Nat) (bK:List Value),ab L b'->bE H b'->¬G.X b'->cJ zs aU bK->OJ C ops Q l ((d,bB b' zs.length aU)::E) D G L ((b',bj e zs bK)::H)):OJ C ops Q (⟨some d,.call ⟨.builtin .append,#[x,y],#[t,tx]⟩,ty,pos,aB,g⟩::l) E D G L H:=
 pC z1 hw hN λa W hF hS=>by
  obtain⟨ti,qd,hz,jF,ph⟩:=hB.info;obtain⟨aU,bK,W',gv,fP,xM,ku⟩:=hS.appN (P:=C.P) (ty:=ty) hB.und qd hz jF rfl (hs.src hS) h0 zM (by rw[ph];omega);refine⟨.slice (some ⟨W.heap.size,0,none⟩) zs.length aU,W',L,_,?_,fP,k W.heap.size aU bK hS.sizes hS.offNew hS.mNew ⟨xM,by rw[ku,uk]⟩⟩;simp[execOp,hF.ev hx,hF.ev hy,resolve,invoke,Deferred.ofValue,builtin,gv]
/-! #### functions that are lent a row and give one back -/
def KH (w:World) (b e:Nat) (ys:List UInt8):Ending->World->Prop:=λed w'=>
 ∃b' aU bK,ed= .returned (bB b' ys.length aU)/\aG (· =b) w w'/\(b'=b\/w.heap.size<=b')/\cJ ys aU bK/\w'.heap[b']? =some (bj e ys bK)
def Z3 (w:World) (e:Nat) (ys:List UInt8):Ending->World->Prop:=λed w'=>
 ∃b' aU bK,ed= .returned (bB b' ys.length aU)/\Below w.heap.size w w'/\w.heap.size<=b'/\cJ ys aU bK/\w'.heap[b']? =some (bj e ys bK)
variable {o:Obj}
theorem zh{w:World}(h:w.heap[b]? =some o):St (Gh.lent (· =b)) [w] [(b,o)] w where
 ghost:=trivial
 vlt:=λ_ h=>h.elim
 xlt:=λk hk=>by
  have:k=b:=hk;subst this;exact(aL.1 h).1
 links:=λw' hw=>by simp at hw;subst hw;exact aG.refl _ _
 own:=λp hp=>by simp at hp;subst hp;exact h
 nodup:=λi j p q hi hj _=>by
  have h1:=(gA.1 hi).1;have h2:=(gA.1 hj).1;simp at h1 h2;omega
 apart:=λ_ _ h=>h.elim
def jG (Z:Nat->Prop) (n:Nat):ad->Prop
 | []=>True
 |p::H=>(Z p.1\/n<=p.1)/\jG Z n H
theorem jG.mem{Z:Nat->Prop}{n:Nat}(h:jG Z n H):∀p∈H,Z p.1\/n<=p.1:=by
 exact zmk
variable {W:World}
theorem St.baseX{Z:Nat->Prop}{w:World}(h:St (Gh.lent Z) L H W)(hw:w∈L)(ho:jG Z w.heap.size H):aG Z w W:=
 (h.links w hw).mono λk hk hx=>by
  rcases hx with hx|hx
  ·exact hx
  obtain⟨p,hp,rfl⟩:=bU.1 hx;rcases ho.mem p hp with h|h
  ·exact h
  omega
section
variable {fn:Func}
variable {ex:Exit} {ys:List UInt8} {bK:List Value}
theorem Wh{t b' e aU:Nat}{w:World}(he:ex= .ret\/ex= .normal)(hr:fn.results=#[.tmp t])(hv:look E t=some (bB b' ys.length aU))(hi:H[i]? =some (b',bj e ys bK))(hw:w∈L)(ho:jG (· =b) w.heap.size H)(hk:cJ ys aU bK):PJ C (bodyPost C.P fn (KH w b e ys)) ex E [] (Gh.lent (· =b)) L H:=
 bJ he (rs:=[.tmp t]) hr (RS.t hv RS.n) λW hS=>⟨b',aU,bK,rfl,hS.baseX hw ho,ho.mem _ (cB hi),hk,hS.own _ (cB hi)⟩
theorem KP{t b' e aU:Nat}{w:World}(he:ex= .ret\/ex= .normal)(hr:fn.results=#[.tmp t])(hv:look E t=some (bB b' ys.length aU))(hi:H[i]? =some (b',bj e ys bK))(hw:w∈L)(ho:Over w.heap.size H)(hk:cJ ys aU bK):PJ C (bodyPost C.P fn (Z3 w e ys)) ex E [] Gh.no L H:=
 bJ he (rs:=[.tmp t]) hr (RS.t hv RS.n) λW hS=>⟨b',aU,bK,rfl,hS.base hw ho,ho.mem _ (cB hi),hk,hS.own _ (cB hi)⟩
end
variable {ys:List UInt8}
theorem O5{e:Nat}{first cap:List Value}(hi:H[i]? =some (b,o))(hx:ev E x=some (.func (.func f) first.toArray cap.toArray))(ax:dU C.P f)(hw:np ops E g=some true)(hN:Nat.blt d C.N=true)(ha:il E xs=some vs)(hF:Fr G L b)(hc:∀W,St G L H W->W.heap[b]? =some o->Calls C.P f (first++vs++cap).toArray W (KH W b e ys))(k:∀b' aU bK,Fr G L b'->cJ ys aU bK->OJ C ops Q l ((d,bB b' ys.length aU)::E) D G L (H.set i (b',bj e ys bK))):OJ C ops Q (⟨some d,.call ⟨.value x,xs.toArray,dX⟩,ty,pos,aB,g⟩::l) E D G L H:=
 nY rfl hw hx ha z1 ax λa W ik hD Kh hS=>(hc W hS (hS.own _ (cB hi))).mono (by
  rintro ed W' ⟨b',aU,bK,rfl,hk,eJ,hr,gk⟩;have UH:=λVB fP=>k b' aU bK VB hr (a.put (some d) (bB b' ys.length aU)) W' kW ke (Kh.put _ lO) fP;rcases eJ with rfl|eJ
  ·exact UH hF (hS.put hi hk gk)
  refine UH (Fr.up hS eJ) ?_;have jN:=(aL.1 (hS.own _ (cB hi))).1;obtain⟨ob,pj⟩:∃ob,W'.heap[b]? =some ob:=⟨W'.heap[b]'(kQ jN hk.size),Ie _⟩;have h1:=hS.put hi hk pj;have tG:=(gA.1 hi).1;have h2:(H.set i (b,ob))[i]? =some (b,ob):=by rw[J7 tG]
  have h3:=(h1.perm (Ox _ _ _ h2)).dropF hF;have hse:(H.set i (b,ob)).eraseIdx i=H.eraseIdx i:=by rw[List.eraseIdx_set_eq]
  rw[hse]at h3;have mT:bE (H.eraseIdx i) b':=bE.of_mem λhm=>by
   obtain⟨p,hp,e⟩:=bU.1 hm;have:=hS.lt p (List.mem_of_mem_eraseIdx hp);omega
  have h4:=h3.adopt gk mT (λhv=>by have:=hS.vlt _ hv;omega);exact h4.perm (YW H i _ tG).symm)
theorem OJ.dropF(hi:H[i]? =some (b,o))(ha:Fr G L b)(k:OJ C ops Q l E D G L (H.eraseIdx i)):OJ C ops Q l E D G L H:=λa W hN hD hF hS=>k a W hN hD hF (hS.dropAtF hi ha)
variable {ps:List (Nat×Operand)}
theorem O3{n e:Nat}{z:Value}{vs:List (Nat×Value)}(zs:List UInt8)(hB:vv C.P T e)(hz:vc C.P e z)(hw:np ops E g=some true)(hN:Nat.blt d C.N=true)(ha:Ij E ps=some vs)(Ov:Nat.ble (n*1) 16777216=true)(hs:vs=vh 0 (vs.map (·.2)))(hl:vs.length=n)(hm:Ou 1 (vs.map (·.2))=true)(Az:Ik (vs.map (·.2))=ub zs)(hn:n=zs.length)(k:∀(b:Nat),ab L b->bE H b->¬G.X b->cJ zs n []->OJ C ops Q l ((d,bB b zs.length n)::E) D G L ((b,bj e zs [])::H)):OJ C ops Q (⟨some d,.buildSlice T n ps.toArray,ty,pos,aB,g⟩::l) E D G L H:=
 pC z1 hw hN λa W hF hS=>⟨_,_,_,_,nUd hB.und hB.sz hz (Oq hF ps vs ha) Ov (Ot (by
  have:=Vz 1 (vs.map (·.2)) 0 [] ((Array.range (n*1)).map (λj=>((if n*1=0 then #[]else z.cells)[j%(if n*1=0 then #[]else z.cells).size]!))).toList hm z1 (by rw[nTg,fy,hl]);rw[<-hs,eg,eg]at this;exact this)),hS.alloc _,by
   have:=k W.heap.size hS.sizes hS.offNew hS.mNew ⟨by omega,by simp;omega⟩;rw[Az];simp only[bj,dN]at this;rw[<-hn]at this;exact this⟩
end
/-! ### values of the codec -/
inductive V where
 |int (n:Int)
 |text (s:ByteArray)
 |list (l:List V)
theorem V.ind{p:V->Prop}(h1:∀n,p (.int n))(h2:∀s,p (.text s))(h3:∀l,(∀y∈l,p y)->p (.list l)):∀x,p x:=by
 intro x;exact V.rec (motive_1:=p) (motive_2:=λl=>∀y∈l,p y) h1 h2 h3 z1 (λx l hx hl y hy=>by
  rcases cP.1 hy with rfl|hy
  ·exact hx
  exact hl y hy) x
def V.kind:V->Int
 | .int _=>1
 | .text _=>2
 | .list _=>3
def num (u:Nat):List UInt8:=if h:u<128 then[UInt8.ofNat u]else UInt8.ofNat (u%128+128)::num (u/128)
termination_by u
decreasing_by omega
variable {u:Nat}
theorem Ra(h:u<128):num u=[UInt8.ofNat u]:=by rw[num,dif_pos h]
theorem ZO(h:¬u<128):num u=UInt8.ofNat (u%128+128)::num (u/128):=by rw[num,dif_neg h]
theorem E1(u:Nat):0<(num u).length:=by
 by_cases h:u<128
 ·rw[Ra h];simp
 rw[ZO h];simp
theorem nRn:∀(k u:Nat),u<128^k->0<k->(num u).length<=k
 |0,_,_,h=>by omega
 |k+1,u,hu,_=>by
  by_cases h:u<128
  ·rw[Ra h];simp
  rw[ZO h];simp only[ec];cases k with
  |zero=>simp at hu;omega
  |succ k=>
   have h2:u/128<128^(k+1):=Nat.div_lt_of_lt_mul (by rw[Nat.pow_succ,ts]at hu;exact hu);have:=nRn (k+1) (u/128) h2 zM;omega
theorem DL(h:u<18446744073709551616):(num u).length<=10:=nRn 10 u (kQ h zQ) zM
def EY (n:Int):Nat:=if 0<=n then(2*n).toNat else(-2*n-1).toNat
mutual
def V.enc:V->List UInt8
 | .int n=>1::num (EY n)
 | .text s=>2::(num s.size++s.data.toList)
 | .list l=>3::(num l.length++V.encL l)
def V.encL:List V->List UInt8
 | []=>[]
 |x::l=>V.enc x++V.encL l
end
mutual
def V.depth:V->Nat
 | .int _=>0
 | .text _=>0
 | .list l=>V.depthL l+1
def V.depthL:List V->Nat
 | []=>0
 |x::l=>max (V.depth x) (V.depthL l)
end
theorem V.encL_take_le(l:List V):∀i,(V.encL (l.take i)).length<=(V.encL l).length:=by
 induction l with
 |nil=>intro i;simp[V.encL]
 |cons x l ih=>intro i;cases i with
  |zero=>simp[V.encL]
  |succ i=>simp only[Tj,V.encL,cC];have:=ih i;omega
theorem V.depthL_snoc(l:List V)(x:V):V.depthL (l++[x])=max (V.depthL l) x.depth:=by
 induction l with
 |nil=>simp[V.depthL]
 |cons y l ih=>simp only[fj,V.depthL,ih];omega
theorem V.depthL_take(l:List V)(i:Nat)(h:i<l.length):V.depthL (l.take (i+1))=max (V.depthL (l.take i)) (l[i]).depth:=by
 rw[IA h,V.depthL_snoc]
mutual
def V.fine:V->Prop
 | .int n=> -9223372036854775808<=n/\n<=9223372036854775807
 | .text s=>s.size<=1000000000
 | .list l=>l.length<=1000000000/\V.depthL l<=1000000000/\V.fineL l
def V.fineL:List V->Prop
 | []=>True
 |x::l=>V.fine x/\V.fineL l
end
theorem V.fineL_mem:∀{l:List V},V.fineL l->∀x∈l,x.fine
 | [],_,x,hx=>by cases hx
 |y::l,h,x,hx=>by
  simp only[V.fineL]at h;rcases cP.1 hx with rfl|hx
  ·exact h.1
  exact V.fineL_mem h.2 x hx
theorem V.depthL_mem:∀{l:List V} (x:V),x∈l->x.depth<=V.depthL l
 | [],x,hx=>by cases hx
 |y::l,x,hx=>by
  simp only[V.depthL];rcases cP.1 hx with rfl|hx
  ·omega
  have:=V.depthL_mem (l:=l) x hx;omega
abbrev vI (n:Int):Value:=.agg #[.int .i64 1,.int .i64 n,.string ⟨#[]⟩,.slice none 0 0]
abbrev vT (s:ByteArray):Value:=.agg #[.int .i64 2,.int .i64 0,.string s,.slice none 0 0]
abbrev vL (base:Option Addr) (n cap:Nat):Value:=.agg #[.int .i64 3,.int .i64 0,.string ⟨#[]⟩,.slice base n cap]
mutual
def ef (N:Nat) (w:World):V->Value->Prop
 | .int n,v=>v=vI n
 | .text s,v=>v=vT s
 | .list l,v=>∃base cap,v=vL base l.length cap/\l.length<=cap/\(l=[]\/∃b cs t fr,base=some ⟨b,0,none⟩/\b<N/\w.heap[b]? =some (.cells cs t fr)/\fb N w cs 0 l)
def fb (N:Nat) (w:World) (cs:Array Value):Nat->List V->Prop
 |_,[]=>True
 |off,x::l=>off+4<=cs.size/\ef N w x (.agg (cut cs off 4))/\fb N w cs (off+4) l
end
theorem fb.get{N:Nat}{w:World}{cs:Array Value}:∀{l:List V} {off:Nat},fb N w cs off l->∀(i:Nat) (h:i<l.length),off+4*i+4<=cs.size/\ef N w l[i] (.agg (cut cs (off+4*i) 4))
 | [],_,_,i,h=>by simp at h
 |x::l,off,hv,i,h=>by
  simp only[fb]at hv;cases i with
  |zero=>exact⟨by omega,hv.2.1⟩
  |succ i=>
   have:=fb.get hv.2.2 i rO;rw[show off+4*(i+1)=off+4+4*i by omega];simpa using this
variable {N N':Nat} {w':World}
theorem ef.up{w:World}(hN:N<=N')(hw:∀k,k<N->w'.heap[k]? =w.heap[k]?):∀(x:V) (v:Value),ef N w x v->ef N' w' x v:=by
 refine V.ind ?_ ?_ ?_
 ·intro n v h;simpa only[ef]using h
 ·intro s v h;simpa only[ef]using h
 intro l ih v h;simp only[ef]at h ⊢;obtain⟨base,cap,hv,hc,hl⟩:=h;refine⟨base,cap,hv,hc,?_⟩;rcases hl with hl|⟨b,cs,t,fr,hb,hlt,hcs,hs⟩
 ·exact .inl hl
 refine .inr ⟨b,cs,t,fr,hb,by omega,(hw b hlt).trans hcs,?_⟩;clear hb hlt hcs hc hv;generalize 0=off at *;induction l generalizing off with
 |nil=>simp only[fb]
 |cons x l ihl=>
  simp only[fb]at hs ⊢;exact⟨hs.1,ih x z1 _ hs.2.1,ihl (λy hy=>ih y (by simp[hy])) _ hs.2.2⟩
theorem ef.shape{w:World}:∀{x:V} {v:Value},ef N w x v->∃n s p m c,v= .agg #[.int .i64 x.kind,.int .i64 n,.string s,.slice p m c]
 | .int n,v,h=>by simp only[ef]at h;exact⟨_,_,_,_,_,h⟩
 | .text s,v,h=>by simp only[ef]at h;exact⟨_,_,_,_,_,h⟩
 | .list l,v,h=>by simp only[ef]at h;obtain⟨_,_,h,_⟩:=h;exact⟨_,_,_,_,_,h⟩
variable {G:Gh} {H:ad} {L:List World} {W:World}
theorem St.same{w:World}(h:St G L H W)(hw:w∈L)(hN:N<=w.heap.size)(hX:∀k,k<N->¬G.X k)(hH:Over N H):∀k,k<N->W.heap[k]? =w.heap[k]? :=λk hk=>
 (h.links w hw).block k zM (λhx=>by
  rcases hx with hx|hx
  ·exact hX k hk hx
  obtain⟨p,hp,rfl⟩:=bU.1 hx;have:=hH.mem p hp;omega)
section
variable {C:Cx} {Q:aF} {E:Env} {D:List Deferred} {G:Gh} {L:List World} {H:ad} {ops:Array Oper} {l:List Oper}
variable {d T U ty f:Nat} {pos:String} {aB:Array Edge} {g:Option (Nat×Bool)} {x y:Operand} {xs:List Operand} {vs:List Value} {dX:Array Nat}
theorem rY{s:ByteArray}{t:Nat}(hU:C.P.underlying t=some .string)(hx:ev E x=some (.string s)):RV C G L H E (.call ⟨.builtin .len,#[x],#[t]⟩) (.int .i64 (s.size:Int)):=λd ty pos aB g a W hF _=>by
 simp[execOp,hF.ev hx,resolve,invoke,Deferred.ofValue,builtin,Builtin.len_,run_underlying hU,goInt]
theorem uu{s t:ByteArray}(hx:ev E x=some (.string s))(hy:ev E y=some (.string t)):RV C G L H E (.binOp .eql T x y U) (.bool (s.toList==t.toList)):=λd ty pos aB g a W hF _=>by
 simp[execOp,eqGuard,binOp,Op.stringOp,hF.ev hx,hF.ev hy]
variable {K:IntKind}
theorem zk{m n:Int}{t1 t2:Nat}(hx:ev E x=some (.int K m))(hy:ev E y=some (.int K n)):RV C G L H E (.call ⟨.builtin .max,#[x,y],#[t1,t2]⟩) (.int K (max m n)):=λd ty pos aB g a W hF _=>by
 have:(if m<n then n else m)=max m n:=by omega
 simp[execOp,hF.ev hx,hF.ev hy,resolve,invoke,Deferred.ofValue,builtin,Builtin.max_,Builtin.max2,this]
end
/-! #### the steps of a chain -/
section
variable {C:Cx} {Q:aF} {E:Env} {D:List Deferred} {G:Gh} {L:List World} {H:ad} {id:Nat}
def Ex (C:Cx) (ops:Array Oper) (G:Gh) (E:Env) (sp:Sp) (ch:List Nat) (Ph:List Value->List World->ad->Prop):List Oper->Sp->Prop
 |o::l,(ds,some u)::ss=>(∀cv L' H',Oe ch ds cv.length=true->Ph cv L' H'->X C ops G L' H' (dA ops sp ch cv ds++E) (λ_=>True) o (λv _=>v=u))/\Ex C ops G E sp ch Ph l ss
 |_::l,(_,none)::ss=>Ex C ops G E sp ch Ph l ss
 |_,_=>True
theorem YY{ops:Array Oper}{sp:Sp}{ch:List Nat}{Ph:List Value->List World->ad->Prop}:∀(l:List Oper) (ss:Sp),Ex C ops G E sp ch Ph l ss->∀(i:Nat) (o:Oper) (ds:List Nat) (u:Value),l[i]? =some o->ss[i]? =some (ds,some u)->∀cv L' H',Oe ch ds cv.length=true->Ph cv L' H'->X C ops G L' H' (dA ops sp ch cv ds++E) (λ_=>True) o (λv _=>v=u)
 | [],_,_,i,o,ds,u,hl,_=>by simp at hl
 |_::_,[],_,i,o,ds,u,_,hs=>by simp at hs
 |o'::l,(tk,some u')::ss,h,i,o,ds,u,hl,hs=>by
  cases i with
  |zero=>simp at hl hs;obtain⟨rfl,rfl⟩:=hs;subst hl;exact h.1
  |succ i=>exact YY l ss h.2 i o ds u yq (by simpa using hs)
 |o'::l,(tk,none)::ss,h,i,o,ds,u,hl,hs=>by
  cases i with
  |zero=>simp at hs
  |succ i=>exact YY l ss h i o ds u yq (by simpa using hs)
variable {ops:Array Oper} {ch ds:List Nat}
theorem pc{sp:Sp}{Ph:List Value->List World->ad->Prop}{o:Oper}{l:List Oper}{u:Value}{ss:Sp}(h:∀cv L' H',Oe ch ds cv.length=true->Ph cv L' H'->X C ops G L' H' (dA ops sp ch cv ds++E) (λ_=>True) o (λv _=>v=u))(t:Ex C ops G E sp ch Ph l ss):Ex C ops G E sp ch Ph (o::l) ((ds,some u)::ss):=⟨h,t⟩
theorem pk{sp:Sp}{Ph:List Value->List World->ad->Prop}{o:Oper}{l:List Oper}{ss:Sp}(t:Ex C ops G E sp ch Ph l ss):Ex C ops G E sp ch Ph (o::l) ((ds,none)::ss):=t
theorem pn{sp:Sp}{Ph:List Value->List World->ad->Prop}{l:List Oper}:Ex C ops G E sp ch Ph l []:=by cases l<;>trivial
def Qo (C:Cx) (l:List Oper) (G:Gh) (E:Env) (D:List Deferred) (sp:Sp) (ch:List Nat) (Ph:List Value->List World->ad->Prop):Nat->List Nat->Prop
 |_,[]=>True
 |k,c::rest=>(∀(o:Oper) (ds:List Nat) (d:Nat),l[c]? =some o->sp[c]? =some (ds,none)->o.dst=some d->∀cv L' H',cv.length=k->Ph cv L' H'->∀(F:Env) (Q':aF),
  (∀v dK dL,Ph (cv++[v]) dK dL->PJ C Q' .normal ((d,v)::(dA l.toArray sp ch cv ds++(E++F))) D G dK dL)->OJ C l.toArray Q' [o] (dA l.toArray sp ch cv ds++(E++F)) D G L' H')/\Qo C l G E D sp ch Ph (k+1) rest
theorem nxi{l:List Oper}{sp:Sp}{ch:List Nat}{Ph:List Value->List World->ad->Prop}:∀(rest:List Nat) (n:Nat),Qo C l G E D sp ch Ph n rest->∀(k c:Nat) (o:Oper) (ds:List Nat) (d:Nat),rest[k]? =some c->l[c]? =some o->sp[c]? =some (ds,none)->o.dst=some d->∀cv L' H',cv.length=n+k->Ph cv L' H'->∀(F:Env) (Q':aF),(∀v dK dL,Ph (cv++[v]) dK dL->PJ C Q' .normal ((d,v)::(dA l.toArray sp ch cv ds++(E++F))) D G dK dL)->OJ C l.toArray Q' [o] (dA l.toArray sp ch cv ds++(E++F)) D G L' H'
 | [],_,_,k,c,_,_,_,h,_,_,_=>by simp at h
 |c'::rest,n,h,k,c,o,ds,d,hk,hl,hs,hd=>by
  cases k with
  |zero=>simp at hk;subst hk;exact λcv L' H' hlen=>h.1 o ds d hl hs hd cv L' H' (by simpa using hlen)
  |succ k=>exact λcv L' H' hlen=>nxi rest (n+1) h.2 k c o ds d Of hl hs hd cv L' H' zM
variable {rest:List Nat} {k:Nat}
theorem sc{l:List Oper}{sp:Sp}{Ph:List Value->List World->ad->Prop}{c:Nat}{o:Oper}{d:Nat}(h1:l[c]? =some o)(h2:sp[c]? =some (ds,none))(h3:o.dst=some d)(h:∀cv L' H',cv.length=k->Ph cv L' H'->∀(F:Env) (Q':aF),(∀v dK dL,Ph (cv++[v]) dK dL->PJ C Q' .normal ((d,v)::(dA l.toArray sp ch cv ds++(E++F))) D G dK dL)->OJ C l.toArray Q' [o] (dA l.toArray sp ch cv ds++(E++F)) D G L' H')(t:Qo C l G E D sp ch Ph (k+1) rest):Qo C l G E D sp ch Ph k (c::rest):=
 ⟨λo' tk d' e1 e2 e3=>by
  rw[h1]at e1;cases e1;rw[h2]at e2;cases e2;rw[h3]at e3;cases e3;exact h,t⟩
theorem sn{l:List Oper}{sp:Sp}{Ph:List Value->List World->ad->Prop}:Qo C l G E D sp ch Ph k []:=trivial
theorem nK{l:List Oper}(nA:Nat)(ch:List Nat)(sp:Sp)(Ph:List Value->List World->ad->Prop)(hm:C.P.follows .mixedOrders=true)(h0:Ph [] L H)(jk:H7 l.toArray nA (sp.map (·.1)) E=true)(hN:yF C.N l=true)(kU:Kg l ch=true)(hnd:Dc ch=true)(rN:qb ch 0 sp=true)(fq:ch.all (λc=>Nat.blt c nA)=true)(pure:Ex C l.toArray G E sp ch Ph l sp)(step:Qo C l G E D sp ch Ph 0 ch)(fin:∀cv L' H',cv.length=ch.length->Ph cv L' H'->OJ C l.toArray Q (l.drop nA) (dA l.toArray sp ch cv (List.range nA)++E) D G L' H'):CJ C (.region id l.toArray true) Q E D G L H:=
 nJl nA ch sp Ph hm h0 jk hN kU hnd rN fq (YY l sp pure) (λk c o ds d hk hl hs hd cv L' H' hlen=>nxi ch 0 step k c o ds d hk hl hs hd cv L' H' zM) fin
end
theorem di{α:Type}{l:List α}(h:l.length=1):∃a,l=[a]:=by
 match l,h with
 | [a],_=>exact⟨a,rfl⟩
theorem ju{α:Type}{l:List α}(h:l.length=2):∃a b,l=[a,b]:=by
 match l,h with
 | [a,b],_=>exact⟨a,b,rfl⟩
theorem gp{α:Type}{l:List α}(h:l.length=3):∃a b c,l=[a,b,c]:=by
 match l,h with
 | [a,b,c],_=>exact⟨a,b,c,rfl⟩
theorem qz{α:Type}{l:List α}(h:l.length=4):∃a b c d,l=[a,b,c,d]:=by
 match l,h with
 | [a,b,c,d],_=>exact⟨a,b,c,d,rfl⟩
theorem iB{α:Type}{l:List α}(h:l.length=5):∃a b c d e,l=[a,b,c,d,e]:=by
 match l,h with
 | [a,b,c,d,e],_=>exact⟨a,b,c,d,e,rfl⟩
section
variable {C:Cx} {Q:aF} {E:Env} {D:List Deferred} {G:Gh} {L:List World} {H:ad} {ops:Array Oper} {l:List Oper}
variable {d T ty f:Nat} {pos:String} {aB:Array Edge} {g:Option (Nat×Bool)} {x y:Operand} {xs:List Operand} {vs:List Value} {dX:Array Nat}
variable {ys:List UInt8}
theorem KQ{e:Nat}{first cap:List Value}(hx:ev E x=some (.func (.func f) first.toArray cap.toArray))(ax:dU C.P f)(hw:np ops E g=some true)(hN:Nat.blt d C.N=true)(ha:il E xs=some vs)(hc:∀W,St G L H W->Calls C.P f (first++vs++cap).toArray W (Z3 W e ys))(k:∀b' aU bK,ab L b'->bE H b'->¬G.X b'->cJ ys aU bK->OJ C ops Q l ((d,bB b' ys.length aU)::E) D G L ((b',bj e ys bK)::H)):OJ C ops Q (⟨some d,.call ⟨.value x,xs.toArray,dX⟩,ty,pos,aB,g⟩::l) E D G L H:=
 nY rfl hw hx ha z1 ax λa W ik hD hF hS=>(hc W hS).mono (by
  rintro ed W' ⟨b',aU,bK,rfl,hb,jF,hr,gk⟩;exact k b' aU bK (Kl hS jF) (Du hS jF) (λhx=>by have:=hS.xlt _ hx;omega) hr (a.put (some d) (bB b' ys.length aU)) W' kW ke (hF.put _ lO)
   ((hS.step hb).adopt gk (Du hS jF) (λhv=>by have:=hS.vlt _ hv;omega)))
def Z4 (w:World) (e:Nat) (ys:List UInt8):Ending->World->Prop:=λed w'=>
 ∃b' aU bK,ed= .returned (.tuple #[bB b' ys.length aU,.int .i64 0])/\Below w.heap.size w w'/\w.heap.size<=b'/\cJ ys aU bK/\w'.heap[b']? =some (bj e ys bK)
variable {ex:Exit} {bK:List Value} {i:Nat}
theorem KR{fn:Func}{t b' e aU:Nat}{w:World}(he:ex= .ret\/ex= .normal)(hr:fn.results=#[.tmp t,.tmp u])(hv:look E t=some (bB b' ys.length aU))(hu:look E u=some (.int .i64 0))(hi:H[i]? =some (b',bj e ys bK))(hw:w∈L)(ho:Over w.heap.size H)(hk:cJ ys aU bK):PJ C (bodyPost C.P fn (Z4 w e ys)) ex E [] Gh.no L H:=
 bJ he (rs:=[.tmp t,.tmp u]) hr (RS.t hv (RS.t hu RS.n)) λW hS=>⟨b',aU,bK,rfl,hS.base hw ho,ho.mem _ (cB hi),hk,hS.own _ (cB hi)⟩
theorem nGj{e:Nat}(ax:dU C.P f)(hw:np ops E g=some true)(hN:Nat.blt d C.N=true)(ha:il E xs=some vs)(hc:∀W,St G L H W->Calls C.P f vs.toArray W (Z4 W e ys))(k:∀b' aU bK,ab L b'->bE H b'->¬G.X b'->cJ ys aU bK->OJ C ops Q l ((d,.tuple #[bB b' ys.length aU,.int .i64 0])::E) D G L ((b',bj e ys bK)::H)):OJ C ops Q (⟨some d,.call ⟨.value (.func f),xs.toArray,dX⟩,ty,pos,aB,g⟩::l) E D G L H:=
 nY rfl hw rfl ha z1 ax λa W ik hD hF hS=>(hc W hS).mono (by
  rintro ed W' ⟨b',aU,bK,rfl,hb,jF,hr,gk⟩;exact k b' aU bK (Kl hS jF) (Du hS jF) (λhx=>by have:=hS.xlt _ hx;omega) hr (a.put (some d) _) W' kW ke (hF.put _ lO)
   ((hS.step hb).adopt gk (Du hS jF) (λhv=>by have:=hS.vlt _ hv;omega)))
variable {v:Value}
theorem Rt{first cap:List Value}(hx:ev E x=some (.func (.func f) first.toArray cap.toArray))(ax:dU C.P f)(hw:np ops E g=some true)(hN:Nat.blt d C.N=true)(ha:il E xs=some vs)(hc:∀W,St G L H W->Calls C.P f (first++vs++cap).toArray W (av W v))(k:OJ C ops Q l ((d,v)::E) D G L H):OJ C ops Q (⟨some d,.call ⟨.value x,xs.toArray,dX⟩,ty,pos,aB,g⟩::l) E D G L H:=
 nY rfl hw hx ha z1 ax λa W ik hD hF hS=>(hc W hS).mono (by
  rintro e W' ⟨rfl,hb⟩;exact k (a.put (some d) v) W' kW ke (hF.put _ lO) (hS.step hb))
theorem nNn{Pre:World->Prop}{Φ:Value->World->Prop}{first cap:List Value}(hx:ev E x=some (.func (.func f) first.toArray cap.toArray))(ax:dU C.P f)(hw:np ops E g=some true)(ha:il E xs=some vs)(hc:∀W,St G L H W->Pre W->Calls C.P f (first++vs++cap).toArray W (av W v))(hΦ:∀W,Φ v W):X C ops G L H E Pre ⟨some d,.call ⟨.value x,xs.toArray,dX⟩,ty,pos,aB,g⟩ Φ:=by
 intro a W K Q ik hF hS hP hk;rw[if_pos (tO hF hw)];refine⟨λ_ _=>trivial,?_⟩;have hr:(execOp a.eval ⟨some d,.call ⟨.value x,xs.toArray,dX⟩,ty,pos,aB,g⟩).run C.P W= .ok (.enter f (first++vs++cap).toArray) W:=by
  have h2:(xs.toArray).map a.eval=vs.toArray:=by rw[yD,H3 hF xs vs ha]
  simp only[execOp,resolve,hF.ev hx,Deferred.ofValue,h2];simp[invoke,ax _ W]
 rw[Oper.semAt_eq _ _ _ z1,hr,Oper.uponIn_enter];refine⟨by simp,C4.2 ((hc W hS hP).mono ?_)⟩;rintro e W' ⟨rfl,hb⟩;exact hk v W' hb (hΦ W')
end
section
variable {C:Cx} {Q:aF} {E:Env} {D:List Deferred} {G:Gh} {L:List World} {H:ad} {id:Nat}
def Ey (C:Cx) (ops:Array Oper) (G:Gh) (E:Env) (sp:Sp) (ch:List Nat) (Ph:List (Option Value)->List World->ad->Prop):List Oper->Sp->Prop
 |o::l,(ds,some u)::ss=>(∀cv L' H',cv.length=ch.length->H9 ch ds cv=true->Ph cv L' H'->X C ops G L' H' (bP ops sp ch cv ds++E) (λ_=>True) o (λv _=>v=u))/\Ey C ops G E sp ch Ph l ss
 |_::l,(_,none)::ss=>Ey C ops G E sp ch Ph l ss
 |_,_=>True
theorem YZ{ops:Array Oper}{sp:Sp}{ch:List Nat}{Ph:List (Option Value)->List World->ad->Prop}:∀(l:List Oper) (ss:Sp),Ey C ops G E sp ch Ph l ss->∀(i:Nat) (o:Oper) (ds:List Nat) (u:Value),l[i]? =some o->ss[i]? =some (ds,some u)->∀cv L' H',cv.length=ch.length->H9 ch ds cv=true->Ph cv L' H'->X C ops G L' H' (bP ops sp ch cv ds++E) (λ_=>True) o (λv _=>v=u)
 | [],_,_,i,o,ds,u,hl,_=>by simp at hl
 |_::_,[],_,i,o,ds,u,_,hs=>by simp at hs
 |o'::l,(tk,some u')::ss,h,i,o,ds,u,hl,hs=>by
  cases i with
  |zero=>simp at hl hs;obtain⟨rfl,rfl⟩:=hs;subst hl;exact h.1
  |succ i=>exact YZ l ss h.2 i o ds u yq (by simpa using hs)
 |o'::l,(tk,none)::ss,h,i,o,ds,u,hl,hs=>by
  cases i with
  |zero=>simp at hs
  |succ i=>exact YZ l ss h i o ds u yq (by simpa using hs)
variable {ops:Array Oper} {Ph:List (Option Value)->List World->ad->Prop} {ch ds:List Nat}
theorem qc{sp:Sp}{o:Oper}{l:List Oper}{u:Value}{ss:Sp}(h:∀cv L' H',cv.length=ch.length->H9 ch ds cv=true->Ph cv L' H'->X C ops G L' H' (bP ops sp ch cv ds++E) (λ_=>True) o (λv _=>v=u))(t:Ey C ops G E sp ch Ph l ss):Ey C ops G E sp ch Ph (o::l) ((ds,some u)::ss):=⟨h,t⟩
theorem qk{sp:Sp}{o:Oper}{l:List Oper}{ss:Sp}(t:Ey C ops G E sp ch Ph l ss):Ey C ops G E sp ch Ph (o::l) ((ds,none)::ss):=t
theorem qn{sp:Sp}{l:List Oper}:Ey C ops G E sp ch Ph l []:=by cases l<;>trivial
def Qp (C:Cx) (l:List Oper) (G:Gh) (E:Env) (D:List Deferred) (sp:Sp) (ch:List Nat) (eE:List (List Nat)) (Ph:List (Option Value)->List World->ad->Prop):Nat->List Nat->Prop
 |_,[]=>True
 |k,c::rest=>(∀(rq:List Nat) (o:Oper) (ds:List Nat) (d:Nat),eE[k]? =some rq->l[c]? =some o->sp[c]? =some (ds,none)->o.dst=some d->∀cv L' H',cv.length=ch.length->xL rq k cv=true->Ph cv L' H'->∀(F:Env) (Q':aF),
  (∀v dK dL,Ph (cv.set k (some v)) dK dL->PJ C Q' .normal ((d,v)::(bP l.toArray sp ch cv ds++(E++F))) D G dK dL)->OJ C l.toArray Q' [o] (bP l.toArray sp ch cv ds++(E++F)) D G L' H')/\Qp C l G E D sp ch eE Ph (k+1) rest
theorem nKh{l:List Oper}{sp:Sp}{ch:List Nat}{eE:List (List Nat)}{Ph:List (Option Value)->List World->ad->Prop}:∀(rest:List Nat) (n:Nat),Qp C l G E D sp ch eE Ph n rest->∀(k c:Nat) (rq:List Nat) (o:Oper) (ds:List Nat) (d:Nat),rest[k]? =some c->eE[n+k]? =some rq->l[c]? =some o->sp[c]? =some (ds,none)->o.dst=some d->∀cv L' H',cv.length=ch.length->xL rq (n+k) cv=true->Ph cv L' H'->∀(F:Env) (Q':aF),(∀v dK dL,Ph (cv.set (n+k) (some v)) dK dL->PJ C Q' .normal ((d,v)::(bP l.toArray sp ch cv ds++(E++F))) D G dK dL)->OJ C l.toArray Q' [o] (bP l.toArray sp ch cv ds++(E++F)) D G L' H'
 | [],_,_,k,c,_,_,_,_,h,_,_,_,_=>by simp at h
 |c'::rest,n,h,k,c,rq,o,ds,d,hk,hr,hl,hs,hd=>by
  cases k with
  |zero=>simp at hk;subst hk;exact h.1 rq o ds d hr hl hs hd
  |succ k=>
   rw[show n+(k+1)=n+1+k by omega]at hr ⊢;exact nKh rest (n+1) h.2 k c rq o ds d Of hr hl hs hd
variable {eE:List (List Nat)} {rest:List Nat} {k:Nat}
theorem nc{l:List Oper}{sp:Sp}{c:Nat}{rq:List Nat}{o:Oper}{d:Nat}(h0:eE[k]? =some rq)(h1:l[c]? =some o)(h2:sp[c]? =some (ds,none))(h3:o.dst=some d)(h:∀cv L' H',cv.length=ch.length->xL rq k cv=true->Ph cv L' H'->∀(F:Env) (Q':aF),(∀v dK dL,Ph (cv.set k (some v)) dK dL->PJ C Q' .normal ((d,v)::(bP l.toArray sp ch cv ds++(E++F))) D G dK dL)->OJ C l.toArray Q' [o] (bP l.toArray sp ch cv ds++(E++F)) D G L' H')(t:Qp C l G E D sp ch eE Ph (k+1) rest):Qp C l G E D sp ch eE Ph k (c::rest):=
 ⟨λrq' o' tk d' e0 e1 e2 e3=>by
  rw[h0]at e0;cases e0;rw[h1]at e1;cases e1;rw[h2]at e2;cases e2;rw[h3]at e3;cases e3;exact h,t⟩
theorem nn{l:List Oper}{sp:Sp}:Qp C l G E D sp ch eE Ph k []:=trivial
theorem Pg{l:List Oper}(nA:Nat)(ch:List Nat)(sp:Sp)(eE:List (List Nat))(Ph:List (Option Value)->List World->ad->Prop)(hm:C.P.follows .mixedOrders=true)(h0:Ph (ch.map λ_=>none) L H)(jk:H7 l.toArray nA (sp.map (·.1)) E=true)(hN:yF C.N l=true)(kU:rj l ch 0 eE=true)(hnd:Dc ch=true)(rN:qb ch 0 sp=true)(fq:ch.all (λc=>Nat.blt c nA)=true)(Ql:eE.length=ch.length)(pure:Ey C l.toArray G E sp ch Ph l sp)(step:Qp C l G E D sp ch eE Ph 0 ch)(fin:∀cv L' H',cv.length=ch.length->cv.all (λx=>x.isSome)=true->Ph cv L' H'->OJ C l.toArray Q (l.drop nA) (bP l.toArray sp ch cv (List.range nA)++E) D G L' H'):CJ C (.region id l.toArray true) Q E D G L H:=
 CJ.net nA ch sp eE Ph hm h0 jk hN kU hnd rN fq (YZ l sp pure) (λk c rq o ds d hk hr hl hs hd cv L' H' hlen sZ=>by
  have:=nKh ch 0 step k c rq o ds d hk (by rw[jg];exact hr) hl hs hd cv L' H' hlen;rw[jg]at this;exact this sZ) Ql fin
variable {e:Exit}
theorem PJ.swp{p q:Nat×Obj}(k:PJ C Q e E D G L (p::q::H)):PJ C Q e E D G L (q::p::H):=λa W hN hD hF hS=>k a W hN hD hF (hS.perm (List.Perm.swap p q H))
end
/-! ### deferred calls, and recover -/
def xQ (cs:List Frame):Value×List Frame:=match recoverD cs with|some p=>p|none=>(.nilIface,cs)
theorem nTm(cs:List Frame):(xQ cs).2.length=cs.length:=by
 unfold xQ;split
 ·rename_i p h;obtain⟨v,eu⟩:=p;exact recoverD_length h
 rfl
variable {ops:Array Oper} {rest:List Nat}
theorem nEo{F:Fence}{n:Nat}{P:Program}{Q:Exit->Act->List Frame->World->Prop}{a:Act}{cs:List Frame}{w:World}{id:Nat}{o:Oper}(O8:F.round=none)(hrg:List.range ops.size=0::rest)(ho:ops[0]? =some o)(hw:Region.wanted o (yielded ops a.tmps)=true)(sP:∀f,o.about P w a.eval=some f->F.fn f)(hr:(execOp a.eval o).run P w= .ok .recover w')(h:wpOpsIn F n P ops (λe a' w'=>Q e a' (xQ cs).2 w') rest (a.put o.dst (xQ cs).1) w'):(Code.region id ops false).wpSIn F n P Q a cs w:=by
 intro b k hb HG hF jf;have h0:(lone (b.atR a (.inRegion ops (0::rest)::k)) cs w).fenced P F:=fenced_oper hF jf ho sP;have hg:=stepGR_op (P:=P) (b:=b) (k:=k) (cs:=cs) (w:=w) (rest:=rest) ho hw;rw[HG,Oper.semAt_none]at hg;have bV:∀v,(b.atR a (.inRegion ops (0::rest)::k)).finish v=b.atR (a.put o.dst v) (.inRegion ops rest::k):=by
  intro v;rw[Frame.finish_atR,ho];rfl
 have hk:(b.atR a (.inRegion ops (0::rest)::k)).kind= .deferred:=hb;have eX:=tryRecover_deferred hk cs;have hlen:=nTm cs;obtain⟨e,a',w'',hq,age⟩:=wp_opsIn rest (a.put o.dst (xQ cs).1) w' h b k (xQ cs).2 (HG.trans O8.symm) hF (by rw[hlen];exact jf);refine⟨e,a',(xQ cs).2,w'',hlen,hq,?_⟩;have VC:=stepR_region (P:=P) (b:=b) (a:=a) (id:=id) (ops:=ops) (k:=k) (cs:=cs) (w:=w);rw[hrg]at VC;refine .of_steps (.head (fenced_calm hF jf rfl) VC (.one h0 (step_lone_go ?_))) age;rw[hg,<-bV];unfold xQ;cases ft:recoverD cs with
 |none=>
  simp only[Frame.atR,HG]at eX ⊢;simp[stepG.apply,hr,eX,ft]
 |some p=>
  obtain⟨v,eu⟩:=p;simp only[Frame.atR,HG]at eX ⊢;simp[stepG.apply,hr,eX,ft]
variable {aB:Array Edge} {dX:Array Nat} {R:Ending->World->Prop} {vs:List Value} {f ty:Nat} {pos:String}
theorem nAj{P:Program}{fn:Func}{l:List Oper}{id d:Nat}{w:World}(u u':FrameMode)(rv:Value)(hu:∀(c₀:Frame) (cs:List Frame),c₀.mode=u->xQ (c₀::cs)=(rv,{c₀ with mode:=u'}::cs))(hf:P.funcs[f]? =some fn)(hb:fn.body=some (.region id ((⟨some d,.call ⟨.builtin .recover,#[],dX⟩,ty,pos,aB,none⟩:Oper)::l).toArray false))(hN:fn.ntmps=N)(hl:Nat.ble vs.length N=true)(hd:Nat.blt d N=true)(hS:St G [w] H w)(h:OJ ⟨P,none,N⟩ ((⟨some d,.call ⟨.builtin .recover,#[],dX⟩,ty,pos,aB,none⟩:Oper)::l).toArray (bodyPost P fn R) l ((d,rv)::yE 0 vs) [] G [w] H):CallsDIn (FW none) 0 P f vs.toArray u w (λe u'' w'=>u''=u'/\R e w'):=by
 refine callsDIn_of_wpSIn hf hb trivial λc₀ cs hc=>?_;have jF:vs.toArray.size=vs.length:=by simp
 have ik:(vs.toArray++Array.replicate (fn.ntmps-vs.toArray.size) undef).size=N:=by
  exact U7
 have hF:Fits (yE 0 vs) ⟨vs.toArray++Array.replicate (fn.ntmps-vs.toArray.size) undef,[]⟩:=U5 vs _;have iM:=hu c₀ cs hc;refine nEo (w':=w) (rest:=List.range' 1 l.length) rfl ?_ rfl ?_ (λ_ _=>trivial) ?_ ?_
 ·simp[List.range_eq_range',List.range'_succ]
 ·simp[Region.wanted]
 ·simp[execOp,resolve,invoke,builtin,Deferred.ofValue]
 rw[iM,wpOpsIn_eq_wpListIn l 1 (λj=>by simp[Nat.add_comm])];have Cg:=h ((⟨vs.toArray++Array.replicate (fn.ntmps-vs.toArray.size) undef,[]⟩:Act).put (some d) rv) w (by simp only[Act.put];simpa using ik) rfl (hF.put rv (by rw[ik];exact nW hd)) hS;have mono:∀(l':List Oper) (a:Act) (W:World),wpListIn (FW none) 0 P ((⟨some d,.call ⟨.builtin .recover,#[],dX⟩,ty,pos,aB,none⟩:Oper)::l).toArray (bodyPost P fn R) l' a W->
  wpListIn (FW none) 0 P ((⟨some d,.call ⟨.builtin .recover,#[],dX⟩,ty,pos,aB,none⟩:Oper)::l).toArray (λe a' w'=>bodyPostS P fn c₀ cs (λe u'' w'=>u''=u'/\R e w') e a' ({c₀ with mode:=u'}::cs) w') l' a W:=by
  intro l';induction l' with
  |nil=>
   intro a W hq;obtain⟨h1,v,h2,h3⟩:=hq;exact⟨h1,u',rfl,v,h2,rfl,h3⟩
  |cons o l' ih=>
   intro a W hq;unfold wpListIn at hq ⊢;split
   ·rename_i hwt;rw[if_pos hwt]at hq;refine nNf (λa' W' hk=>ih a' W' hk) (λc a' W' hk=>?_) (λhk=>?_) hq
    ·obtain⟨h1,h2⟩:=hk;exact⟨h1,u',rfl,rfl,h2⟩
    obtain⟨a0,w0,hk⟩:=hk;exact⟨a0,w0,u',rfl,hk⟩
   rename_i hwt;rw[if_neg hwt]at hq;exact⟨hq.1,ih _ _ hq.2⟩
 exact mono l _ _ Cg
theorem nEg(c₀:Frame)(cs:List Frame)(h:c₀.mode= .returning):xQ (c₀::cs)=(.nilIface,{c₀ with mode:=.returning}::cs):=by
 simp only[xQ,recoverD,h];rw[<-h]
theorem ntl{P:Program}{fn:Func}{c:Code}{w:World}(G:Gh)(H:ad)(hf:P.funcs[f]? =some fn)(hb:fn.body=some c)(hN:fn.ntmps=N)(hl:Nat.ble vs.length N=true)(hS:St G [w] H w)(h:CJ ⟨P,none,N⟩ c (bodyPostDIn (FW none) 0 P fn R) (yE 0 vs) [] G [w] H):Calls P f vs.toArray w R:=by
 rw[<-C4 (r:=none) (n:=0)];refine callsIn_of_wp_defers hf hb trivial (h _ w ?_ rfl ?_ hS)
 ·exact U7
 exact U5 vs _
section
variable {P:Program} {N:Nat} {Q:aF} {E:Env} {D:List Deferred} {G:Gh} {L:List World} {H:ad} {ops:Array Oper} {l:List Oper}
variable {ty f:Nat} {pos:String} {aB:Array Edge} {g:Option (Nat×Bool)} {x:Operand}
theorem OJ.defer{cap:List Value}(hw:np ops E g=some true)(hx:ev E x=some (.func (.func f) #[] cap.toArray))(k:OJ ⟨P,none,N⟩ ops Q l E ({target:=.fn (.func f) cap.toArray,args:=#[]}::D) G L H):OJ ⟨P,none,N⟩ ops Q (⟨none,.defer ⟨.value x,#[],dX⟩,ty,pos,aB,g⟩::l) E D G L H:=by
 intro a W ik hD hF hS;unfold wpListIn;rw[if_pos (tO hF hw)];refine⟨λ_ _=>trivial,?_⟩;have hr:(execOp a.eval ⟨none,.defer ⟨.value x,#[],dX⟩,ty,pos,aB,g⟩).run P W= .ok (.defer {target:=.fn (.func f) cap.toArray,args:=#[]}) W:=by
  simp[execOp,resolve,hF.ev hx,Deferred.ofValue]
 dsimp only;rw[Oper.semAt_none,hr,Oper.uponIn_defer];exact k _ W ik ke (λt v hv=>hF t v hv) hS
variable {ex:Exit} {rs:List ResultVar}
theorem Rv{fn:Func}{cap:List Value}(he:ex= .ret\/ex= .normal)(ax:dU P f)(hc:∀W,St G L H W->CallsDIn (FW none) 0 P f cap.toArray .returning W (λe u' w'=>u'= .returning/\(∃v,e= .returned v)/\Below W.heap.size W w'))(hr:fn.results=rs.toArray)(h:RS ⟨P,none,N⟩ G L H E rs vs)(hR:∀W,St G L H W->R (.returned (Et vs)) W):PJ ⟨P,none,N⟩ (bodyPostDIn (FW none) 0 P fn R) ex E [{target:=.fn (.func f) cap.toArray,args:=#[]}] G L H:=by
 intro a W ik hD hF hS;have key:LeavesIn (FW none) 0 P fn a.tmps R a.defers .returning W:=by
  rw[hD];refine zVh ?_;refine(hc W hS).mono ?_;rintro e u' w' ⟨rfl,⟨v,rfl⟩,hb⟩;exact⟨_,h.res hr hF (hS.step hb),hR w' (hS.step hb)⟩
 exact Qh
end
/-! ### several blocks that are lent -/
def keys (H:ad):List Nat:=H.map (·.1)
def qe (G:Gh) (L:List World):ad->Prop
 | []=>True
 |p::H=>Fr G L p.1/\qe G L H
theorem qe.mem{G:Gh}{L:List World}:∀{H:ad},qe G L H->∀p∈H,Fr G L p.1
 | [],_,p,hp=>by cases hp
 |q::H,h,p,hp=>by
  rcases cP.1 hp with rfl|hp
  ·exact h.1
  exact qe.mem h.2 p hp
variable {H0:ad} {W':World}
theorem St.swapZ{Hz Hn:ad}(h:St G L (Hz++H0) W)(hk:aG (λk=>k∈keys Hz) W W')(rE:qe G L Hz)(hn:∀p∈Hn,W'.heap[p.1]? =some p.2/\(p.1∈keys Hz\/W.heap.size<=p.1))(hd:rf Hn):St G L (Hn++H0) W':=by
 have hnd:=(xK (Hz++H0)).1 h.nodup;rw[ga,List.nodup_append]at hnd;obtain⟨fW,dY,dr⟩:=hnd;have Dv:∀p∈H0,p.1∉keys Hz:=λp hp hm=>dr p.1 hm p.1 (bU.2 ⟨p,hp,rfl⟩) rfl;have hH0:∀p∈H0,W'.heap[p.1]? =some p.2:=λp hp=>by
  rw[hk.block p.1 (h.lt p (by simp[hp])) (Dv p hp)];exact h.own p (by simp[hp])
 refine⟨?_,λk hv=>kQ (h.vlt k hv) hk.size,λk hv=>kQ (h.xlt k hv) hk.size,λw hw=>?_,λp hp=>?_,?_,λp hp=>?_⟩
 ·refine G.stab W W' h.ghost hk.os hk.tape hk.output hk.size (λk hv=>hk.block k (h.vlt k hv) λhm=>?_);obtain⟨p,hp,rfl⟩:=bU.1 hm;exact h.apart p (by simp[hp]) hv
 ·have hl:=h.links w hw;refine⟨hk.os.trans hl.os,hk.tape.trans hl.tape,hk.output.trans hl.output,aS hl.size hk.size,λk hkw hx=>?_⟩;simp only[ga,cS,not_or]at hx;have hnz:k∉keys Hz:=λhm=>by
   obtain⟨p,hp,rfl⟩:=bU.1 hm;rcases rE.mem p hp with hf|hf
   ·exact hx.1 hf
   have:=hf.mem w hw;omega
  rw[hk.block k (kQ hkw hl.size) hnz];refine hl.block k hkw λhy=>?_;simp only[ga,cS]at hy;rcases hy with hy|hy|hy
  ·exact hx.1 hy
  ·exact hnz hy
  exact hx.2.2 hy
 ·rcases cS.1 hp with hp|hp
  ·exact(hn p hp).1
  exact hH0 p hp
 ·rw[xK,ga,List.nodup_append];refine⟨(xK Hn).1 hd,dY,λa ha b hb e=>?_⟩;subst e;obtain⟨p,hp,rfl⟩:=bU.1 ha;obtain⟨q,hq,e⟩:=bU.1 hb;rcases(hn p hp).2 with h1|h1
  ·exact Dv q hq (e▸h1)
  have:=h.lt q (by simp[hq]);omega
 rcases cS.1 hp with hp|hp
 ·intro hv;rcases(hn p hp).2 with h1|h1
  ·obtain⟨q,hq,e⟩:=bU.1 h1;exact h.apart q (by simp[hq]) (e▸hv)
  have:=h.vlt _ hv;omega
 exact h.apart p (by simp[hp])
def sd {α:Type} (w:World) (Z:List Nat) (v:α->Value) (Hn:α->ad) (Φ:α->Prop):Ending->World->Prop:=λe w'=>
 ∃x,e= .returned (v x)/\aG (λk=>k∈Z) w w'/\Φ x/\(∀p∈Hn x,w'.heap[p.1]? =some p.2/\(p.1∈Z\/w.heap.size<=p.1))/\rf (Hn x)
theorem Rx{w:World}{Hz:ad}(h:∀p∈Hz,w.heap[p.1]? =some p.2)(hd:rf Hz):St (Gh.lent (λk=>k∈keys Hz)) [w] Hz w where
 ghost:=trivial
 vlt:=λ_ h=>h.elim
 xlt:=λk hk=>by
  obtain⟨p,hp,rfl⟩:=bU.1 (show k∈keys Hz from hk);exact(aL.1 (h p hp)).1
 links:=λw' hw=>by simp at hw;subst hw;exact aG.refl _ _
 own:=h
 nodup:=hd
 apart:=λ_ _ h=>h.elim
def gS (w:World):ad->Prop
 | []=>True
 |p::H=>w.heap[p.1]? =some p.2/\gS w H
theorem gS.mem{w:World}:∀{H:ad},gS w H->∀p∈H,w.heap[p.1]? =some p.2
 | [],_,p,hp=>by cases hp
 |q::H,h,p,hp=>by
  rcases cP.1 hp with rfl|hp
  ·exact h.1
  exact gS.mem h.2 p hp
theorem Ry(p:Nat×Obj):rf [p]:=by rw[xK];simp
theorem RF{p q:Nat×Obj}(h:p.1≠q.1):rf [p,q]:=by rw[xK];simp[h]
def qf (Z:List Nat) (n:Nat):ad->Prop
 | []=>True
 |p::H=>(p.1∈Z\/n<=p.1)/\qf Z n H
theorem qf.mem{Z:List Nat}{n:Nat}:∀{H:ad},qf Z n H->∀p∈H,p.1∈Z\/n<=p.1
 | [],_,p,hp=>by cases hp
 |q::H,h,p,hp=>by
  rcases cP.1 hp with rfl|hp
  ·exact h.1
  exact qf.mem h.2 p hp
section
variable {C:Cx} {Q:aF} {E:Env} {D:List Deferred} {G:Gh} {L:List World} {H:ad} {ops:Array Oper} {l:List Oper}
variable {d T ty f:Nat} {pos:String} {aB:Array Edge} {g:Option (Nat×Bool)} {x:Operand} {xs:List Operand} {vs:List Value} {dX:Array Nat} {fn:Func}
variable {ex:Exit} {rs:List ResultVar} {us:List Value}
theorem zz{α:Type}{v:α->Value}{Hn:α->ad}{Φ:α->Prop}{Hz:ad}{w:World}(z:α)(he:ex= .ret\/ex= .normal)(hr:fn.results=rs.toArray)(h:RS C (Gh.lent (λk=>k∈keys Hz)) L (Hn z++H0) E rs us)(hw:w∈L)(ho:qf (keys Hz) w.heap.size (Hn z++H0))(hv:Et us=v z)(hΦ:Φ z):PJ C (bodyPost C.P fn (sd w (keys Hz) v Hn Φ)) ex E [] (Gh.lent (λk=>k∈keys Hz)) L (Hn z++H0):=
 bJ he hr h λW hS=>⟨z,by rw[hv],(hS.links w hw).mono (λk hk hx=>by
  rcases hx with hx|hx
  ·exact hx
  ·obtain⟨p,hp,rfl⟩:=bU.1 hx;rcases ho.mem p hp with h|h
   ·exact h
   omega),hΦ,λp hp=>⟨hS.own p (by simp[hp]),ho.mem p (by simp[hp])⟩,by
  have:=(xK _).1 hS.nodup;rw[ga,List.nodup_append]at this;exact(xK _).2 this.1⟩
theorem RD{α:Type}{v:α->Value}{Hn:α->ad}{Φ:α->Prop}{Hz:ad}{first cap:List Value}(hH:H=Hz++H0)(hx:ev E x=some (.func (.func f) first.toArray cap.toArray))(ax:dU C.P f)(hw:np ops E g=some true)(hN:Nat.blt d C.N=true)(ha:il E xs=some vs)(rE:qe G L Hz)(hc:∀W,St G L (Hz++H0) W->Calls C.P f (first++vs++cap).toArray W (sd W (keys Hz) v Hn Φ))(k:∀z,Φ z->(∀p∈Hn z,p.1∈keys Hz\/(ab L p.1/\bE H p.1))->OJ C ops Q l ((d,v z)::E) D G L (Hn z++H0)):OJ C ops Q (⟨some d,.call ⟨.value x,xs.toArray,dX⟩,ty,pos,aB,g⟩::l) E D G L H:=by
 subst hH;exact nY rfl hw hx ha z1 ax λa W ik hD hF hS=>(hc W hS).mono (by
  rintro ed W' ⟨z,rfl,hk,hΦ,hn,hd⟩;refine k z hΦ (λp hp=>?_) (a.put (some d) (v z)) W' kW ke (hF.put _ lO) (hS.swapZ hk rE hn hd);rcases(hn p hp).2 with h|h
  ·exact .inl h
  exact .inr ⟨Kl hS h,Du hS h⟩)
variable {i j:Nat}
theorem nsi{p q:Nat×Obj}(hi:H[i]? =some p)(hj:H[j]? =some q)(xp:i≠j)(k:p.1≠q.1->OJ C ops Q l E D G L H):OJ C ops Q l E D G L H:=
 λa W hN hD hF hS=>k (λe=>xp (hS.nodup i j p q hi hj e)) a W hN hD hF hS
end
/-! ### equality of plain data -/
inductive TK where|i|b|s
def Pn:Value->Value->Bool
 | .int _ a,.int _ b=>a==b
 | .bool a,.bool b=>a==b
 | .string a,.string b=>a.toList==b.toList
 |_,_=>false
def Qq:TK->Value->Value->Bool
 | .i,.int k _,.int k' _=>decide (k=k')
 | .b,.bool _,.bool _=>true
 | .s,.string _,.string _=>true
 |_,_,_=>false
def lS:List Value->List Value->Bool
 |x::xs,y::ys=>Pn x y&&lS xs ys
 |_,_=>true
def iX:List TK->List Value->List Value->Bool
 |k::ks,x::xs,y::ys=>Qq k x y&&iX ks xs ys
 | [],[],[]=>true
 |_,_,_=>false
theorem Dw{k:TK}{x y:Value}(h:Qq k x y=true):Pn x x=true:=by cases k<;>cases x<;>cases y<;>simp_all[Qq,Pn]
theorem WO:∀{ks:List TK} {xs ys:List Value},iX ks xs ys=true->lS xs xs=true
 | [],[],_,_=>rfl
 |k::ks,x::xs,y::ys,h=>by
  simp only[iX,fX]at h;simp only[lS,Dw h.1,WO h.2,Bool.and_self]
 |_::_,[],_,_=>rfl
 |_::_,_::_,[],h=>by simp[iX]at h
 | [],_::_,_,h=>by simp[iX]at h
theorem Y0:∀{ks:List TK} {xs ys:List Value},iX ks xs ys=true->xs.length=ks.length/\ys.length=ks.length
 | [],[],[],_=>⟨rfl,rfl⟩
 |k::ks,x::xs,y::ys,h=>by
  simp only[iX,fX]at h;have:=Y0 h.2;simp[this.1,this.2]
 | [],_::_,_,h=>by simp[iX]at h
 | [],[],_::_,h=>by simp[iX]at h
 |_::_,[],_,h=>by simp[iX]at h
 |_::_,_::_,[],h=>by simp[iX]at h
theorem n6f:∀{a b c d:List Value},a.length=c.length->lS (a++b) (c++d)=(lS a c&&lS b d)
 | [],b,[],d,_=>by simp[lS]
 |x::a,b,y::c,d,h=>by
  simp only[fj,lS];rw[n6f rO,Bool.and_assoc]
 | [],b,y::c,d,h=>by simp at h
 |x::a,b,[],d,h=>by simp at h
theorem nWf:∀{k1 k2:List TK} {a b c d:List Value},a.length=k1.length->c.length=k1.length->iX (k1++k2) (a++b) (c++d)=(iX k1 a c&&iX k2 b d)
 | [],k2,[],b,[],d,_,_=>by simp[iX]
 |k::k1,k2,x::a,b,y::c,d,h,h'=>by
  simp only[fj,iX];rw[nWf rO (by simpa using h'),Bool.and_assoc]
 | [],k2,x::a,b,c,d,h,h'=>by simp at h
 | [],k2,[],b,y::c,d,h,h'=>by simp at h'
 |k::k1,k2,[],b,c,d,h,h'=>by simp at h
 |k::k1,k2,x::a,b,[],d,h,h'=>by simp at h'
def tz (P:Program) (k t:Nat) (ks:List TK):Prop:=∀(d:Nat) (xs ys:List Value) (w:World),iX ks xs ys=true->(Op.equalIn (d+k) t (.agg xs.toArray) (.agg ys.toArray)).run P w= .ok (lS xs ys) w
def lR (P:Program) (k t:Nat) (ks:List TK):Prop:=∀(d:Nat) (p1 c1 q1 p2 c2 q2:List Value) (w:World),p1.length=p2.length->iX ks c1 c2=true->
 ∃a b,(part t (p1++(c1++q1)).toArray p1.length).run P w= .ok a w/\(part t (p2++(c2++q2)).toArray p1.length).run P w= .ok b w/\(Op.equalIn (d+k) t a b).run P w= .ok (lS c1 c2) w
variable {ks:List TK} {k:Nat}
theorem lR.up{P:Program}{k' t:Nat}(h:lR P k t ks)(hk:k<=k'):lR P k' t ks:=λd p1 c1 q1 p2 c2 q2 w h1 h2=>by
 have:=h (d+(k'-k)) p1 c1 q1 p2 c2 q2 w h1 h2;rwa[show d+(k'-k)+k=d+k' by omega]at this
theorem lR.one{P:Program}{t:Nat}{k:TK}(hA:eQ P t false)(h:∀(d:Nat) (v u:Value) (w:World),Qq k v u=true->(Op.equalIn (d+1) t v u).run P w= .ok (Pn v u) w):lR P 1 t [k]:=by
 intro d p1 c1 q1 p2 c2 q2 w h1 h2
 match c1,c2,h2 with
 | [v],[u],h2=>
  simp only[iX,Bool.and_true]at h2;refine⟨v,u,by simp[part,hA w],by rw[h1];simp[part,hA w],?_⟩;rw[h d v u w h2];simp[lS]
 | [],_,h2=>simp[iX]at h2
 | [_],[],h2=>simp[iX]at h2
 |_::_::_,[],h2=>simp[iX]at h2
 | [_],_::_::_,h2=>simp[iX]at h2
 |_::_::_,_::_,h2=>simp[iX]at h2
variable {K:IntKind}
theorem lR.int{P:Program}{t:Nat}(hU:P.underlying t=some (.int K))(hA:eQ P t false):lR P 1 t [.i]:=lR.one hA (by
 intro d v u w h;cases v<;>cases u<;>simp only[Qq,Bool.false_eq_true]at h
 rename_i k a k' b;have:k=k':=by simpa using h
 subst this;rw[run_equalIn_int w d t k K a b hU];rfl)
theorem lR.agg{P:Program}{t n:Nat}(hA:eQ P t true)(hZ:nZ P t n)(hn:ks.length=n)(h:tz P k t ks):lR P k t ks:=by
 intro d p1 c1 q1 p2 c2 q2 w h1 h2;have hl:=Y0 h2;have VD:∀(p c q:List Value),c.length=n->(p++(c++q)).toArray.extract p.length (p.length+n)=c.toArray:=by
  intro p c q hc;apply Array.ext';rw[Array.toList_extract,List.extract_eq_take_drop];simp only[Nat.add_sub_cancel_left];rw[List.drop_left' rfl,<-hc,Pc rfl]
 refine⟨.agg c1.toArray,.agg c2.toArray,?_,?_,h d c1 c2 w h2⟩
 ·simp only[part,Sem.run_bind,hA w,hZ w,Result.andThen,if_true,Sem.run_pure];rw[VD p1 c1 q1 zM]
 simp only[part,Sem.run_bind,hA w,hZ w,Result.andThen,if_true,Sem.run_pure];rw[h1,VD p2 c2 q2 zM]
def mx (P:Program) (k:Nat):List Field->Nat->List TK->Prop
 | [],_,ks=>ks=[]
 |f::fs,off,ks=>∃k1 k2,ks=k1++k2/\f.offset=off/\(f.name≠ "_")/\lR P k f.type k1/\mx P k fs (off+k1.length) k2
theorem mx.n{P:Program}{off:Nat}:mx P k [] off []:=rfl
theorem mx.c{P:Program}{off:Nat}{f:Field}{fs:List Field}{k1 k2:List TK}(ho:f.offset=off)(hn:f.name≠ "_")(h:lR P k f.type k1)(t:mx P k fs (off+k1.length) k2):mx P k (f::fs) off (k1++k2):=⟨k1,k2,rfl,ho,hn,h,t⟩
theorem n1l{P:Program}{k:Nat}(d:Nat):∀(fs:List Field) (ks:List TK) (p1 c1 p2 c2:List Value) (w:World),p1.length=p2.length->mx P k fs p1.length ks->iX ks c1 c2=true->(Op.eqFields (d+k) (p1++c1).toArray (p2++c2).toArray fs).run P w= .ok (lS c1 c2) w
 | [],ks,p1,c1,p2,c2,w,_,h,hs=>by
  cases h
  match c1,c2,hs with
  | [],[],_=>simp[Op.eqFields,lS]
  |_::_,_,hs=>simp[iX]at hs
  | [],_::_,hs=>simp[iX]at hs
 |f::fs,ks,p1,c1,p2,c2,w,hp,h,hs=>by
  obtain⟨k1,k2,rfl,ho,hn,hf,ht⟩:=h;have hl:=Y0 hs;simp only[cC]at hl;obtain⟨a1,b1,rfl,eb⟩:∃a b,c1=a++b/\a.length=k1.length:=⟨c1.take k1.length,c1.drop k1.length,(yj _ _).symm,by simp;omega⟩;obtain⟨a2,b2,rfl,cA⟩:∃a b,c2=a++b/\a.length=k1.length:=⟨c2.take k1.length,c2.drop k1.length,(yj _ _).symm,by simp;omega⟩;rw[nWf eb cA,fX]at hs;obtain⟨x,y,hx,hy,he⟩:=hf d p1 a1 b1 p2 a2 b2 w hp hs.1;have ih:=n1l d fs k2 (p1++a1) b1 (p2++a2) b2 w (by simp[hp,eb,cA]) (by rw[cC,eb];exact ht) hs.2;simp only[iH]at ih;have Nf:(part f.type (p1++(a1++b1)).toArray f.offset).run P w= .ok x w:=by rw[ho];exact hx
  have VE:(part f.type (p2++(a2++b2)).toArray f.offset).run P w= .ok y w:=by rw[ho];exact hy
  rw[n6f zM];simp only[Op.eqFields,if_pos hn,Sem.run_bind,Nf,VE,he,Result.andThen];cases hq:lS a1 a2 with
  |false=>simp[Sem.run]
  |true=>
   simp only[Bool.not_true,Bool.false_eq_true,if_false,Bool.true_and];exact ih
theorem tz.struct{P:Program}{t:Nat}{fs:List Field}(hU:P.underlying t=some (.struct fs.toArray))(hp:P.stoodInHeld t=false)(h:mx P k fs 0 ks):tz P (k+1) t ks:=by
 intro d xs ys w hs;have hf:P.fieldsOf t=fs.toArray:=by simp[Program.fieldsOf,hU]
 rw[<-Nat.add_assoc,run_equalIn_struct w (d+k) t xs.toArray ys.toArray (by rw[hf];exact hU) hp,hf];exact n1l d fs ks [] xs [] ys w rfl h hs
def kA:Nat->List TK->List TK
 |0,_=>[]
 |n+1,ks=>ks++kA n ks
variable {m:Nat}
theorem tz.array{P:Program}{t len e:Nat}(hU:P.underlying t=some (.array len e))(hZ:nZ P e m)(hm:ks.length=m)(h:lR P k e ks):tz P (k+1) t (kA len ks):=by
 intro d xs ys w hs;have key:∀(n i:Nat) (p1 c1 p2 c2:List Value),p1.length=i*m->p2.length=i*m->iX (kA n ks) c1 c2=true->
  (do
   for j in List.range' i n do
    if !(<-Op.equalIn (d+k) e (<-part e (p1++c1).toArray (j*m)) (<-part e (p2++c2).toArray (j*m)))then return false
   pure true:Sem Bool).run P w= .ok (lS c1 c2) w:=by
  intro n;induction n with
  |zero=>
   intro i p1 c1 p2 c2 _ _ hs
   match c1,c2,hs with
   | [],[],_=>simp[lS]
   |_::_,_,hs=>simp[kA,iX]at hs
   | [],_::_,hs=>simp[kA,iX]at hs
  |succ n ih=>
   intro i p1 c1 p2 c2 yy tF hs;have hl:=Y0 hs;simp only[kA,cC]at hl;obtain⟨a1,b1,rfl,eb⟩:∃a b,c1=a++b/\a.length=ks.length:=⟨c1.take ks.length,c1.drop ks.length,(yj _ _).symm,by simp;omega⟩;obtain⟨a2,b2,rfl,cA⟩:∃a b,c2=a++b/\a.length=ks.length:=⟨c2.take ks.length,c2.drop ks.length,(yj _ _).symm,by simp;omega⟩;simp only[kA]at hs;rw[nWf eb cA,fX]at hs;obtain⟨x,y,hx,hy,he⟩:=h d p1 a1 b1 p2 a2 b2 w zM hs.1;rw[yy]at hx hy;have ve:=ih (i+1) (p1++a1) b1 (p2++a2) b2 (by rw[cC,yy,eb,hm,lK];omega) (by rw[cC,tF,cA,hm,lK];omega) hs.2;simp only[iH]at ve;rw[n6f zM];simp only[List.range'_succ,List.forIn_cons,Sem.run_bind,hx,hy,he,Result.andThen]at ve ⊢;cases hq:lS a1 a2 with
   |false=>simp[Sem.run]
   |true=>
    simp only[Bool.not_true,Bool.false_eq_true,if_false,Bool.true_and,Sem.run_pure];exact ve
 have:=key len 0 [] xs [] ys z1 z1 hs;simp only[eg]at this;rw[<-Nat.add_assoc];simp only[Op.equalIn,Sem.run_bind,run_underlying hU,Result.andThen_ok,hZ w];rw[Std.Legacy.Range.forIn_eq_forIn_range'];simpa[Std.Legacy.Range.size]using this
section
variable {C:Cx} {E:Env} {G:Gh} {L:List World} {H:ad} {T U:Nat} {x y:Operand}
theorem fF{je bs:Array Value}(h:tz C.P k T ks)(hk:Nat.ble k 10000=true)(hg:C.P.eqGuardType C.P.depth T=false)(hx:ev E x=some (.agg je))(hy:ev E y=some (.agg bs))(hs:iX ks je.toList bs.toList=true):RV C G L H E (.binOp .eql T x y U) (.bool (lS je.toList bs.toList)):=λd ty pos aB g a W hF _=>by
 have h1:=h (10000-k) je.toList bs.toList W hs;rw[show 10000-k+k=10000 by have:=aT hk;omega]at h1;simp only[Array.toArray_toList]at h1;have h2:=run_eql_struct (P:=C.P) W T je bs;rw[h1]at h2;have h3:=run_eqGuard_agg (P:=C.P) W .eql T x y je bs hg;simp only[execOp,hF.ev hx,hF.ev hy,Sem.run_bind,h3,h2,Result.andThen];rfl
theorem jR{je bs:Array Value}(h:tz C.P k T ks)(hk:Nat.ble k 10000=true)(hg:C.P.eqGuardType C.P.depth T=false)(hx:ev E x=some (.agg je))(hy:ev E y=some (.agg bs))(hs:iX ks je.toList bs.toList=true):RV C G L H E (.binOp .neq T x y U) (.bool (!lS je.toList bs.toList)):=λd ty pos aB g a W hF _=>by
 have h1:=h (10000-k) je.toList bs.toList W hs;rw[show 10000-k+k=10000 by have:=aT hk;omega]at h1;simp only[Array.toArray_toList]at h1;have h2:=run_neq_struct (P:=C.P) W T je bs;rw[h1]at h2;have h3:=run_eqGuard_agg (P:=C.P) W .neq T x y je bs hg;simp only[execOp,hF.ev hx,hF.ev hy,Sem.run_bind,h3,h2,Result.andThen];rfl
theorem nKn{P:Program}{e:Nat}(hU:P.underlying T=some (.slice e))(n c:Nat)(d:Nat)(W:World):(Op.equalIn (d+1) T (.slice none n c) (.slice none 0 0)).run P W= .ok true W:=by
 exact O9
theorem KW{e:Nat}(hU:C.P.underlying T=some (.slice e))(hx:ev E x=some (.slice none 0 0))(hy:ev E y=some (.slice none 0 0)):RV C G L H E (.binOp .eql T x y U) (.bool true):=λd ty pos aB g a W hF _=>by
 have h1:(eqGuard .eql T x y (.slice none 0 0) (.slice none 0 0)).run C.P W= .ok () W:=by simp[eqGuard]
 have h2:(binOp .eql T (.slice none 0 0) (.slice none 0 0)).run C.P W= .ok (.bool true) W:=by
  have e:binOp .eql T (.slice none 0 0) (.slice none 0 0)=(do pure (.bool (<-Op.equalIn (9999+1) T (.slice none 0 0) (.slice none 0 0)))):=rfl;rw[e,Sem.run_bind,nKn hU];rfl
 exact zzk
end
variable {kt:Nat}
theorem Qr{P:Program}(hK:P.underlying kt=some (.int .i64))(b:Bool)(k:Int):(Instr.checkKey b 10000 kt (.int .i64 k)).run P W= .ok () W:=by
 show(Instr.checkKey b (9999+1) kt (.int .i64 k)).run P W= .ok () W;generalize 9999=n;simp[Instr.checkKey,run_underlying hK]
variable {es:Array MapEntry} {b:Nat}
theorem Ez{P:Program}{c:Nat}(h:W.heap[b]? =some (.map es c)):(getObj b).run P W= .ok (.map es c) W:=by simp[getObj,Sem.run,h]
theorem Qs{P:Program}{c:Nat}(o':Obj)(h:W.heap[b]? =some (.map es c)):(setObj b o').run P W= .ok () (W.putObj b o'):=by simp[setObj,Sem.run,h,World.putObj]
section
variable {C:Cx} {Q:aF} {E:Env} {D:List Deferred} {G:Gh} {L:List World} {H:ad} {ops:Array Oper} {l:List Oper}
variable {d T ty:Nat} {pos:String} {aB:Array Edge} {g:Option (Nat×Bool)} {x y z:Operand}
def bN (G:Gh) (L:List World) (H:ad) (b:Nat) (o:Obj):Prop:=∀W,St G L H W->W.heap[b]? =some o
variable {i:Nat} {o:Obj}
theorem bN.own(hi:H[i]? =some (b,o)):bN G L H b o:=λ_ hS=>hS.own _ (cB hi)
theorem bN.old{w:World}(hm:w∈L)(hb:w.heap[b]? =some o)(hG:¬G.X b)(hO:bE H b):bN G L H b o:=λ_ hS=>hS.old hm hb hG hO
end
def ah {α:Type} (enc:α->Array Value) (n N:Nat) (w:World) (a:Option Addr) (xs:List α):Prop:=
 xs=[]\/∃b off cs t fr,a=some ⟨b,off,none⟩/\b<N/\w.heap[b]? =some (.cells cs t fr)/\∀i (h:i<xs.length),off+i*n+n<=cs.size/\cut cs (off+i*n) n=enc xs[i]
section
variable {α:Type} {enc:α->Array Value} {n N N':Nat} {w w':World} {a:Option Addr} {xs:List α}
theorem ah.up(h:ah enc n N w a xs)(hN:N<=N')(hw:∀k,k<N->w'.heap[k]? =w.heap[k]?):ah enc n N' w' a xs:=by
 rcases h with h|⟨b,off,cs,t,fr,h1,h2,h3,h4⟩
 ·exact .inl h
 exact .inr ⟨b,off,cs,t,fr,h1,by omega,(hw b h2).trans h3,h4⟩
theorem ah.get(h:ah enc n N w a xs)(hx:0<xs.length):∃b off cs t fr,a=some ⟨b,off,none⟩/\b<N/\w.heap[b]? =some (.cells cs t fr)/\∀i (h:i<xs.length),off+i*n+n<=cs.size/\cut cs (off+i*n) n=enc xs[i]:=by
 rcases h with rfl|h
 ·simp at hx
 exact h
variable {cs:Array Value} {fr:Nat×Nat}
theorem ah.block{t:Nat}(hb:b<N)(h:w.heap[b]? =some (.cells cs t fr))(hx:∀i (h:i<xs.length),i*n+n<=cs.size/\cut cs (i*n) n=enc xs[i]):ah enc n N w (some ⟨b,0,none⟩) xs:=
 .inr ⟨b,0,cs,t,fr,rfl,hb,h,λi hi=>by rw[jg];exact hx i hi⟩
end
variable {cs:Array Value}
theorem uW{n:Nat}{r:Array Value}(h:cut cs k n=r)(j:Nat)(hj:j<n):cs[k+j]? =r[j]? :=by
 subst h;unfold cut;conv=>rhs;rw[DK,KC hj,wC,xW]
section
variable {α:Type} {enc:α->Array Value} {n off:Nat} {cs:Array Value} {xs:List α}
variable {j:Nat}
theorem D3(h:∀i (h:i<xs.length),off+i*n+n<=cs.size/\cut cs (off+i*n) n=enc xs[i]){x:α}(hj:xs[j]? =some x){i:Int}(hi:i=(j:Int))(k:Nat)(hk:k<n):cs[off+i.toNat*n+k]? =(enc x)[k]? :=by
 obtain⟨h1,h2⟩:=gA.1 hj;subst hi;rw[wK,uW (h j h1).2 k hk,h2]
theorem nR(h:∀i (h:i<xs.length),off+i*n+n<=cs.size/\cut cs (off+i*n) n=enc xs[i]){x:α}(hj:xs[j]? =some x){i:Int}(hi:i=(j:Int))(hn:0<n):cs[off+i.toNat*n]? =(enc x)[0]? :=by
 have:=D3 h hj hi 0 hn;rwa[Nat.add_zero]at this
theorem nq(h:∀i (h:i<xs.length),off+i*n+n<=cs.size/\cut cs (off+i*n) n=enc xs[i]){x:α}(hj:xs[j]? =some x){i:Int}(hi:i=(j:Int)):cut cs (off+i.toNat*n) n=enc x:=by
 obtain⟨h1,h2⟩:=gA.1 hj;subst hi;rw[wK,(h j h1).2,h2]
theorem nl(h:∀i (h:i<xs.length),off+i*n+n<=cs.size/\cut cs (off+i*n) n=enc xs[i]){x:α}(hj:xs[j]? =some x){i:Int}(hi:i=(j:Int)):off+i.toNat*n+n<=cs.size:=by
 obtain⟨h1,_⟩:=gA.1 hj;subst hi;rw[wK];exact(h j h1).1
end
def encI (x:Int):Array Value:=#[.int .i64 x]
variable {j:Nat}
theorem nC{α:Type}{xs:List α}{x:α}(h:xs[j]? =some x):xs.take (j+1)=xs.take j++[x]:=by
 obtain⟨h1,h2⟩:=gA.1 h;rw[IA h1,h2]
theorem nj{α:Type}(xs:List α)(j:Nat)(h:j<xs.length):∃x,xs[j]? =some x:=⟨_,gR h⟩
theorem nF{α:Type}{xs:List α}{x:α}(h:xs[j]? =some x):j<xs.length:=(gA.1 h).1
section
variable {C:Cx} {Q:aF} {fn:Func} {R:Ending->World->Prop} {E:Env} {D:List Deferred} {G:Gh} {L L':List World} {H:ad} {e:Exit}
theorem WX(h:∀w∈L',w∈L)(k:PJ C Q e E D G L' H):PJ C Q e E D G L H:=λa W hN hD hF hS=>k a W hN hD hF (hS.lessL h)
end
section
variable {C:Cx} {E:Env} {G:Gh} {L:List World} {H:ad} {T:Nat} {x y:Operand}
end
variable {C:Cx} {E:Env} {T:Nat} {x:Operand}
theorem AW{U:Nat}{y:Operand}{a b:Bool}(hU:C.P.underlying T=some .bool)(hx:ev E x=some (.bool a))(hy:ev E y=some (.bool b)):RV C G L H E (.binOp .eql T x y U) (.bool (a==b)):=λd ty pos aB g ac W hF _=>by
 have h1:(Op.equalIn (9999+1) T (.bool a) (.bool b)).run C.P W= .ok (a==b) W:=by
  generalize 9999=n;exact O9
 have h2:(binOp .eql T (.bool a) (.bool b)).run C.P W= .ok (.bool (a==b)) W:=by
  have e:binOp .eql T (.bool a) (.bool b)=(do pure (.bool (<-Op.equalIn (9999+1) T (.bool a) (.bool b)))):=rfl;rw[e,Sem.run_bind,h1];rfl
 have h3:(eqGuard .eql T x y (.bool a) (.bool b)).run C.P W= .ok () W:=by simp[eqGuard]
 simp only[execOp,hF.ev hx,hF.ev hy,Sem.run_bind,h3,h2,Result.andThen];rfl
/-! ### what comes in -/
theorem nUh{α:Type}{p:Nat->α->Prop}:∀n,(∀i,i<n->∃x,p i x)->∃xs:List α,xs.length=n/\∀i x,xs[i]? =some x->p i x
 |0,_=>⟨[],rfl,λi x h=>by simp at h⟩
 |n+1,h=>by
  obtain⟨xs,h1,h2⟩:=nUh n λi hi=>h i zM;obtain⟨x,hx⟩:=h n zM;refine⟨xs++[x],by simp[h1],λi y hy=>?_⟩;by_cases hi:i<xs.length
  ·rw[xX hi]at hy;exact h2 i y hy
  have e:i=n:=by
   have:=nF hy;simp at this;omega
  subst e;rw[DJ zM,h1,Nat.sub_self]at hy;obtain rfl:x=y:=by simpa using hy
  exact hx
theorem Oz{n:Nat}{r:List Value}(hn:0<n)(hr:r.length=n)(h:∀j,j<n->cs[k+j]? =r[j]?):k+n<=cs.size/\cut cs k n=r.toArray:=by
 constructor
 ·have h1:=h (n-1) zM;rw[gR zM]at h1;have:=(aL.1 h1).1;omega
 unfold cut;congr 1;apply vr;intro i;by_cases hi:i<n
 ·rw[KC hi,wC,xW];exact h i hi
 rw[List.getElem?_take_eq_none zM,um zM]
variable {i:Nat} {v:Value}
theorem n8n(h:W.cell? ⟨b,i,none⟩=some v):∃cs t fr,W.heap[b]? =some (.cells cs t fr)/\cs[i]? =some v:=by
 unfold World.cell? at h;cases hb:W.heap[b]? with
 |none=>simp[hb]at h
 |some o=>
  cases o with
  |cells cs t fr=>simp[hb]at h;exact⟨cs,t,fr,rfl,h⟩
  |_=>simp[hb]at h
theorem Y1(b off n:Nat):(⟨b,off,none⟩:Addr).add n=⟨b,off+n,none⟩:=Kb b off n
theorem Il{α:Type}{enc:α->Array Value}{n:Nat}(hn:0<n){a:Addr}{xs:List α}(h:∀i x,xs[i]? =some x->∃eu:List Value,W.cells? 0 (a.add (i*n)) n=some eu/\eu=(enc x).toList):ah enc n W.heap.size W (some a) xs:=by
 rcases xs with _|⟨x0,xs⟩
 ·exact .inl rfl
 right;obtain⟨c0,h0,_⟩:=h 0 x0 rfl;rw[Nat.zero_mul]at h0;obtain⟨_,DB,hc0⟩:=World.cells?_some h0;have e0:=hc0 0 hn;rw[gR zM]at e0;obtain⟨b,off,spot⟩:=a;have hs:spot=none:=by simpa[Addr.add]using World.cell?_spot e0
 subst hs;rw[Y1,Y1]at e0;obtain⟨cs,t,fr,hb,_⟩:=n8n e0;refine⟨b,off,cs,t,fr,rfl,(aL.1 hb).1,hb,λi hi=>?_⟩;obtain⟨c1,h1,e1⟩:=h i _ (gR hi);rw[Y1]at h1;obtain⟨_,mB,aj⟩:=World.cells?_some h1;have:=Oz (cs:=cs) (k:=off+i*n) (r:=c1) hn mB (λj hj=>by
  have:=aj j hj;rw[Y1,DP hb]at this;exact this)
 refine⟨this.1,?_⟩;rw[this.2,e1]
section
variable {H:Type} {enc:TypeId×Value->H} {P:Program} {w:World} {held:Bool}
theorem sl_in{α:Type}{el:α->Array Value}{n t e fuel:Nat}{cs:List Value}{x:DataW H×List MemPlace}(q:α->Prop)(hn:0<n)(ht:P.underlying t=some (.slice e))(hc:P.cellsOf e=n)(h:DataW.trod enc P w 0 (λ_=>true) held fuel t cs=some x)(pK:∀eu m y,eu.length=n->DataW.trod enc P w 0 (λ_=>true) held m e eu=some y->∃z,eu=(el z).toList/\q z):∃a xs cap,cs=[.slice a xs.length cap]/\ah el n w.heap.size w a xs/\(∀z∈xs,q z)/\xs.length<=maxLen:=by
 rcases Go.Deep.open_slice ht h with⟨rfl,_⟩|⟨a,len,cap,m,nn,D,Pl,rfl,_,hl,hm,xb,_,hx⟩
 ·exact⟨none,[],0,rfl,.inl rfl,by simp,dx _⟩
 have J0:len<=m:=by rw[xb];simpa using hl
 obtain⟨xs,h1,h2⟩:=nUh (p:=λi z=>∃eu,w.cells? 0 (a.add (i*n)) n=some eu/\eu=(el z).toList/\q z) len (λi hi=>by
  obtain⟨eu,g1,g2⟩:=hx i zM;rw[hc]at g1;obtain⟨z,g3,g4⟩:=pK eu nn _ (World.cells?_some g1).2.1 g2;exact⟨z,eu,g1,g3,g4⟩)
 refine⟨some a,xs,cap,by rw[h1],Il hn (λi z hz=>?_),λz hz=>?_,by omega⟩
 ·obtain⟨eu,g1,g2,_⟩:=h2 i z hz;exact⟨eu,g1,g2⟩
 obtain⟨i,hi⟩:=List.getElem?_of_mem hz;exact(h2 i z hi).choose_spec.2.2
theorem u7{cs:List Value}(h:(cs.drop i).take 1=[v]):cs[i]? =some v:=by
 have:=congrArg (λl=>l[0]?) h;simpa[List.getElem?_take,wC]using this
theorem wfI{n:Int}(h:(Lit.int .i64 n).wf=true): -9223372036854775808<=n/\n<=9223372036854775807:=bounds_i64 h
theorem arr_ints{t e n fuel base:Nat}{spare:Nat->Bool}{k:IntKind}{cs:List Value}{ns:List Int}{ps:List MemPlace}(ht:P.underlying t=some (.array n e))(he:P.underlying e=some (.int k))(hc:P.cellsOf e=1)(hn:P.cellsOf t=n)(h:DataW.trod enc P w base spare held fuel t cs=some (.agg (ns.map λx=>.lit (.int k x)),ps)):cs=ns.map λx=>.int k x:=by
 obtain⟨xs,m,rfl,hx,hl,ck,pK⟩:=DataW.trod_array ht h;simp only[Prod.mk.injEq,DataW.agg.injEq]at hx;have hlen:ns.length=n:=by have:=congrArg List.length hx.1;simpa[ck]using this
 apply List.ext_getElem (by rw[hl,hn];simp[hlen]);intro i h1 h2;have hi:i<n:=by rw[hl,hn]at h1;exact h1
 have DW:i<ns.length:=by omega
 have e1:=pK i hi;rw[hc]at e1;have hxi:i<xs.length:=by omega
 rw[gR hxi]at e1;obtain⟨q,e2,e3,_⟩:=DataW.trod_int he e1;have e4:(xs.map (·.1))[i]'(by simpa using hxi)= .lit (.int k q):=by simp[e3]
 have e5:(xs.map (·.1))[i]'(by simpa using hxi)= .lit (.int k ns[i]):=by
  have:(xs.map (·.1))=ns.map λx=>.lit (.int k x):=hx.1.symm;simp only[this,J3]
 rw[e4]at e5;have e6:q=ns[i]:=by injection e5 with e7;injection e7
 subst e6;have e8:cs[i]= .int k ns[i]:=by
  have:=congrArg (λl=>l[0]?) e2;simp[List.getElem?_take,wC]at this;rw[gR h1]at this;exact Option.some.inj this
 rw[e8,J3]
end
theorem NW{l:List Value}(hs:cs.size=l.length)(h:∀i,i<l.length->cs[i]? =l[i]?):cs=l.toArray:=by
 apply Array.ext';apply vr;intro i;rw[xW];by_cases hi:i<l.length
 ·rw[h i hi]
 rw[um JH,Array.getElem?_eq_none zM]
/-! ### rows of elements: a list that grows from nil -/
/-- the cells of a list of elements -/
def eL {α:Type} (enc:α->List Value) (xs:List α):List Value:=xs.flatMap enc
theorem so{α:Type}{enc:α->List Value}(h:∀x,(enc x).length=m)(xs:List α):(eL enc xs).length=xs.length*m:=by
 induction xs with
 |nil=>simp[eL]
 |cons x xs ih=>simp only[eL,IM,cC,ec]at *;rw[h,ih,lK];omega
theorem Ps{α:Type}(enc:α->List Value)(xs ys:List α):eL enc (xs++ys)=eL enc xs++eL enc ys:=by simp[eL]
theorem Io{α:Type}(enc:α->List Value)(x:α):eL enc [x]=enc x:=by simp[eL]
theorem Tm{α:Type}{enc:α->List Value}{m:Nat}(h:∀x,(enc x).length=m):∀(xs:List α) (sp:List Value) (i:Nat) (hi:i<xs.length),((eL enc xs++sp).drop (i*m)).take m=enc xs[i]
 | [],_,i,hi=>by simp at hi
 |x::xs,sp,0,_=>by
  simp only[eL,IM,Nat.zero_mul,RL,iH,List.getElem_cons_zero];rw[Pc (h x)]
 |x::xs,sp,i+1,hi=>by
  have:=Tm h xs sp i JH;simp only[eL,IM,iH,List.getElem_cons_succ]at *;rw[show(i+1)*m=m+i*m by rw[lK];omega,<-List.drop_drop,List.drop_left' (h x)];exact this
theorem Dx{α:Type}{enc:α->List Value}(h:∀x,∀u∈enc x,u.oneCell'=true)(xs:List α):∀u∈eL enc xs,u.oneCell'=true:=by
 intro u hu;obtain⟨x,_,hx⟩:=Pe.1 hu;exact h x u hx
inductive Rw where
 |nil
 |row (b cap:Nat) (sp:List Value)
def Rw.val (n:Nat):Rw->Value
 | .nil=>.slice none 0 0
 | .row b cap _=>.slice (some ⟨b,0,none⟩) n cap
theorem Rw.val_cells(n:Nat)(r:Rw):(r.val n).cells=#[r.val n]:=by cases r<;>rfl
theorem Rw.val_size(n:Nat)(r:Rw):(r.val n).cells.size=1:=by cases r<;>rfl
theorem Rw.val_one(n:Nat)(r:Rw):nU (r.val n).cells.toList=true:=by cases r<;>rfl
abbrev cD {α:Type} (enc:α->List Value) (t:Nat) (xs:List α) (sp:List Value):Obj:=.cells (eL enc xs++sp).toArray t (0,0)
def Rw.hp {α:Type} (enc:α->List Value) (t:Nat) (xs:List α):Rw->ad
 | .nil=>[]
 | .row b _ sp=>[(b,cD enc t xs sp)]
def Rw.Fit {α:Type} (m:Nat) (xs:List α):Rw->Prop
 | .nil=>xs=[]
 | .row _ cap sp=>xs.length<=cap/\sp.length=(cap-xs.length)*m
def Rw.Fr (G:Gh) (L:List World):Rw->Prop
 | .nil=>True
 | .row b _ _=>Px.Fr G L b
def Rw.ge (n:Nat):Rw->Prop
 | .nil=>True
 | .row b _ _=>n<=b
def Rw.isAt (k:Nat):Rw->Prop
 | .nil=>False
 | .row b _ _=>b=k
variable {r:Rw}
theorem Rw.Fr_at(h:r.Fr G L)(hk:r.isAt k):Px.Fr G L k:=by
 cases r with
 |nil=>exact hk.elim
 |row b cap sp=>cases hk;exact h
theorem Rw.ge_at{n:Nat}(h:r.ge n)(hk:r.isAt k):n<=k:=by
 cases r with
 |nil=>exact hk.elim
 |row b cap sp=>cases hk;exact h
def Rw.At {α:Type} (enc:α->List Value) (t:Nat) (xs:List α) (w:World):Rw->Prop
 | .nil=>True
 | .row b _ sp=>w.heap[b]? =some (cD enc t xs sp)
theorem Rw.mem_at{α:Type}{enc:α->List Value}{t:Nat}{xs:List α}(hk:r.isAt k):k∈(r.hp enc t xs).map (·.1):=by
 cases r with
 |nil=>exact hk.elim
 |row b cap sp=>cases hk;simp[Rw.hp]
theorem Rw.off_ge{α:Type}{enc:α->List Value}{t n:Nat}{xs:List α}(h:r.ge n)(hk:k<n):bE (r.hp enc t xs) k:=by
 cases r with
 |nil=>trivial
 |row b cap sp=>exact⟨by have:n<=b:=h;omega,trivial⟩
theorem Rw.ge_mono{n n':Nat}(h:r.ge n)(hn:n'<=n):r.ge n':=by
 cases r with
 |nil=>trivial
 |row b cap sp=>exact aS hn h
theorem Rw.over{α:Type}{enc:α->List Value}{t n:Nat}{xs:List α}(h:r.ge n):Over n (r.hp enc t xs):=by
 cases r with
 |nil=>trivial
 |row b cap sp=>exact⟨h,trivial⟩
variable {H':ad}
theorem ne:bE (H++H') k↔bE H k/\bE H' k:=by
 induction H with
 |nil=>simp[bE]
 |cons p H ih=>simp only[fj,bE,ih,and_assoc]
theorem n0:Over k (H++H')↔Over k H/\Over k H':=by
 induction H with
 |nil=>simp[Over]
 |cons p H ih=>simp only[fj,Over,ih,and_assoc]
theorem Fr.ge{w:World}(h:Px.Fr G L b)(hX:¬G.X b)(hw:w∈L):w.heap.size<=b:=by
 rcases h with h|h
 ·exact absurd h hX
 exact h.mem w hw
theorem Rw.ge_of{w:World}(h:r.Fr Gh.no L)(hw:w∈L):r.ge w.heap.size:=by
 cases r with
 |nil=>trivial
 |row b cap sp=>exact Fr.ge (G:=Gh.no) h zZ hw
theorem Rw.mem_ge{α:Type}{enc:α->List Value}{t n:Nat}{xs:List α}(h:r.ge n)(hk:k∈(r.hp enc t xs).map (·.1)):n<=k:=by
 cases r with
 |nil=>simp[Rw.hp]at hk
 |row b cap sp=>simp[Rw.hp]at hk;subst hk;exact h
structure lT (P:Program) (t e m:Nat):Prop where
 und:P.underlying t=some (.slice e)
 info:∃ti z,P.info? e=some ti/\ti.zero=some z/\ti.size=m/\z.cells.size=m/\ti.bytes<=100000
section
variable {C:Cx} {Q:aF} {E:Env} {D:List Deferred} {G:Gh} {L:List World} {H H0 H1:ad} {ops:Array Oper} {l:List Oper}
variable {d T ty f:Nat} {pos:String} {aB:Array Edge} {g:Option (Nat×Bool)} {x y:Operand} {xo:List Operand} {vs:List Value} {dX:Array Nat}
variable {α:Type} {enc:α->List Value} {m:Nat}
def dy (C:Cx) (G:Gh) (L:List World) (H:ad) (enc:α->List Value) (m tx:Nat) (sv:Value) (zs:List α):Prop:=jP C G L H m tx sv zs.length (eL enc zs)
variable {tx:Nat} {fr:Nat×Nat}
theorem dy.at{e' off c t:Nat}{zs:List α}(hm:∀x,(enc x).length=m)(h1:∀x,∀u∈enc x,u.oneCell'=true)(hU:C.P.underlying tx=some (.slice e'))(hb:bN G L H b (.cells cs t fr))(hn:off+zs.length*m<=cs.size)(he:(cs.toList.drop off).take (zs.length*m)=eL enc zs):dy C G L H enc m tx (.slice (some ⟨b,off,none⟩) zs.length c) zs:=
 jP.sl hU (λW hS=>by rw[YX (hb W hS) hn];unfold cut;rw[he]) (so hm zs) (Dx h1 zs)
theorem dy.one{e' c t:Nat}{z:α}(hm:∀x,(enc x).length=m)(h1:∀x,∀u∈enc x,u.oneCell'=true)(hU:C.P.underlying tx=some (.slice e'))(hb:bN G L H b (.cells (enc z).toArray t fr)):dy C G L H enc m tx (.slice (some ⟨b,0,none⟩) 1 c) [z]:=
 dy.at (zs:=[z]) hm h1 hU hb (by simp[hm]) (by simp only[RL,BX,Nat.one_mul,Io];rw[<-hm z];exact I8)
variable {sv:Value}
theorem o8{t e:Nat}{xs zs:List α}(hH:H=H0++(r.hp enc e xs++H1))(hT:lT C.P t e m)(hm:∀x,(enc x).length=m)(hw:np ops E g=some true)(hN:Nat.blt d C.N=true)(hx:ev E x=some (r.val xs.length))(hy:ev E y=some sv)(hs:dy C G L H enc m tx sv zs)(hr:r.Fit m xs)(hf:r.Fr G L)(h0:0<zs.length)(gQ:xs.length+zs.length<=1000000)(k:∀(b' aU:Nat) (bK:List Value),(r.isAt b'\/ab L b')->(Rw.row b' aU bK).Fit m (xs++zs)->OJ C ops Q l ((d,.slice (some ⟨b',0,none⟩) (xs++zs).length aU)::E) D G L (H0++((b',cD enc e (xs++zs) bK)::H1))):OJ C ops Q (⟨some d,.call ⟨.builtin .append,#[x,y],#[t,tx]⟩,ty,pos,aB,g⟩::l) E D G L H:=
 pC z1 hw hN λa W hF hS=>by
  obtain⟨ti,z,qd,hz,jF,uM,ph⟩:=hT.info;have hl:(xs++zs).length=xs.length+zs.length:=cC;have hB:(xs.length+zs.length)*ti.bytes<=140737488355328:=aS (Nat.mul_le_mul gQ ph) zQ;cases r with
  |nil=>
   have iU:xs=[]:=hr;subst iU;rw[lF,jg]at hB;obtain⟨aU,bK,W',gv,fP,xM,ku⟩:=hS.appN (P:=C.P) (ty:=ty) hT.und qd hz jF uM (hs.src hS) h0 zM hB;refine⟨.slice (some ⟨W.heap.size,0,none⟩) zs.length aU,W',L,H0++((W.heap.size,cD enc e ([]++zs) bK)::H1),?_,?_,?_⟩
   ·have hxx:ev E x=some (.slice none 0 0):=hx;simp[execOp,hF.ev hxx,hF.ev hy,resolve,invoke,Deferred.ofValue,builtin,gv]
   ·rw[hH]at fP;exact fP.perm (by simpa[Rw.hp,eg]using List.perm_middle.symm)
   exact k _ _ _ (.inr hS.sizes) ⟨by simpa using xM,by simpa using ku⟩
  |row b cap sp=>
   obtain⟨hc,zE⟩:=hr;have hi:H[H0.length]? =some (b,.cells (eL enc xs++sp).toArray e (0,0)):=by rw[hH];simp[Rw.hp]
   obtain⟨b',aU,bK,W',gv,fP,eJ,xM,ku⟩:=hS.app (P:=C.P) (ty:=ty) hi hT.und qd hz jF uM (hs.src hS) (so hm xs) zE hc hf zM hB;have VB:(Rw.row b cap sp).isAt b'\/ab L b':=by
    rcases eJ with rfl|eJ
    ·exact .inl rfl
    exact .inr (Kl hS eJ)
   refine⟨.slice (some ⟨b',0,none⟩) (xs.length+zs.length) aU,W',L,_,?_,fP,?_⟩
   ·have hxx:ev E x=some (.slice (some ⟨b,0,none⟩) xs.length cap):=hx;simp[execOp,hF.ev hxx,hF.ev hy,resolve,invoke,Deferred.ofValue,builtin,gv]
   have:=k b' aU bK VB ⟨by rw[hl];exact xM,by rw[hl];exact ku⟩;rw[hl]at this;rw[hH];simpa[Rw.hp,cD,Ps]using this
theorem Rw.sl{t:Nat}{xs:List α}{w:World}(hm:∀x,(enc x).length=m)(hr:r.Fit m xs)(hA:r.At enc t xs w)(hN:w.heap.size<=N):∃a cap,r.val xs.length= .slice a xs.length cap/\ah (λx=>(enc x).toArray) m N w a xs:=by
 cases r with
 |nil=>
  have iU:xs=[]:=hr;subst iU;exact⟨none,0,rfl,.inl rfl⟩
 |row b cap sp=>
  have hA':w.heap[b]? =some (cD enc t xs sp):=hA;refine⟨_,_,rfl,ah.block (kQ (aL.1 hA').1 hN) hA' λi hi=>⟨?_,?_⟩⟩
  ·have h1:(i+1)*m<=xs.length*m:=uR _ hi;rw[lK]at h1;simp only[rU,cC,so hm];omega
  unfold cut;rw[Tm hm xs sp i hi]
def nB (w:World) (enc:α->List Value) (m t:Nat) (xs:List α) (v:Value->Value):Ending->World->Prop:=λe w'=>
 ∃r:Rw,e= .returned (v (r.val xs.length))/\Below w.heap.size w w'/\r.ge w.heap.size/\r.Fit m xs/\r.At enc t xs w'
variable {fv:Operand}
theorem Am{t:Nat}{xs:List α}{v:Value->Value}{first cap:List Value}(hx:ev E fv=some (.func (.func f) first.toArray cap.toArray))(ax:dU C.P f)(hw:np ops E g=some true)(hN:Nat.blt d C.N=true)(ha:il E xo=some vs)(hc:∀W,St G L H W->Calls C.P f (first++vs++cap).toArray W (nB W enc m t xs v))(k:∀r:Rw,r.Fr G L->r.Fit m xs->OJ C ops Q l ((d,v (r.val xs.length))::E) D G L (r.hp enc t xs++H)):OJ C ops Q (⟨some d,.call ⟨.value fv,xo.toArray,dX⟩,ty,pos,aB,g⟩::l) E D G L H:=
 nY rfl hw hx ha z1 ax λa W ik hD hF hS=>(hc W hS).mono (by
  rintro ed W' ⟨r,rfl,hb,kV,bW,gk⟩;refine k r ?_ bW (a.put (some d) (v (r.val xs.length))) W' kW ke (hF.put _ lO) ?_
  ·cases r with
   |nil=>trivial
   |row b cap sp=>exact Fr.up hS kV
  cases r with
  |nil=>exact hS.step hb
  |row b cap sp=>exact(hS.step hb).adopt gk (Du hS kV) (λhv=>by have:=hS.vlt _ hv;have:W.heap.size<=b:=kV;omega))
theorem xe{t:Nat}{xs:List α}{v:Value->Value}{first cap:List Value}(hx:ev E fv=some (.func (.func f) first.toArray cap.toArray))(ax:dU C.P f)(hw:np ops E g=some true)(hN:Nat.blt d C.N=true)(ha:il E xo=some vs)(hm:∀x,(enc x).length=m)(hc:∀W,St G L H W->Calls C.P f (first++vs++cap).toArray W (nB W enc m t xs v))(k:∀W a cp w1,St G L H W->Below W.heap.size W w1->ah (λx=>(enc x).toArray) m w1.heap.size w1 a xs->(∀b,a=some b->W.heap.size<=b.block)->OJ C ops Q l ((d,v (.slice a xs.length cp))::E) D G (w1::L) H):OJ C ops Q (⟨some d,.call ⟨.value fv,xo.toArray,dX⟩,ty,pos,aB,g⟩::l) E D G L H:=
 nY rfl hw hx ha z1 ax λac W ik hD hF hS=>(hc W hS).mono (by
  rintro ed W' ⟨r,rfl,hb,kV,bW,gk⟩;obtain⟨a,cp,he,aN⟩:=r.sl hm bW gk (ao _);have:=k W a cp W' hS hb aN (by
   intro b sP;cases r with
   |nil=>simp only[Rw.val,Value.slice.injEq]at he;rw[<-he.1]at sP;cases sP
   |row b' cap sp=>simp only[Rw.val,Value.slice.injEq]at he;rw[<-he.1]at sP;cases sP;exact kV) (ac.put (some d) (v (.slice a xs.length cp))) W' kW ke (hF.put _ lO) (hS.step hb).snap
  rw[he];exact this)
variable {e:Exit} {rs:List ResultVar} {us:List Value}
theorem nT{fn:Func}{t:Nat}{xs:List α}{v:Value->Value}{w:World}(he:e= .ret\/e= .normal)(hr:fn.results=rs.toArray)(h:RS C Gh.no L H E rs us)(hw:w∈L)(ho:Over w.heap.size H)(hv:Et us=v (r.val xs.length))(bW:r.Fit m xs)(kV:r.ge w.heap.size)(hH:H=H0++(r.hp enc t xs++H1)):PJ C (bodyPost C.P fn (nB w enc m t xs v)) e E [] Gh.no L H:=
 bJ he hr h λW hS=>⟨r,by rw[hv],hS.base hw ho,kV,bW,by
  cases r with
  |nil=>trivial
  |row b cap sp=>exact hS.own (b,cD enc t xs sp) (by rw[hH];simp[Rw.hp])⟩
end
def ai (x:Int):List Value:=[.int .i64 x]
theorem nu(x:Int):(ai x).length=1:=rfl
theorem FP(x:Int):∀u∈ai x,u.oneCell'=true:=by intro u hu;simp[ai]at hu;subst hu;rfl
end Px
