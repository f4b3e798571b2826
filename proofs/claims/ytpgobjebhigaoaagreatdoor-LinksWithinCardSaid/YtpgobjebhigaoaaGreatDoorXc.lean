/- Memory, operations, iterators, slices, maps. No condition beyond those stated. -/
import Derived.Test.YtpgobjebhigaoaaGreatDoorXb
import Derived.Laws.IdiomStrings
import Derived.Laws.BytesArg
import Derived.RecoverIn
import Derived.Laws.StructEq
import Derived.ProofKit
import Derived.LaidMore
import Derived.OpenShut
import Derived.Stop.Joined
import Derived.Carry
import Derived.Deep.Slices
set_option linter.unusedSimpArgs false
set_option linter.unusedVariables false
set_option linter.unusedSectionVars false
set_option linter.unnecessarySimpa false
set_option maxRecDepth 20000
set_option maxHeartbeats 8000000
namespace Px
open Go Go.RowKit
theorem nXh{P:Program}(W:World)(t tx ty e:TypeId)(i:TypeInfo)(z:Value)(ht:P.underlying t=some (.slice e))(htx:P.underlying tx=some (.int .i64))(hi:P.info? e=some i)(hz:i.zero=some z)(uA:z.cells=#[z])(hs:i.size=1)(hb:i.bytes=1)(n:Nat)(h0:0<n)(h1:n<=1099511627776):(Builtin.append_ #[t,tx] ty #[.slice none 0 0,.int .i64 (n:Int)]).run P W= .ok (.slice (some ⟨W.heap.size,0,none⟩) n (grownCap W n 0 e)) (W.drew.alloc (.cells (cf (grownCap W n 0 e) (λ_=>z)) e (0,0))):=by
 have hw:IntKind.i64.wrap (n:Int)=(n:Int):=Io zM zM;have h48:¬(281474976710656<Builtin.nextslicecap n 0*i.bytes):=by
  have:=growslice_fits (need:=n) (old:=0) (bytes:=i.bytes) zM (by rw[hb];omega);omega
 have lN:=grownCap_ge W n 0 e;have af0:∀k,Builtin.zeroCells z.cells k=cf k (λ_=>z):=by
  intro k;apply Array.ext';rw[uA];simp[Builtin.zeroCells,cf,Nat.mod_one]
 have af1:cf n (λ_=>z)++cf (grownCap W n 0 e-n) (λ_=>z)=cf (grownCap W n 0 e) (λ_=>z):=by
  apply Array.ext';simp only[cf,Array.toList_append];rw[List.map_const',List.map_const',List.map_const'];simp only[List.length_range];rw[List.replicate_append_replicate];congr 1;omega
 rw[<-af1];simp[Builtin.append_,run_underlying ht,run_underlying htx,Go.sizeOf,typeInfo,zeroValue,hi,hz,asInt,asIntOf,hw,hs,hb,show ¬((n:Int)<0) by omega,show ¬(281474976710656<(n:Int)) by omega,Nat.not_le.2 h0,
  show ¬(9223372036854775807<(n:Int)) by omega,Question.forced,Builtin.firstCells,newRow,grownCap,af0,show n≠0 by omega]at h48 ⊢
 intro h;omega
structure qZ where
 b:Nat
 off:Nat
 n:Nat
 c:Nat
 m:Nat->Int
def qZ.val (s:qZ):Value:=.slice (some ⟨s.b,s.off,none⟩) s.n s.c
def ji (n:Nat) (m:Nat->Int):List Value:=(List.range n).map λi=>.int .u8 (m i)
def qZ.l (s:qZ):List Value:=ji s.n s.m
def qZ.At (s:qZ) (w:World):Prop:=∃cs t fr,w.heap[s.b]? =some (.cells cs t fr)/\s.off+s.n<=cs.size/\∀i,i<s.n->cs[s.off+i]? =some (.int .u8 (s.m i))
theorem wy(n:Nat)(m:Nat->Int):(ji n m).length=n:=by simp[ji]
theorem yY(n:Nat)(m:Nat->Int):∀u∈ji n m,u.oneCell'=true:=by
 intro u hu;obtain⟨i,_,rfl⟩:=bU.1 hu;rfl
variable {aD:Array Edge} {es:Array MapEntry} {ea:Array Nat} {ops:Array Oper} {cs:Array Value} {C:Cx} {R:Ending->World->Prop} {E:Env} {ex:Exit} {G:Gh} {H H' H0:ae} {K:IntKind} {eB:List (List Nat)} {ps:List (Nat×Operand)} {Ph:List (Option Value)->List World->ae->Prop} {ch ds rest:List Nat} {rs:List ResultVar} {ys zs:List UInt8} {news sp bK us vs:List Value} {L:List World} {N N' T b e f i j k kt m tx ty u:Nat} {fr:Nat×Nat} {o:Obj} {fv x:Operand} {hi:Option Operand} {pos:String} {sv v:Value} {W W' w':World}
theorem Zq{off n:Nat}{m:Nat->Int}(h:off+n<=cs.size)(hm:∀i,i<n->cs[off+i]? =some (.int .u8 (m i))):(cs.toList.drop off).take (n*1)=ji n m:=by
 apply vg;intro i;by_cases hi:i<n
 ·rw[Kn zM,wv,xO,hm i hi];simp[ji,hi]
 rw[tY jZ,tY (by rw[wy];omega)]
def nP:List qZ->List Value
 | []=>[]
 |s::ss=>s.l++nP ss
theorem nlo(ss:List qZ)(s:qZ):nP (ss++[s])=nP ss++s.l:=by
 induction ss with
 |nil=>simp[nP]
 |cons x ss ih=>simp[nP,ih]
theorem Zo(ss:List qZ)(j:Nat)(h:j<ss.length):nP (ss.take (j+1))=nP (ss.take j)++ss[j].l:=by
 rw[Ij h,nlo]
theorem ntg(ss:List qZ):∀j,(nP (ss.take j)).length<=(nP ss).length:=by
 induction ss with
 |nil=>intro j;simp[nP]
 |cons x ss ih=>intro j;cases j with
  |zero=>simp[nP]
  |succ j=>simp only[S1,nP,cF];have:=ih j;omega
section
variable {C:Cx} {Q:aG} {E:Env} {D:List Deferred} {G:Gh} {L:List World} {H:ae} {ops:Array Oper} {l:List Oper}
variable {d T ty f:Nat} {pos:String} {aD:Array Edge} {g:Option (Nat×Bool)} {x y:Operand}
theorem Zm{n t:Nat}{ti:TypeInfo}{z:Value}(hU:C.P.underlying t=some (.slice e))(hUx:C.P.underlying tx=some (.int .i64))(p4:C.P.info? e=some ti)(hz:ti.zero=some z)(uA:z.cells=#[z])(hs:ti.size=1)(hb:ti.bytes=1)(hw:nq ops E g=some true)(hN:Nat.blt d C.N=true)(hx:ev E x=some (.slice none 0 0))(hy:ev E y=some (.int .i64 (n:Int)))(h0:0<n)(h1:n<=1099511627776)(k:∀(b cap:Nat),ad L b->bE H b->n<=cap->OJ C ops Q l ((d,.slice (some ⟨b,0,none⟩) n cap)::E) D G L ((b,.cells (cf cap (λ_=>z)) e (0,0))::H)):OJ C ops Q (⟨some d,.call ⟨.builtin .append,#[x,y],#[t,tx]⟩,ty,pos,aD,g⟩::l) E D G L H:=
 pw z1 hw hN λa W hF hS=>by
  have hr:=nXh (P:=C.P) W t tx ty e ti z hU hUx p4 hz uA hs hb n h0 h1;have fZ:=(hS.step (FE W (W.drawn+1))).alloc (.cells (cf (grownCap W n 0 e) (λ_=>z)) e (0,0));refine⟨_,_,_,_,?_,fZ,k W.heap.size _ hS.sizes hS.offNew (grownCap_ge W n 0 e)⟩;simp[execOp,hF.ev hx,hF.ev hy,resolve,invoke,Deferred.ofValue,builtin,hr]
theorem VO{xs:List Operand}{α:Type}{v:α->Value}{bo:α->Nat×Obj}{Φ:α->Prop}(az:dR C.P f)(hw:nq ops E g=some true)(hN:Nat.blt d C.N=true)(ha:iv E xs=some vs)(hc:∀W,St G L H W->Calls C.P f vs.toArray W (cu W v (λx w1=>W.heap.size<=(bo x).1/\Φ x/\w1.heap[(bo x).1]? =some (bo x).2)))(k:∀x,ad L (bo x).1->bE H (bo x).1->Φ x->OJ C ops Q l ((d,v x)::E) D G L (bo x::H)):OJ C ops Q (⟨some d,.call ⟨.value (.func f),xs.toArray,ea⟩,ty,pos,aD,g⟩::l) E D G L H:=
 nZ rfl hw rfl ha z1 az λa W iu hD hF hS=>(hc W hS).mono (by
  rintro e W' ⟨x,rfl,hb,h1,h2,h3⟩;have mL:bE H (bo x).1:=bE.of_mem λhm=>by
   obtain⟨p,hp,e⟩:=bU.1 hm;have:=hS.lt p hp;omega
  have sG:ad L (bo x).1:=ad.of_mem λw hw=>aS (hS.links w hw).size h1;exact k x sG mL h2 (a.put (some d) (v x)) W' kO jW (hF.put _ lM)
   ((hS.step hb).adopt h3 mL (λhv=>by have:=hS.vlt _ hv;omega)))
def sB (s:ByteArray) (i:Nat):Int:=((s.data[i]?.getD 0).toNat:Int)
theorem nrm(s:ByteArray)(c i:Nat)(h:i<s.size):(bytesRow s c)[0+i]? =some (.int .u8 (sB s i)):=by
 have h':i<s.data.size:=h;rw[i6];unfold bytesRow sB;rw[PS (by simpa using h')];simp only[Array.getElem?_map,HX h',wI,Option.getD_some]
theorem nDk(s:ByteArray)(c:Nat):s.size<=(bytesRow s c).size:=by
 unfold bytesRow;simp only[Array.size_append,Array.size_map];exact Nat.le_add_right _ _
theorem QF{src dst:Nat}{s:ByteArray}(hs:C.P.underlying src=some .string)(hd:C.P.underlying dst=some (.slice e))(he:C.P.underlying e=some (.int .u8))(hw:nq ops E g=some true)(hN:Nat.blt d C.N=true)(hx:ev E x=some (.string s))(k:∀(b cap:Nat) (w1:World) (cs:Array Value) (fr:Nat×Nat),w1.heap[b]? =some (.cells cs e fr)->ad L b->bE H b->¬G.X b->w1.heap.size=b+1->s.size<=cap->0+s.size<=cs.size->(∀i,i<s.size->cs[0+i]? =some (.int .u8 (sB s i)))->OJ C ops Q l ((d,.slice (some ⟨b,0,none⟩) s.size cap)::E) D G (w1::L) H):OJ C ops Q (⟨some d,.convert src dst x,ty,pos,aD,g⟩::l) E D G L H:=
 pw z1 hw hN λa W hF hS=>by
  have hr:=run_bytes_of_string (P:=C.P) W src dst e s hs hd he;have fZ:=((hS.step (FE W (W.drawn+1))).step (TI _ (.cells (bytesRow s (grownCap W s.size 0 e)) e ((bytesRow s (grownCap W s.size 0 e)).size,(bytesRow s (grownCap W s.size 0 e)).size+1)))).snap;refine⟨_,_,_,_,?_,fZ,k W.heap.size _ _ _ _ (heap_alloc_new W.drew _) hS.sizes hS.offNew hS.mNew z1 (grownCap_ge W s.size 0 e) (by rw[i6];exact nDk s _) (λi hi=>nrm s _ i hi)⟩;simp[execOp,hF.ev hx,hr]
theorem um{n:Nat}{z:Value}{vs:List (Nat×Value)}(hU:C.P.underlying T=some (.array n e))(hz:uY C.P T z)(hp:n9 C.P e m)(ha:H3 E ps=some vs)(hs:vs=u5 0 (vs.map (·.2)))(hl:z.cells.size=vs.length*m)(hm:N7 m (vs.map (·.2))=true):RV C G L H E (.build T ps.toArray) (.agg (H4 (vs.map (·.2))).toArray):=λd ty pos aD g a W hF _=>by
 have hf:=N6 (pl:=λi=>some (i*m,m)) (ps:=vs) (cs:=z.cells) (ds:=H4 (vs.map (·.2))) (by
  have:=Vk m (vs.map (·.2)) 0 [] z.cells.toList hm z1 xZ;rw[<-hs,dX,dX]at this;exact this)
 have h2:(ps.toArray).map (λ(i,x)=>(i,a.eval x))=vs.toArray:=by rw[yt,N5 hF ps vs ha]
 simp[execOp,h2,Instr.build,hz W,run_underlying hU,hp W,hf]
theorem QA(hU:C.P.underlying T=some (.slice e))(hZ:n9 C.P e m)(hx:ev E x=some (.slice none 0 0))(hh:BE E hi 0 0):RV C G L H E (.slice T x none hi none) (.slice none 0 0):=λd ty pos aD g a W hF _=>by
 have:=nLk (P:=C.P) (W:=W) hF true (lo:=none) (hi:=hi) (n:=0) (c:=0) (l:=0) (h:=0) rfl hh (ao _) (ao _);simp only[Option.map_none]at this;simp[execOp,hF.ev hx,Instr.sliceAt,Instr.slice,run_underlying hU,this,hZ W]
end
end Px
namespace Px

end Px
namespace Px
open Go Go.RowKit
/-! ### rows of bytes -/
def ub (l:List UInt8):List Value:=l.map λb=>Value.int .u8 b.toNat
theorem wD(l:List UInt8):(ub l).length=l.length:=by simp[ub]
theorem zq(a b:List UInt8):ub (a++b)=ub a++ub b:=by simp[ub]
theorem ZR(l:List UInt8):∀u∈ub l,u.oneCell'=true:=by
 intro u hu;obtain⟨i,_,rfl⟩:=bU.1 hu;rfl
def fU (l:List UInt8) (i:Nat):Int:=((l[i]?.getD 0).toNat:Int)
theorem nsn(l:List UInt8):ub l=ji l.length (fU l):=by
 apply vg;intro i;by_cases h:i<l.length
 ·simp[ub,ji,fU,h]
 rw[tY (by rw[wD];omega),tY (by rw[wy];omega)]
theorem QX(l:List UInt8)(sp:List Value)(i:Nat)(h:i<l.length):((ub l++sp).toArray)[0+i]? =some (.int .u8 (fU l i)):=by
 rw[i6,Dr,xP (by rw[wD];exact h)];simp[ub,fU,h]
abbrev bA (b n cap:Nat):Value:=.slice (some ⟨b,0,none⟩) n cap
abbrev bh (e:Nat) (xs:List UInt8) (sp:List Value):Obj:=.cells (ub xs++sp).toArray e (0,0)
structure cJ (xs:List UInt8) (cap:Nat) (sp:List Value):Prop where
 le:xs.length<=cap
 sp:sp.length=cap-xs.length
structure vh (P:Program) (t e:Nat):Prop where
 und:P.underlying t=some (.slice e)
 el:P.underlying e=some (.int .u8)
 info:∃ti,P.info? e=some ti/\ti.zero=some (.int .u8 0)/\ti.size=1/\ti.bytes=1
 sz:n9 P e 1
section
variable {G:Gh} {L:List World} {H:ae} {W:World}
variable {b i:Nat} {o:Obj}
theorem St.renewF(h:St G L H W)(o':Obj)(hi:H[i]? =some (b,o))(ha:Fr G L b):St G L (H.set i (W.heap.size,o')) (W.alloc o'):=by
 have tw:=(gD.1 hi).1;have hp:H.Perm ((b,o)::H.eraseIdx i):=Oa H i _ hi;exact(((h.perm hp).dropF ha).alloc o').perm (YG H i _ tw).symm
theorem St.dropAtF(h:St G L H W)(hi:H[i]? =some (b,o))(ha:Fr G L b):St G L (H.eraseIdx i) W:=
 (h.perm (Oa H i _ hi)).dropF ha
theorem Fr.up(h:St G L H W)(hb:W.heap.size<=b):Fr G L b:=.inr (ad.of_mem λw hw=>aS (h.links w hw).size hb)
theorem J9(h:St G L H W)(hb:W.heap.size<=b):ad L b:=ad.of_mem λw hw=>aS (h.links w hw).size hb
theorem C5(h:St G L H W)(hb:W.heap.size<=b):bE H b:=bE.of_mem λhm=>by
 obtain⟨p,hp,e⟩:=bU.1 hm;have:=h.lt p hp;omega
variable {news sp:List Value} {e m tx ty:Nat} {sv:Value}
theorem St.app{P:Program}{n len cap t:Nat}{ti:TypeInfo}{z:Value}{ys:List Value}(hS:St G L H W)(hi:H[i]? =some (b,.cells (ys++sp).toArray e (0,0)))(hU:P.underlying t=some (.slice e))(p4:P.info? e=some ti)(hz:ti.zero=some z)(hm:ti.size=m)(Al:z.cells.size=m)(sX:Src P m tx sv n news W)(hlen:ys.length=len*m)(zu:sp.length=(cap-len)*m)(ZO:len<=cap)(ha:Fr G L b)(h63:len+n<=9223372036854775807)(ou:(len+n)*ti.bytes<=140737488355328):∃b' aT bK W',(Builtin.append_ #[t,tx] ty #[.slice (some ⟨b,0,none⟩) len cap,sv]).run P W= .ok (.slice (some ⟨b',0,none⟩) (len+n) aT) W'/\St G L (H.set i (b',.cells (ys++news++bK).toArray e (0,0))) W'/\(b'=b\/W.heap.size<=b')/\len+n<=aT/\bK.length=(aT-(len+n))*m:=by
 subst hm;have hb:=hS.own _ (cC hi);have LW:=sX.newsLen;by_cases iY:len+n<=cap
 ·have hle:(len+n)*ti.size<=cap*ti.size:=uF _ iY;have jy:(ys++sp).toArray.size=cap*ti.size:=by
   simp only[rH,cF,hlen,zu];rw[<-lI];congr 1;omega
  rw[lI]at hle;have hr:=run_append_room_src (P:=P) W t tx ty e ti hU p4 b 0 len cap sv n news sX iY
   (λj hj=>by rw[Dz hb];simp only[i6];rw[HX zM];rfl)
   (λj hj=>by simp[World.frozen?,hb])
  obtain⟨h1,h2⟩:=nae b news (0+len*ti.size) W _ _ hb;have ki:(sp.drop (n*ti.size)).length=(cap-(len+n))*ti.size:=by
   rw[Az,zu,<-Nat.sub_mul];congr 1;omega
  have hc:setCells (ys++sp).toArray (0+len*ti.size) news=(ys++news++sp.drop (n*ti.size)).toArray:=by
   exact zRj
  rw[hc]at h2;exact⟨_,_,_,_,hr,hS.put hi h1 h2,.inl rfl,iY,ki⟩
 have hold:(Builtin.firstCells ti.size len (.slice (some ⟨b,0,none⟩) len cap)).run P W.drew= .ok ys.toArray W.drew:=by
  exact zfk
 have hr:=run_append_grow_src (P:=P) W t tx ty e ti z hU p4 hz (some ⟨b,0,none⟩) len cap ys hold sv n news sX zM zM (growslice_fits zM ou);have hg:=grownCap_ge W (len+n) cap e;have fZ:=(hS.step (FE W (W.drawn+1))).renewF (.cells ((ys++news).toArray++Builtin.zeroCells z.cells (grownCap W (len+n) cap e-(len+n))) e (0,0)) hi ha;have IZ:(Builtin.zeroCells z.cells (grownCap W (len+n) cap e-(len+n))).toList.length=(grownCap W (len+n) cap e-(len+n))*ti.size:=by
  simp[Builtin.zeroCells,Al]
 have hc:(ys++news).toArray++Builtin.zeroCells z.cells (grownCap W (len+n) cap e-(len+n))=(ys++news++(Builtin.zeroCells z.cells (grownCap W (len+n) cap e-(len+n))).toList).toArray:=by
  apply Array.ext';simp
 rw[hc]at fZ hr;exact⟨_,_,_,_,hr,fZ,.inr (ao _),hg,IZ⟩
theorem St.appN{P:Program}{n t:Nat}{ti:TypeInfo}{z:Value}(hS:St G L H W)(hU:P.underlying t=some (.slice e))(p4:P.info? e=some ti)(hz:ti.zero=some z)(hm:ti.size=m)(Al:z.cells.size=m)(sX:Src P m tx sv n news W)(h0:0<n)(h63:n<=9223372036854775807)(ou:n*ti.bytes<=140737488355328):∃aT bK W',(Builtin.append_ #[t,tx] ty #[.slice none 0 0,sv]).run P W= .ok (.slice (some ⟨W.heap.size,0,none⟩) n aT) W'/\St G L ((W.heap.size,.cells (news++bK).toArray e (0,0))::H) W'/\n<=aT/\bK.length=(aT-n)*m:=by
 subst hm;have hold:(Builtin.firstCells ti.size 0 (.slice none 0 0)).run P W.drew= .ok ([]:List Value).toArray W.drew:=by simp[Builtin.firstCells]
 have hr:=run_append_grow_src (P:=P) W t tx ty e ti z hU p4 hz none 0 0 [] hold sv n news sX zM zM (growslice_fits zM (by rw[i6];exact ou));rw[i6]at hr;have hg:=grownCap_ge W n 0 e;have fZ:=(hS.step (FE W (W.drawn+1))).alloc (.cells (([]++news:List Value).toArray++Builtin.zeroCells z.cells (grownCap W n 0 e-n)) e (0,0));have hc:([]++news:List Value).toArray++Builtin.zeroCells z.cells (grownCap W n 0 e-n)=(news++(Builtin.zeroCells z.cells (grownCap W n 0 e-n)).toList).toArray:=by
  apply Array.ext';simp
 rw[hc]at fZ hr;exact⟨_,_,_,hr,fZ,hg,by simp[Builtin.zeroCells,Al]⟩
end
section
variable {C:Cx} {Q:aG} {E:Env} {D:List Deferred} {G:Gh} {L:List World} {H:ae} {ops:Array Oper} {l:List Oper}
variable {d T ty f:Nat} {pos:String} {aD:Array Edge} {g:Option (Nat×Bool)} {x y:Operand} {xs:List Operand} {vs:List Value} {ea:Array Nat}
def iw (C:Cx) (G:Gh) (L:List World) (H:ae) (tx:Nat) (sv:Value) (zs:List UInt8):Prop:=jJ C G L H 1 tx sv zs.length (ub zs)
variable {zs:List UInt8} {sp:List Value} {b i tx:Nat} {fr:Nat×Nat}
theorem iw.own{e' c t:Nat}(hU:C.P.underlying tx=some (.slice e'))(hi:H[i]? =some (b,.cells (ub zs++sp).toArray t fr)):iw C G L H tx (bA b zs.length c) zs:=
 jJ.sl hU (Rd.own hi (by simp only[rH,cF,wD];omega) (by simp only[Rs,tX];rw[<-wD zs,Ro rfl])) (by rw[wD,tX]) (ZR _)
theorem iw.str{s:ByteArray}(hU:C.P.underlying tx=some .string):iw C G L H tx (.string s) s.data.toList:=
 ⟨.inr hU,λ_=>rfl,Rd.str,by rw[wD,tX],ZR _⟩
variable {e:Nat} {sv:Value}
theorem It{cap t:Nat}{xs:List UInt8}(hi:H[i]? =some (b,bh e xs sp))(hB:vh C.P t e)(hw:nq ops E g=some true)(hN:Nat.blt d C.N=true)(hx:ev E x=some (bA b xs.length cap))(hy:ev E y=some sv)(hs:iw C G L H tx sv zs)(hr:cJ xs cap sp)(ha:Fr G L b)(gU:xs.length+zs.length<=1000000000000)(k:∀(b' aT:Nat) (bK:List Value),Fr G L b'->cJ (xs++zs) aT bK->OJ C ops Q l ((d,bA b' (xs++zs).length aT)::E) D G L (H.set i (b',bh e (xs++zs) bK))):OJ C ops Q (⟨some d,.call ⟨.builtin .append,#[x,y],#[t,tx]⟩,ty,pos,aD,g⟩::l) E D G L H:=
 pw z1 hw hN λa W hF hS=>by
  obtain⟨ti,p4,hz,jy,o8⟩:=hB.info;obtain⟨b',aT,bK,W',gy,fZ,eI,xF,ki⟩:=hS.app (P:=C.P) (ty:=ty) hi hB.und p4 hz jy rfl (hs.src hS) (by rw[wD,tX]) (by rw[hr.sp,tX]) hr.le ha zM (by rw[o8];omega);have Vm:Fr G L b':=by
   rcases eI with rfl|eI
   ·exact ha
   exact Fr.up hS eI
  have hl:(xs++zs).length=xs.length+zs.length:=cF;refine⟨.slice (some ⟨b',0,none⟩) (xs.length+zs.length) aT,W',L,_,?_,fZ,?_⟩
  ·simp[execOp,hF.ev hx,hF.ev hy,resolve,invoke,Deferred.ofValue,builtin,gy]
  have:=k b' aT bK Vm ⟨by rw[hl];exact xF,by rw[hl,ki,tX]⟩;rw[hl]at this;simpa only[bh,zq]using this
theorem apN{t:Nat}(hB:vh C.P t e)(hw:nq ops E g=some true)(hN:Nat.blt d C.N=true)(hx:ev E x=some (.slice none 0 0))(hy:ev E y=some sv)(hs:iw C G L H tx sv zs)(h0:0<zs.length)(gU:zs.length<=1000000000000)(k:∀(b' aT:Nat) (bK:List Value),ad L b'->bE H b'->¬G.X b'->cJ zs aT bK->OJ C ops Q l ((d,bA b' zs.length aT)::E) D G L ((b',bh e zs bK)::H)):OJ C ops Q (⟨some d,.call ⟨.builtin .append,#[x,y],#[t,tx]⟩,ty,pos,aD,g⟩::l) E D G L H:=
 pw z1 hw hN λa W hF hS=>by
  obtain⟨ti,p4,hz,jy,o8⟩:=hB.info;obtain⟨aT,bK,W',gy,fZ,xF,ki⟩:=hS.appN (P:=C.P) (ty:=ty) hB.und p4 hz jy rfl (hs.src hS) h0 zM (by rw[o8];omega);refine⟨.slice (some ⟨W.heap.size,0,none⟩) zs.length aT,W',L,_,?_,fZ,k W.heap.size aT bK hS.sizes hS.offNew hS.mNew ⟨xF,by rw[ki,tX]⟩⟩;simp[execOp,hF.ev hx,hF.ev hy,resolve,invoke,Deferred.ofValue,builtin,gy]
/-! #### functions that are lent a row and give one back -/
def Kt (w:World) (b e:Nat) (ys:List UInt8):Ending->World->Prop:=λed w'=>
 ∃b' aT bK,ed= .returned (bA b' ys.length aT)/\aI (· =b) w w'/\(b'=b\/w.heap.size<=b')/\cJ ys aT bK/\w'.heap[b']? =some (bh e ys bK)
def ZL (w:World) (e:Nat) (ys:List UInt8):Ending->World->Prop:=λed w'=>
 ∃b' aT bK,ed= .returned (bA b' ys.length aT)/\Below w.heap.size w w'/\w.heap.size<=b'/\cJ ys aT bK/\w'.heap[b']? =some (bh e ys bK)
variable {o:Obj}
theorem y6{w:World}(h:w.heap[b]? =some o):St (Gh.lent (· =b)) [w] [(b,o)] w where
 ghost:=trivial
 vlt:=λ_ h=>h.elim
 xlt:=λk hk=>by
  have:k=b:=hk;subst this;exact(aM.1 h).1
 links:=λw' hw=>by simp at hw;subst hw;exact aI.refl _ _
 own:=λp hp=>by simp at hp;subst hp;exact h
 nodup:=λi j p q hi hj _=>by
  have h1:=(gD.1 hi).1;have h2:=(gD.1 hj).1;simp at h1 h2;omega
 apart:=λ_ _ h=>h.elim
def jz (Z:Nat->Prop) (n:Nat):ae->Prop
 | []=>True
 |p::H=>(Z p.1\/n<=p.1)/\jz Z n H
theorem jz.mem{Z:Nat->Prop}{n:Nat}(h:jz Z n H):∀p∈H,Z p.1\/n<=p.1:=by
 exact zrk
variable {W:World}
theorem St.baseX{Z:Nat->Prop}{w:World}(h:St (Gh.lent Z) L H W)(hw:w∈L)(ho:jz Z w.heap.size H):aI Z w W:=
 (h.links w hw).mono λk hk hx=>by
  rcases hx with hx|hx
  ·exact hx
  obtain⟨p,hp,rfl⟩:=bU.1 hx;rcases ho.mem p hp with h|h
  ·exact h
  omega
section
variable {fn:Func}
variable {ex:Exit} {ys:List UInt8} {bK:List Value}
theorem VU{t b' aT:Nat}{w:World}(he:ex= .ret\/ex= .normal)(hr:fn.results=#[.tmp t])(hv:look E t=some (bA b' ys.length aT))(hi:H[i]? =some (b',bh e ys bK))(hw:w∈L)(ho:jz (· =b) w.heap.size H)(hk:cJ ys aT bK):PJ C (bodyPost C.P fn (Kt w b e ys)) ex E [] (Gh.lent (· =b)) L H:=
 bH he (rs:=[.tmp t]) hr (RS.t hv RS.n) λW hS=>⟨b',aT,bK,rfl,hS.baseX hw ho,ho.mem _ (cC hi),hk,hS.own _ (cC hi)⟩
theorem KB{t b' aT:Nat}{w:World}(he:ex= .ret\/ex= .normal)(hr:fn.results=#[.tmp t])(hv:look E t=some (bA b' ys.length aT))(hi:H[i]? =some (b',bh e ys bK))(hw:w∈L)(ho:Over w.heap.size H)(hk:cJ ys aT bK):PJ C (bodyPost C.P fn (ZL w e ys)) ex E [] Gh.no L H:=
 bH he (rs:=[.tmp t]) hr (RS.t hv RS.n) λW hS=>⟨b',aT,bK,rfl,hS.base hw ho,ho.mem _ (cC hi),hk,hS.own _ (cC hi)⟩
end
variable {ys:List UInt8}
theorem OL{first cap:List Value}(hi:H[i]? =some (b,o))(hx:ev E x=some (.func (.func f) first.toArray cap.toArray))(az:dR C.P f)(hw:nq ops E g=some true)(hN:Nat.blt d C.N=true)(ha:iv E xs=some vs)(hF:Fr G L b)(hc:∀W,St G L H W->W.heap[b]? =some o->Calls C.P f (first++vs++cap).toArray W (Kt W b e ys))(k:∀b' aT bK,Fr G L b'->cJ ys aT bK->OJ C ops Q l ((d,bA b' ys.length aT)::E) D G L (H.set i (b',bh e ys bK))):OJ C ops Q (⟨some d,.call ⟨.value x,xs.toArray,ea⟩,ty,pos,aD,g⟩::l) E D G L H:=
 nZ rfl hw hx ha z1 az λa W iu hD J4 hS=>(hc W hS (hS.own _ (cC hi))).mono (by
  rintro ed W' ⟨b',aT,bK,rfl,hk,eI,hr,gn⟩;have Uw:=λVm fZ=>k b' aT bK Vm hr (a.put (some d) (bA b' ys.length aT)) W' kO jW (J4.put _ lM) fZ;rcases eI with rfl|eI
  ·exact Uw hF (hS.put hi hk gn)
  refine Uw (Fr.up hS eI) ?_;have jH:=(aM.1 (hS.own _ (cC hi))).1;obtain⟨ob,pb⟩:∃ob,W'.heap[b]? =some ob:=⟨W'.heap[b]'(kJ jH hk.size),HX _⟩;have h1:=hS.put hi hk pb;have tw:=(gD.1 hi).1;have h2:(H.set i (b,ob))[i]? =some (b,ob):=by rw[JU tw]
  have h3:=(h1.perm (Oa _ _ _ h2)).dropF hF;have hse:(H.set i (b,ob)).eraseIdx i=H.eraseIdx i:=by rw[List.eraseIdx_set_eq]
  rw[hse]at h3;have mL:bE (H.eraseIdx i) b':=bE.of_mem λhm=>by
   obtain⟨p,hp,e⟩:=bU.1 hm;have:=hS.lt p (List.mem_of_mem_eraseIdx hp);omega
  have h4:=h3.adopt gn mL (λhv=>by have:=hS.vlt _ hv;omega);exact h4.perm (YG H i _ tw).symm)
theorem OJ.dropF(hi:H[i]? =some (b,o))(ha:Fr G L b)(k:OJ C ops Q l E D G L (H.eraseIdx i)):OJ C ops Q l E D G L H:=λa W hN hD hF hS=>k a W hN hD hF (hS.dropAtF hi ha)
variable {ps:List (Nat×Operand)}
theorem OI{n:Nat}{z:Value}{vs:List (Nat×Value)}(zs:List UInt8)(hB:vh C.P T e)(hz:uY C.P e z)(hw:nq ops E g=some true)(hN:Nat.blt d C.N=true)(ha:H3 E ps=some vs)(N8:Nat.ble (n*1) 16777216=true)(hs:vs=u5 0 (vs.map (·.2)))(hl:vs.length=n)(hm:N7 1 (vs.map (·.2))=true)(Al:H4 (vs.map (·.2))=ub zs)(hn:n=zs.length)(k:∀(b:Nat),ad L b->bE H b->¬G.X b->cJ zs n []->OJ C ops Q l ((d,bA b zs.length n)::E) D G L ((b,bh e zs [])::H)):OJ C ops Q (⟨some d,.buildSlice T n ps.toArray,ty,pos,aD,g⟩::l) E D G L H:=
 pw z1 hw hN λa W hF hS=>⟨_,_,_,_,nEd hB.und hB.sz hz (N5 hF ps vs ha) N8 (N6 (by
  have:=Vk 1 (vs.map (·.2)) 0 [] ((Array.range (n*1)).map (λj=>((if n*1=0 then #[]else z.cells)[j%(if n*1=0 then #[]else z.cells).size]!))).toList hm z1 (by rw[n8g,fl,hl]);rw[<-hs,dX,dX]at this;exact this)),hS.alloc _,by
   have:=k W.heap.size hS.sizes hS.offNew hS.mNew ⟨by omega,by simp;omega⟩;rw[Al];simp only[bh,dE]at this;rw[<-hn]at this;exact this⟩
end
/-! ### values of the codec -/
inductive V where
 |int (n:Int)
 |text (s:ByteArray)
 |list (l:List V)
theorem V.ind{p:V->Prop}(h1:∀n,p (.int n))(h2:∀s,p (.text s))(h3:∀l,(∀y∈l,p y)->p (.list l)):∀x,p x:=by
 intro x;exact V.rec (motive_1:=p) (motive_2:=λl=>∀y∈l,p y) h1 h2 h3 z1 (λx l hx hl y hy=>by
  rcases cP.1 hy with rfl|hy
  ·exact hx
  exact hl y hy) x
def V.kind:V->Int
 | .int _=>1
 | .text _=>2
 | .list _=>3
def num (u:Nat):List UInt8:=if h:u<128 then[UInt8.ofNat u]else UInt8.ofNat (u%128+128)::num (u/128)
termination_by u
decreasing_by omega
variable {u:Nat}
theorem QP(h:u<128):num u=[UInt8.ofNat u]:=by rw[num,dif_pos h]
theorem Zx(h:¬u<128):num u=UInt8.ofNat (u%128+128)::num (u/128):=by rw[num,dif_neg h]
theorem EO(u:Nat):0<(num u).length:=by
 by_cases h:u<128
 ·rw[QP h];simp
 rw[Zx h];simp
theorem ngn:∀(k u:Nat),u<128^k->0<k->(num u).length<=k
 |0,_,_,h=>by omega
 |k+1,u,hu,_=>by
  by_cases h:u<128
  ·rw[QP h];simp
  rw[Zx h];simp only[dW];cases k with
  |zero=>simp at hu;omega
  |succ k=>
   have h2:u/128<128^(k+1):=Nat.div_lt_of_lt_mul (by rw[Nat.pow_succ,sY]at hu;exact hu);have:=ngn (k+1) (u/128) h2 zM;omega
theorem Dt(h:u<18446744073709551616):(num u).length<=10:=ngn 10 u (kJ h zQ) zM
def EM (n:Int):Nat:=if 0<=n then(2*n).toNat else(-2*n-1).toNat
mutual
def V.enc:V->List UInt8
 | .int n=>1::num (EM n)
 | .text s=>2::(num s.size++s.data.toList)
 | .list l=>3::(num l.length++V.encL l)
def V.encL:List V->List UInt8
 | []=>[]
 |x::l=>V.enc x++V.encL l
end
mutual
def V.depth:V->Nat
 | .int _=>0
 | .text _=>0
 | .list l=>V.depthL l+1
def V.depthL:List V->Nat
 | []=>0
 |x::l=>max (V.depth x) (V.depthL l)
end
theorem V.encL_take_le(l:List V):∀i,(V.encL (l.take i)).length<=(V.encL l).length:=by
 induction l with
 |nil=>intro i;simp[V.encL]
 |cons x l ih=>intro i;cases i with
  |zero=>simp[V.encL]
  |succ i=>simp only[S1,V.encL,cF];have:=ih i;omega
theorem V.depthL_snoc(l:List V)(x:V):V.depthL (l++[x])=max (V.depthL l) x.depth:=by
 induction l with
 |nil=>simp[V.depthL]
 |cons y l ih=>simp only[eY,V.depthL,ih];omega
theorem V.depthL_take(l:List V)(i:Nat)(h:i<l.length):V.depthL (l.take (i+1))=max (V.depthL (l.take i)) (l[i]).depth:=by
 rw[Ij h,V.depthL_snoc]
mutual
def V.fine:V->Prop
 | .int n=> -9223372036854775808<=n/\n<=9223372036854775807
 | .text s=>s.size<=1000000000
 | .list l=>l.length<=1000000000/\V.depthL l<=1000000000/\V.fineL l
def V.fineL:List V->Prop
 | []=>True
 |x::l=>V.fine x/\V.fineL l
end
theorem V.fineL_mem:∀{l:List V},V.fineL l->∀x∈l,x.fine
 | [],_,x,hx=>by cases hx
 |y::l,h,x,hx=>by
  simp only[V.fineL]at h;rcases cP.1 hx with rfl|hx
  ·exact h.1
  exact V.fineL_mem h.2 x hx
theorem V.depthL_mem:∀{l:List V} (x:V),x∈l->x.depth<=V.depthL l
 | [],x,hx=>by cases hx
 |y::l,x,hx=>by
  simp only[V.depthL];rcases cP.1 hx with rfl|hx
  ·omega
  have:=V.depthL_mem (l:=l) x hx;omega
abbrev vI (n:Int):Value:=.agg #[.int .i64 1,.int .i64 n,.string ⟨#[]⟩,.slice none 0 0]
abbrev vT (s:ByteArray):Value:=.agg #[.int .i64 2,.int .i64 0,.string s,.slice none 0 0]
abbrev vL (base:Option Addr) (n cap:Nat):Value:=.agg #[.int .i64 3,.int .i64 0,.string ⟨#[]⟩,.slice base n cap]
mutual
def ef (N:Nat) (w:World):V->Value->Prop
 | .int n,v=>v=vI n
 | .text s,v=>v=vT s
 | .list l,v=>∃base cap,v=vL base l.length cap/\l.length<=cap/\(l=[]\/∃b cs t fr,base=some ⟨b,0,none⟩/\b<N/\w.heap[b]? =some (.cells cs t fr)/\fb N w cs 0 l)
def fb (N:Nat) (w:World) (cs:Array Value):Nat->List V->Prop
 |_,[]=>True
 |off,x::l=>off+4<=cs.size/\ef N w x (.agg (cut cs off 4))/\fb N w cs (off+4) l
end
theorem fb.get{N:Nat}{w:World}{cs:Array Value}:∀{l:List V} {off:Nat},fb N w cs off l->∀(i:Nat) (h:i<l.length),off+4*i+4<=cs.size/\ef N w l[i] (.agg (cut cs (off+4*i) 4))
 | [],_,_,i,h=>by simp at h
 |x::l,off,hv,i,h=>by
  simp only[fb]at hv;cases i with
  |zero=>exact⟨by omega,hv.2.1⟩
  |succ i=>
   have:=fb.get hv.2.2 i rB;rw[show off+4*(i+1)=off+4+4*i by omega];simpa using this
variable {N N':Nat} {w':World}
theorem ef.up{w:World}(hN:N<=N')(hw:∀k,k<N->w'.heap[k]? =w.heap[k]?):∀(x:V) (v:Value),ef N w x v->ef N' w' x v:=by
 refine V.ind ?_ ?_ ?_
 ·intro n v h;simpa only[ef]using h
 ·intro s v h;simpa only[ef]using h
 intro l ih v h;simp only[ef]at h ⊢;obtain⟨base,cap,hv,hc,hl⟩:=h;refine⟨base,cap,hv,hc,?_⟩;rcases hl with hl|⟨b,cs,t,fr,hb,hlt,hcs,hs⟩
 ·exact .inl hl
 refine .inr ⟨b,cs,t,fr,hb,by omega,(hw b hlt).trans hcs,?_⟩;clear hb hlt hcs hc hv;generalize 0=off at *;induction l generalizing off with
 |nil=>simp only[fb]
 |cons x l ihl=>
  simp only[fb]at hs ⊢;exact⟨hs.1,ih x z1 _ hs.2.1,ihl (λy hy=>ih y (by simp[hy])) _ hs.2.2⟩
theorem ef.shape{w:World}:∀{x:V} {v:Value},ef N w x v->∃n s p m c,v= .agg #[.int .i64 x.kind,.int .i64 n,.string s,.slice p m c]
 | .int n,v,h=>by simp only[ef]at h;exact⟨_,_,_,_,_,h⟩
 | .text s,v,h=>by simp only[ef]at h;exact⟨_,_,_,_,_,h⟩
 | .list l,v,h=>by simp only[ef]at h;obtain⟨_,_,h,_⟩:=h;exact⟨_,_,_,_,_,h⟩
variable {G:Gh} {H:ae} {L:List World} {W:World}
theorem St.same{w:World}(h:St G L H W)(hw:w∈L)(hN:N<=w.heap.size)(hX:∀k,k<N->¬G.X k)(hH:Over N H):∀k,k<N->W.heap[k]? =w.heap[k]? :=λk hk=>
 (h.links w hw).block k zM (λhx=>by
  rcases hx with hx|hx
  ·exact hX k hk hx
  obtain⟨p,hp,rfl⟩:=bU.1 hx;have:=hH.mem p hp;omega)
section
variable {C:Cx} {Q:aG} {E:Env} {D:List Deferred} {G:Gh} {L:List World} {H:ae} {ops:Array Oper} {l:List Oper}
variable {d T U ty f:Nat} {pos:String} {aD:Array Edge} {g:Option (Nat×Bool)} {x y:Operand} {xs:List Operand} {vs:List Value} {ea:Array Nat}
theorem rL{s:ByteArray}{t:Nat}(hU:C.P.underlying t=some .string)(hx:ev E x=some (.string s)):RV C G L H E (.call ⟨.builtin .len,#[x],#[t]⟩) (.int .i64 (s.size:Int)):=λd ty pos aD g a W hF _=>by
 simp[execOp,hF.ev hx,resolve,invoke,Deferred.ofValue,builtin,Builtin.len_,run_underlying hU,goInt]
theorem ud{s t:ByteArray}(hx:ev E x=some (.string s))(hy:ev E y=some (.string t)):RV C G L H E (.binOp .eql T x y U) (.bool (s.toList==t.toList)):=λd ty pos aD g a W hF _=>by
 simp[execOp,eqGuard,binOp,Op.stringOp,hF.ev hx,hF.ev hy]
variable {K:IntKind}
theorem za{m n:Int}{t1 t2:Nat}(hx:ev E x=some (.int K m))(hy:ev E y=some (.int K n)):RV C G L H E (.call ⟨.builtin .max,#[x,y],#[t1,t2]⟩) (.int K (max m n)):=λd ty pos aD g a W hF _=>by
 have:(if m<n then n else m)=max m n:=by omega
 simp[execOp,hF.ev hx,hF.ev hy,resolve,invoke,Deferred.ofValue,builtin,Builtin.max_,Builtin.max2,this]
end
/-! #### the steps of a chain -/
section
variable {C:Cx} {Q:aG} {E:Env} {D:List Deferred} {G:Gh} {L:List World} {H:ae} {id:Nat}
def Eo (C:Cx) (ops:Array Oper) (G:Gh) (E:Env) (sp:Sp) (ch:List Nat) (Ph:List Value->List World->ae->Prop):List Oper->Sp->Prop
 |o::l,(ds,some u)::ss=>(∀cv L' H',NU ch ds cv.length=true->Ph cv L' H'->X C ops G L' H' (dx ops sp ch cv ds++E) (λ_=>True) o (λv _=>v=u))/\Eo C ops G E sp ch Ph l ss
 |_::l,(_,none)::ss=>Eo C ops G E sp ch Ph l ss
 |_,_=>True
theorem YI{ops:Array Oper}{sp:Sp}{ch:List Nat}{Ph:List Value->List World->ae->Prop}:∀(l:List Oper) (ss:Sp),Eo C ops G E sp ch Ph l ss->∀(i:Nat) (o:Oper) (ds:List Nat) (u:Value),l[i]? =some o->ss[i]? =some (ds,some u)->∀cv L' H',NU ch ds cv.length=true->Ph cv L' H'->X C ops G L' H' (dx ops sp ch cv ds++E) (λ_=>True) o (λv _=>v=u)
 | [],_,_,i,o,ds,u,hl,_=>by simp at hl
 |_::_,[],_,i,o,ds,u,_,hs=>by simp at hs
 |o'::l,(sW,some u')::ss,h,i,o,ds,u,hl,hs=>by
  cases i with
  |zero=>simp at hl hs;obtain⟨rfl,rfl⟩:=hs;subst hl;exact h.1
  |succ i=>exact YI l ss h.2 i o ds u xZ (by simpa using hs)
 |o'::l,(sW,none)::ss,h,i,o,ds,u,hl,hs=>by
  cases i with
  |zero=>simp at hs
  |succ i=>exact YI l ss h i o ds u xZ (by simpa using hs)
variable {ops:Array Oper} {ch ds:List Nat}
theorem pc{sp:Sp}{Ph:List Value->List World->ae->Prop}{o:Oper}{l:List Oper}{u:Value}{ss:Sp}(h:∀cv L' H',NU ch ds cv.length=true->Ph cv L' H'->X C ops G L' H' (dx ops sp ch cv ds++E) (λ_=>True) o (λv _=>v=u))(t:Eo C ops G E sp ch Ph l ss):Eo C ops G E sp ch Ph (o::l) ((ds,some u)::ss):=⟨h,t⟩
theorem pk{sp:Sp}{Ph:List Value->List World->ae->Prop}{o:Oper}{l:List Oper}{ss:Sp}(t:Eo C ops G E sp ch Ph l ss):Eo C ops G E sp ch Ph (o::l) ((ds,none)::ss):=t
theorem pn{sp:Sp}{Ph:List Value->List World->ae->Prop}{l:List Oper}:Eo C ops G E sp ch Ph l []:=by cases l<;>trivial
def P2 (C:Cx) (l:List Oper) (G:Gh) (E:Env) (D:List Deferred) (sp:Sp) (ch:List Nat) (Ph:List Value->List World->ae->Prop):Nat->List Nat->Prop
 |_,[]=>True
 |k,c::rest=>(∀(o:Oper) (ds:List Nat) (d:Nat),l[c]? =some o->sp[c]? =some (ds,none)->o.dst=some d->∀cv L' H',cv.length=k->Ph cv L' H'->∀(F:Env) (Q':aG),
  (∀v dB dC,Ph (cv++[v]) dB dC->PJ C Q' .normal ((d,v)::(dx l.toArray sp ch cv ds++(E++F))) D G dB dC)->OJ C l.toArray Q' [o] (dx l.toArray sp ch cv ds++(E++F)) D G L' H')/\P2 C l G E D sp ch Ph (k+1) rest
theorem nii{l:List Oper}{sp:Sp}{ch:List Nat}{Ph:List Value->List World->ae->Prop}:∀(rest:List Nat) (n:Nat),P2 C l G E D sp ch Ph n rest->∀(k c:Nat) (o:Oper) (ds:List Nat) (d:Nat),rest[k]? =some c->l[c]? =some o->sp[c]? =some (ds,none)->o.dst=some d->∀cv L' H',cv.length=n+k->Ph cv L' H'->∀(F:Env) (Q':aG),(∀v dB dC,Ph (cv++[v]) dB dC->PJ C Q' .normal ((d,v)::(dx l.toArray sp ch cv ds++(E++F))) D G dB dC)->OJ C l.toArray Q' [o] (dx l.toArray sp ch cv ds++(E++F)) D G L' H'
 | [],_,_,k,c,_,_,_,h,_,_,_=>by simp at h
 |c'::rest,n,h,k,c,o,ds,d,hk,hl,hs,hd=>by
  cases k with
  |zero=>simp at hk;subst hk;exact λcv L' H' hlen=>h.1 o ds d hl hs hd cv L' H' (by simpa using hlen)
  |succ k=>exact λcv L' H' hlen=>nii rest (n+1) h.2 k c o ds d NV hl hs hd cv L' H' zM
variable {rest:List Nat} {k:Nat}
theorem sc{l:List Oper}{sp:Sp}{Ph:List Value->List World->ae->Prop}{c:Nat}{o:Oper}{d:Nat}(h1:l[c]? =some o)(h2:sp[c]? =some (ds,none))(h3:o.dst=some d)(h:∀cv L' H',cv.length=k->Ph cv L' H'->∀(F:Env) (Q':aG),(∀v dB dC,Ph (cv++[v]) dB dC->PJ C Q' .normal ((d,v)::(dx l.toArray sp ch cv ds++(E++F))) D G dB dC)->OJ C l.toArray Q' [o] (dx l.toArray sp ch cv ds++(E++F)) D G L' H')(t:P2 C l G E D sp ch Ph (k+1) rest):P2 C l G E D sp ch Ph k (c::rest):=
 ⟨λo' sW d' e1 e2 e3=>by
  rw[h1]at e1;cases e1;rw[h2]at e2;cases e2;rw[h3]at e3;cases e3;exact h,t⟩
theorem sn{l:List Oper}{sp:Sp}{Ph:List Value->List World->ae->Prop}:P2 C l G E D sp ch Ph k []:=trivial
theorem nJ{l:List Oper}(nA:Nat)(ch:List Nat)(sp:Sp)(Ph:List Value->List World->ae->Prop)(hm:C.P.follows .mixedOrders=true)(h0:Ph [] L H)(jf:HR l.toArray nA (sp.map (·.1)) E=true)(hN:yw C.N l=true)(kN:J3 l ch=true)(hnd:CQ ch=true)(rA:pZ ch 0 sp=true)(fE:ch.all (λc=>Nat.blt c nA)=true)(pure:Eo C l.toArray G E sp ch Ph l sp)(step:P2 C l G E D sp ch Ph 0 ch)(fin:∀cv L' H',cv.length=ch.length->Ph cv L' H'->OJ C l.toArray Q (l.drop nA) (dx l.toArray sp ch cv (List.range nA)++E) D G L' H'):CJ C (.region id l.toArray true) Q E D G L H:=
 n1k nA ch sp Ph hm h0 jf hN kN hnd rA fE (YI l sp pure) (λk c o ds d hk hl hs hd cv L' H' hlen=>nii ch 0 step k c o ds d hk hl hs hd cv L' H' zM) fin
end
theorem dd{α:Type}{l:List α}(h:l.length=1):∃a,l=[a]:=by
 match l,h with
 | [a],_=>exact⟨a,rfl⟩
theorem jj{α:Type}{l:List α}(h:l.length=2):∃a b,l=[a,b]:=by
 match l,h with
 | [a,b],_=>exact⟨a,b,rfl⟩
theorem fM{α:Type}{l:List α}(h:l.length=3):∃a b c,l=[a,b,c]:=by
 match l,h with
 | [a,b,c],_=>exact⟨a,b,c,rfl⟩
theorem qp{α:Type}{l:List α}(h:l.length=4):∃a b c d,l=[a,b,c,d]:=by
 match l,h with
 | [a,b,c,d],_=>exact⟨a,b,c,d,rfl⟩
theorem eZ{α:Type}{l:List α}(h:l.length=5):∃a b c d e,l=[a,b,c,d,e]:=by
 match l,h with
 | [a,b,c,d,e],_=>exact⟨a,b,c,d,e,rfl⟩
section
variable {C:Cx} {Q:aG} {E:Env} {D:List Deferred} {G:Gh} {L:List World} {H:ae} {ops:Array Oper} {l:List Oper}
variable {d T ty f:Nat} {pos:String} {aD:Array Edge} {g:Option (Nat×Bool)} {x y:Operand} {xs:List Operand} {vs:List Value} {ea:Array Nat}
variable {ys:List UInt8} {e:Nat}
theorem KC{first cap:List Value}(hx:ev E x=some (.func (.func f) first.toArray cap.toArray))(az:dR C.P f)(hw:nq ops E g=some true)(hN:Nat.blt d C.N=true)(ha:iv E xs=some vs)(hc:∀W,St G L H W->Calls C.P f (first++vs++cap).toArray W (ZL W e ys))(k:∀b' aT bK,ad L b'->bE H b'->¬G.X b'->cJ ys aT bK->OJ C ops Q l ((d,bA b' ys.length aT)::E) D G L ((b',bh e ys bK)::H)):OJ C ops Q (⟨some d,.call ⟨.value x,xs.toArray,ea⟩,ty,pos,aD,g⟩::l) E D G L H:=
 nZ rfl hw hx ha z1 az λa W iu hD hF hS=>(hc W hS).mono (by
  rintro ed W' ⟨b',aT,bK,rfl,hb,jy,hr,gn⟩;exact k b' aT bK (J9 hS jy) (C5 hS jy) (λhx=>by have:=hS.xlt _ hx;omega) hr (a.put (some d) (bA b' ys.length aT)) W' kO jW (hF.put _ lM)
   ((hS.step hb).adopt gn (C5 hS jy) (λhv=>by have:=hS.vlt _ hv;omega)))
def ZM (w:World) (e:Nat) (ys:List UInt8):Ending->World->Prop:=λed w'=>
 ∃b' aT bK,ed= .returned (.tuple #[bA b' ys.length aT,.int .i64 0])/\Below w.heap.size w w'/\w.heap.size<=b'/\cJ ys aT bK/\w'.heap[b']? =some (bh e ys bK)
variable {ex:Exit} {bK:List Value} {i:Nat}
theorem KD{fn:Func}{t b' aT:Nat}{w:World}(he:ex= .ret\/ex= .normal)(hr:fn.results=#[.tmp t,.tmp u])(hv:look E t=some (bA b' ys.length aT))(hu:look E u=some (.int .i64 0))(hi:H[i]? =some (b',bh e ys bK))(hw:w∈L)(ho:Over w.heap.size H)(hk:cJ ys aT bK):PJ C (bodyPost C.P fn (ZM w e ys)) ex E [] Gh.no L H:=
 bH he (rs:=[.tmp t,.tmp u]) hr (RS.t hv (RS.t hu RS.n)) λW hS=>⟨b',aT,bK,rfl,hS.base hw ho,ho.mem _ (cC hi),hk,hS.own _ (cC hi)⟩
theorem n7i(az:dR C.P f)(hw:nq ops E g=some true)(hN:Nat.blt d C.N=true)(ha:iv E xs=some vs)(hc:∀W,St G L H W->Calls C.P f vs.toArray W (ZM W e ys))(k:∀b' aT bK,ad L b'->bE H b'->¬G.X b'->cJ ys aT bK->OJ C ops Q l ((d,.tuple #[bA b' ys.length aT,.int .i64 0])::E) D G L ((b',bh e ys bK)::H)):OJ C ops Q (⟨some d,.call ⟨.value (.func f),xs.toArray,ea⟩,ty,pos,aD,g⟩::l) E D G L H:=
 nZ rfl hw rfl ha z1 az λa W iu hD hF hS=>(hc W hS).mono (by
  rintro ed W' ⟨b',aT,bK,rfl,hb,jy,hr,gn⟩;exact k b' aT bK (J9 hS jy) (C5 hS jy) (λhx=>by have:=hS.xlt _ hx;omega) hr (a.put (some d) _) W' kO jW (hF.put _ lM)
   ((hS.step hb).adopt gn (C5 hS jy) (λhv=>by have:=hS.vlt _ hv;omega)))
variable {v:Value}
theorem Q7{first cap:List Value}(hx:ev E x=some (.func (.func f) first.toArray cap.toArray))(az:dR C.P f)(hw:nq ops E g=some true)(hN:Nat.blt d C.N=true)(ha:iv E xs=some vs)(hc:∀W,St G L H W->Calls C.P f (first++vs++cap).toArray W (av W v))(k:OJ C ops Q l ((d,v)::E) D G L H):OJ C ops Q (⟨some d,.call ⟨.value x,xs.toArray,ea⟩,ty,pos,aD,g⟩::l) E D G L H:=
 nZ rfl hw hx ha z1 az λa W iu hD hF hS=>(hc W hS).mono (by
  rintro e W' ⟨rfl,hb⟩;exact k (a.put (some d) v) W' kO jW (hF.put _ lM) (hS.step hb))
theorem nXm{Pre:World->Prop}{Φ:Value->World->Prop}{first cap:List Value}(hx:ev E x=some (.func (.func f) first.toArray cap.toArray))(az:dR C.P f)(hw:nq ops E g=some true)(ha:iv E xs=some vs)(hc:∀W,St G L H W->Pre W->Calls C.P f (first++vs++cap).toArray W (av W v))(hΦ:∀W,Φ v W):X C ops G L H E Pre ⟨some d,.call ⟨.value x,xs.toArray,ea⟩,ty,pos,aD,g⟩ Φ:=by
 intro a W K Q iu hF hS hP hk;rw[if_pos (uW hF hw)];refine⟨λ_ _=>trivial,?_⟩;have hr:(execOp a.eval ⟨some d,.call ⟨.value x,xs.toArray,ea⟩,ty,pos,aD,g⟩).run C.P W= .ok (.enter f (first++vs++cap).toArray) W:=by
  have h2:(xs.toArray).map a.eval=vs.toArray:=by rw[yt,HN hF xs vs ha]
  simp only[execOp,resolve,hF.ev hx,Deferred.ofValue,h2];simp[invoke,az _ W]
 rw[Oper.semAt_eq _ _ _ z1,hr,Oper.uponIn_enter];refine⟨by simp,CG.2 ((hc W hS hP).mono ?_)⟩;rintro e W' ⟨rfl,hb⟩;exact hk v W' hb (hΦ W')
end
section
variable {C:Cx} {Q:aG} {E:Env} {D:List Deferred} {G:Gh} {L:List World} {H:ae} {id:Nat}
def Ep (C:Cx) (ops:Array Oper) (G:Gh) (E:Env) (sp:Sp) (ch:List Nat) (Ph:List (Option Value)->List World->ae->Prop):List Oper->Sp->Prop
 |o::l,(ds,some u)::ss=>(∀cv L' H',cv.length=ch.length->HT ch ds cv=true->Ph cv L' H'->X C ops G L' H' (bN ops sp ch cv ds++E) (λ_=>True) o (λv _=>v=u))/\Ep C ops G E sp ch Ph l ss
 |_::l,(_,none)::ss=>Ep C ops G E sp ch Ph l ss
 |_,_=>True
theorem YJ{ops:Array Oper}{sp:Sp}{ch:List Nat}{Ph:List (Option Value)->List World->ae->Prop}:∀(l:List Oper) (ss:Sp),Ep C ops G E sp ch Ph l ss->∀(i:Nat) (o:Oper) (ds:List Nat) (u:Value),l[i]? =some o->ss[i]? =some (ds,some u)->∀cv L' H',cv.length=ch.length->HT ch ds cv=true->Ph cv L' H'->X C ops G L' H' (bN ops sp ch cv ds++E) (λ_=>True) o (λv _=>v=u)
 | [],_,_,i,o,ds,u,hl,_=>by simp at hl
 |_::_,[],_,i,o,ds,u,_,hs=>by simp at hs
 |o'::l,(sW,some u')::ss,h,i,o,ds,u,hl,hs=>by
  cases i with
  |zero=>simp at hl hs;obtain⟨rfl,rfl⟩:=hs;subst hl;exact h.1
  |succ i=>exact YJ l ss h.2 i o ds u xZ (by simpa using hs)
 |o'::l,(sW,none)::ss,h,i,o,ds,u,hl,hs=>by
  cases i with
  |zero=>simp at hs
  |succ i=>exact YJ l ss h i o ds u xZ (by simpa using hs)
variable {ops:Array Oper} {Ph:List (Option Value)->List World->ae->Prop} {ch ds:List Nat}
theorem qc{sp:Sp}{o:Oper}{l:List Oper}{u:Value}{ss:Sp}(h:∀cv L' H',cv.length=ch.length->HT ch ds cv=true->Ph cv L' H'->X C ops G L' H' (bN ops sp ch cv ds++E) (λ_=>True) o (λv _=>v=u))(t:Ep C ops G E sp ch Ph l ss):Ep C ops G E sp ch Ph (o::l) ((ds,some u)::ss):=⟨h,t⟩
theorem qk{sp:Sp}{o:Oper}{l:List Oper}{ss:Sp}(t:Ep C ops G E sp ch Ph l ss):Ep C ops G E sp ch Ph (o::l) ((ds,none)::ss):=t
theorem qn{sp:Sp}{l:List Oper}:Ep C ops G E sp ch Ph l []:=by cases l<;>trivial
def P3 (C:Cx) (l:List Oper) (G:Gh) (E:Env) (D:List Deferred) (sp:Sp) (ch:List Nat) (eB:List (List Nat)) (Ph:List (Option Value)->List World->ae->Prop):Nat->List Nat->Prop
 |_,[]=>True
 |k,c::rest=>(∀(rq:List Nat) (o:Oper) (ds:List Nat) (d:Nat),eB[k]? =some rq->l[c]? =some o->sp[c]? =some (ds,none)->o.dst=some d->∀cv L' H',cv.length=ch.length->xE rq k cv=true->Ph cv L' H'->∀(F:Env) (Q':aG),
  (∀v dB dC,Ph (cv.set k (some v)) dB dC->PJ C Q' .normal ((d,v)::(bN l.toArray sp ch cv ds++(E++F))) D G dB dC)->OJ C l.toArray Q' [o] (bN l.toArray sp ch cv ds++(E++F)) D G L' H')/\P3 C l G E D sp ch eB Ph (k+1) rest
theorem nOh{l:List Oper}{sp:Sp}{ch:List Nat}{eB:List (List Nat)}{Ph:List (Option Value)->List World->ae->Prop}:∀(rest:List Nat) (n:Nat),P3 C l G E D sp ch eB Ph n rest->∀(k c:Nat) (rq:List Nat) (o:Oper) (ds:List Nat) (d:Nat),rest[k]? =some c->eB[n+k]? =some rq->l[c]? =some o->sp[c]? =some (ds,none)->o.dst=some d->∀cv L' H',cv.length=ch.length->xE rq (n+k) cv=true->Ph cv L' H'->∀(F:Env) (Q':aG),(∀v dB dC,Ph (cv.set (n+k) (some v)) dB dC->PJ C Q' .normal ((d,v)::(bN l.toArray sp ch cv ds++(E++F))) D G dB dC)->OJ C l.toArray Q' [o] (bN l.toArray sp ch cv ds++(E++F)) D G L' H'
 | [],_,_,k,c,_,_,_,_,h,_,_,_,_=>by simp at h
 |c'::rest,n,h,k,c,rq,o,ds,d,hk,hr,hl,hs,hd=>by
  cases k with
  |zero=>simp at hk;subst hk;exact h.1 rq o ds d hr hl hs hd
  |succ k=>
   rw[show n+(k+1)=n+1+k by omega]at hr ⊢;exact nOh rest (n+1) h.2 k c rq o ds d NV hr hl hs hd
variable {eB:List (List Nat)} {rest:List Nat} {k:Nat}
theorem nc{l:List Oper}{sp:Sp}{c:Nat}{rq:List Nat}{o:Oper}{d:Nat}(h0:eB[k]? =some rq)(h1:l[c]? =some o)(h2:sp[c]? =some (ds,none))(h3:o.dst=some d)(h:∀cv L' H',cv.length=ch.length->xE rq k cv=true->Ph cv L' H'->∀(F:Env) (Q':aG),(∀v dB dC,Ph (cv.set k (some v)) dB dC->PJ C Q' .normal ((d,v)::(bN l.toArray sp ch cv ds++(E++F))) D G dB dC)->OJ C l.toArray Q' [o] (bN l.toArray sp ch cv ds++(E++F)) D G L' H')(t:P3 C l G E D sp ch eB Ph (k+1) rest):P3 C l G E D sp ch eB Ph k (c::rest):=
 ⟨λrq' o' sW d' e0 e1 e2 e3=>by
  rw[h0]at e0;cases e0;rw[h1]at e1;cases e1;rw[h2]at e2;cases e2;rw[h3]at e3;cases e3;exact h,t⟩
theorem nn{l:List Oper}{sp:Sp}:P3 C l G E D sp ch eB Ph k []:=trivial
theorem KW{l:List Oper}(nA:Nat)(ch:List Nat)(sp:Sp)(eB:List (List Nat))(Ph:List (Option Value)->List World->ae->Prop)(hm:C.P.follows .mixedOrders=true)(h0:Ph (ch.map λ_=>none) L H)(jf:HR l.toArray nA (sp.map (·.1)) E=true)(hN:yw C.N l=true)(kN:qT l ch 0 eB=true)(hnd:CQ ch=true)(rA:pZ ch 0 sp=true)(fE:ch.all (λc=>Nat.blt c nA)=true)(PZ:eB.length=ch.length)(pure:Ep C l.toArray G E sp ch Ph l sp)(step:P3 C l G E D sp ch eB Ph 0 ch)(fin:∀cv L' H',cv.length=ch.length->cv.all (λx=>x.isSome)=true->Ph cv L' H'->OJ C l.toArray Q (l.drop nA) (bN l.toArray sp ch cv (List.range nA)++E) D G L' H'):CJ C (.region id l.toArray true) Q E D G L H:=
 CJ.net nA ch sp eB Ph hm h0 jf hN kN hnd rA fE (YJ l sp pure) (λk c rq o ds d hk hr hl hs hd cv L' H' hlen uS=>by
  have:=nOh ch 0 step k c rq o ds d hk (by rw[i6];exact hr) hl hs hd cv L' H' hlen;rw[i6]at this;exact this uS) PZ fin
theorem PJ.swp{e:Exit}{p q:Nat×Obj}(k:PJ C Q e E D G L (p::q::H)):PJ C Q e E D G L (q::p::H):=λa W hN hD hF hS=>k a W hN hD hF (hS.perm (List.Perm.swap p q H))
end
/-! ### deferred calls, and recover -/
def C6 (cs:List Frame):Value×List Frame:=match recoverD cs with|some p=>p|none=>(.nilIface,cs)
theorem npm(cs:List Frame):(C6 cs).2.length=cs.length:=by
 unfold C6;split
 ·rename_i p h;obtain⟨v,eo⟩:=p;exact recoverD_length h
 rfl
variable {ops:Array Oper} {rest:List Nat}
theorem nJo{F:Fence}{n:Nat}{P:Program}{Q:Exit->Act->List Frame->World->Prop}{a:Act}{cs:List Frame}{w:World}{id:Nat}{o:Oper}(ON:F.round=none)(hrg:List.range ops.size=0::rest)(ho:ops[0]? =some o)(hw:Region.wanted o (yielded ops a.tmps)=true)(sG:∀f,o.about P w a.eval=some f->F.fn f)(hr:(execOp a.eval o).run P w= .ok .recover w')(h:wpOpsIn F n P ops (λe a' w'=>Q e a' (C6 cs).2 w') rest (a.put o.dst (C6 cs).1) w'):(Code.region id ops false).wpSIn F n P Q a cs w:=by
 intro b k hb Ho hF iY;have h0:(lone (b.atR a (.inRegion ops (0::rest)::k)) cs w).fenced P F:=fenced_oper hF iY ho sG;have hg:=stepGR_op (P:=P) (b:=b) (k:=k) (cs:=cs) (w:=w) (rest:=rest) ho hw;rw[Ho,Oper.semAt_none]at hg;have bZ:∀v,(b.atR a (.inRegion ops (0::rest)::k)).finish v=b.atR (a.put o.dst v) (.inRegion ops rest::k):=by
  intro v;rw[Frame.finish_atR,ho];rfl
 have hk:(b.atR a (.inRegion ops (0::rest)::k)).kind= .deferred:=hb;have fJ:=tryRecover_deferred hk cs;have hlen:=npm cs;obtain⟨e,a',w'',hq,af2⟩:=wp_opsIn rest (a.put o.dst (C6 cs).1) w' h b k (C6 cs).2 (Ho.trans ON.symm) hF (by rw[hlen];exact iY);refine⟨e,a',(C6 cs).2,w'',hlen,hq,?_⟩;have Vn:=stepR_region (P:=P) (b:=b) (a:=a) (id:=id) (ops:=ops) (k:=k) (cs:=cs) (w:=w);rw[hrg]at Vn;refine .of_steps (.head (fenced_calm hF iY rfl) Vn (.one h0 (step_lone_go ?_))) af2;rw[hg,<-bZ];unfold C6;cases fF:recoverD cs with
 |none=>
  simp only[Frame.atR,Ho]at fJ ⊢;simp[stepG.apply,hr,fJ,fF]
 |some p=>
  obtain⟨v,eo⟩:=p;simp only[Frame.atR,Ho]at fJ ⊢;simp[stepG.apply,hr,fJ,fF]
variable {aD:Array Edge} {ea:Array Nat} {R:Ending->World->Prop} {vs:List Value} {f ty:Nat} {pos:String}
theorem Fb{P:Program}{fn:Func}{l:List Oper}{id d:Nat}{w:World}(u u':FrameMode)(rv:Value)(hu:∀(c₀:Frame) (cs:List Frame),c₀.mode=u->C6 (c₀::cs)=(rv,{c₀ with mode:=u'}::cs))(hf:P.funcs[f]? =some fn)(hb:fn.body=some (.region id ((⟨some d,.call ⟨.builtin .recover,#[],ea⟩,ty,pos,aD,none⟩:Oper)::l).toArray false))(hN:fn.ntmps=N)(hl:Nat.ble vs.length N=true)(hd:Nat.blt d N=true)(hS:St G [w] H w)(h:OJ ⟨P,none,N⟩ ((⟨some d,.call ⟨.builtin .recover,#[],ea⟩,ty,pos,aD,none⟩:Oper)::l).toArray (bodyPost P fn R) l ((d,rv)::yu 0 vs) [] G [w] H):CallsDIn (FW none) 0 P f vs.toArray u w (λe u'' w'=>u''=u'/\R e w'):=by
 refine callsDIn_of_wpSIn hf hb trivial λc₀ cs hc=>?_;have jy:vs.toArray.size=vs.length:=by simp
 have iu:(vs.toArray++Array.replicate (fn.ntmps-vs.toArray.size) undef).size=N:=by
  exact UR
 have hF:Fits (yu 0 vs) ⟨vs.toArray++Array.replicate (fn.ntmps-vs.toArray.size) undef,[]⟩:=UQ vs _;have jX:=hu c₀ cs hc;refine nJo (w':=w) (rest:=List.range' 1 l.length) rfl ?_ rfl ?_ (λ_ _=>trivial) ?_ ?_
 ·simp[List.range_eq_range',List.range'_succ]
 ·simp[Region.wanted]
 ·simp[execOp,resolve,invoke,builtin,Deferred.ofValue]
 rw[jX,wpOpsIn_eq_wpListIn l 1 (λj=>by simp[Nat.add_comm])];have BZ:=h ((⟨vs.toArray++Array.replicate (fn.ntmps-vs.toArray.size) undef,[]⟩:Act).put (some d) rv) w (by simp only[Act.put];simpa using iu) rfl (hF.put rv (by rw[iu];exact nX hd)) hS;have mono:∀(l':List Oper) (a:Act) (W:World),wpListIn (FW none) 0 P ((⟨some d,.call ⟨.builtin .recover,#[],ea⟩,ty,pos,aD,none⟩:Oper)::l).toArray (bodyPost P fn R) l' a W->
  wpListIn (FW none) 0 P ((⟨some d,.call ⟨.builtin .recover,#[],ea⟩,ty,pos,aD,none⟩:Oper)::l).toArray (λe a' w'=>bodyPostS P fn c₀ cs (λe u'' w'=>u''=u'/\R e w') e a' ({c₀ with mode:=u'}::cs) w') l' a W:=by
  intro l';induction l' with
  |nil=>
   intro a W hq;obtain⟨h1,v,h2,h3⟩:=hq;exact⟨h1,u',rfl,v,h2,rfl,h3⟩
  |cons o l' ih=>
   intro a W hq;unfold wpListIn at hq ⊢;split
   ·rename_i PO;rw[if_pos PO]at hq;refine nSf (λa' W' hk=>ih a' W' hk) (λc a' W' hk=>?_) (λhk=>?_) hq
    ·obtain⟨h1,h2⟩:=hk;exact⟨h1,u',rfl,rfl,h2⟩
    obtain⟨a0,w0,hk⟩:=hk;exact⟨a0,w0,u',rfl,hk⟩
   rename_i PO;rw[if_neg PO]at hq;exact⟨hq.1,ih _ _ hq.2⟩
 exact mono l _ _ BZ
theorem nFk(c₀:Frame)(cs:List Frame)(h:c₀.mode= .returning):C6 (c₀::cs)=(.nilIface,{c₀ with mode:=.returning}::cs):=by
 simp only[C6,recoverD,h];rw[<-h]
theorem KJ{P:Program}{fn:Func}{c:Code}{w:World}(G:Gh)(H:ae)(hf:P.funcs[f]? =some fn)(hb:fn.body=some c)(hN:fn.ntmps=N)(hl:Nat.ble vs.length N=true)(hS:St G [w] H w)(h:CJ ⟨P,none,N⟩ c (bodyPostDIn (FW none) 0 P fn R) (yu 0 vs) [] G [w] H):Calls P f vs.toArray w R:=by
 rw[<-CG (r:=none) (n:=0)];refine callsIn_of_wp_defers hf hb trivial (h _ w ?_ rfl ?_ hS)
 ·exact UR
 exact UQ vs _
section
variable {P:Program} {N:Nat} {Q:aG} {E:Env} {D:List Deferred} {G:Gh} {L:List World} {H:ae} {ops:Array Oper} {l:List Oper}
variable {ty f:Nat} {pos:String} {aD:Array Edge} {g:Option (Nat×Bool)} {x:Operand}
theorem OJ.defer{cap:List Value}(hw:nq ops E g=some true)(hx:ev E x=some (.func (.func f) #[] cap.toArray))(k:OJ ⟨P,none,N⟩ ops Q l E ({target:=.fn (.func f) cap.toArray,args:=#[]}::D) G L H):OJ ⟨P,none,N⟩ ops Q (⟨none,.defer ⟨.value x,#[],ea⟩,ty,pos,aD,g⟩::l) E D G L H:=by
 intro a W iu hD hF hS;unfold wpListIn;rw[if_pos (uW hF hw)];refine⟨λ_ _=>trivial,?_⟩;have hr:(execOp a.eval ⟨none,.defer ⟨.value x,#[],ea⟩,ty,pos,aD,g⟩).run P W= .ok (.defer {target:=.fn (.func f) cap.toArray,args:=#[]}) W:=by
  simp[execOp,resolve,hF.ev hx,Deferred.ofValue]
 dsimp only;rw[Oper.semAt_none,hr,Oper.uponIn_defer];exact k _ W iu jW (λt v hv=>hF t v hv) hS
variable {ex:Exit} {rs:List ResultVar}
theorem Z0{fn:Func}{cap:List Value}(he:ex= .ret\/ex= .normal)(az:dR P f)(hc:∀W,St G L H W->CallsDIn (FW none) 0 P f cap.toArray .returning W (λe u' w'=>u'= .returning/\(∃v,e= .returned v)/\Below W.heap.size W w'))(hr:fn.results=rs.toArray)(h:RS ⟨P,none,N⟩ G L H E rs vs)(hR:∀W,St G L H W->R (.returned (J7 vs)) W):PJ ⟨P,none,N⟩ (bodyPostDIn (FW none) 0 P fn R) ex E [{target:=.fn (.func f) cap.toArray,args:=#[]}] G L H:=by
 intro a W iu hD hF hS;have key:LeavesIn (FW none) 0 P fn a.tmps R a.defers .returning W:=by
  rw[hD];refine leavesIn_cons (f:=f) (args:=cap.toArray) z1 z1 (by simp[invoke,az _ W]) (λ_ _=>trivial) ?_;refine(hc W hS).mono ?_;rintro e u' w' ⟨rfl,⟨v,rfl⟩,hb⟩;exact⟨_,h.res hr hF (hS.step hb),hR w' (hS.step hb)⟩
 exact PU
end
/-! ### several blocks that are lent -/
def keys (H:ae):List Nat:=H.map (·.1)
def p5 (G:Gh) (L:List World):ae->Prop
 | []=>True
 |p::H=>Fr G L p.1/\p5 G L H
theorem p5.mem{G:Gh}{L:List World}:∀{H:ae},p5 G L H->∀p∈H,Fr G L p.1
 | [],_,p,hp=>by cases hp
 |q::H,h,p,hp=>by
  rcases cP.1 hp with rfl|hp
  ·exact h.1
  exact p5.mem h.2 p hp
variable {H0:ae} {W':World}
theorem St.swapZ{Hz Hn:ae}(h:St G L (Hz++H0) W)(hk:aI (λk=>k∈keys Hz) W W')(rh:p5 G L Hz)(hn:∀p∈Hn,W'.heap[p.1]? =some p.2/\(p.1∈keys Hz\/W.heap.size<=p.1))(hd:qQ Hn):St G L (Hn++H0) W':=by
 have hnd:=(xD (Hz++H0)).1 h.nodup;rw[gj,List.nodup_append]at hnd;obtain⟨gA,dS,cS⟩:=hnd;have C7:∀p∈H0,p.1∉keys Hz:=λp hp hm=>cS p.1 hm p.1 (bU.2 ⟨p,hp,rfl⟩) rfl;have hH0:∀p∈H0,W'.heap[p.1]? =some p.2:=λp hp=>by
  rw[hk.block p.1 (h.lt p (by simp[hp])) (C7 p hp)];exact h.own p (by simp[hp])
 refine⟨?_,λk hv=>kJ (h.vlt k hv) hk.size,λk hv=>kJ (h.xlt k hv) hk.size,λw hw=>?_,λp hp=>?_,?_,λp hp=>?_⟩
 ·refine G.stab W W' h.ghost hk.os hk.tape hk.output hk.size (λk hv=>hk.block k (h.vlt k hv) λhm=>?_);obtain⟨p,hp,rfl⟩:=bU.1 hm;exact h.apart p (by simp[hp]) hv
 ·have hl:=h.links w hw;refine⟨hk.os.trans hl.os,hk.tape.trans hl.tape,hk.output.trans hl.output,aS hl.size hk.size,λk hkw hx=>?_⟩;simp only[gj,cO,not_or]at hx;have hnz:k∉keys Hz:=λhm=>by
   obtain⟨p,hp,rfl⟩:=bU.1 hm;rcases rh.mem p hp with hf|hf
   ·exact hx.1 hf
   have:=hf.mem w hw;omega
  rw[hk.block k (kJ hkw hl.size) hnz];refine hl.block k hkw λhy=>?_;simp only[gj,cO]at hy;rcases hy with hy|hy|hy
  ·exact hx.1 hy
  ·exact hnz hy
  exact hx.2.2 hy
 ·rcases cO.1 hp with hp|hp
  ·exact(hn p hp).1
  exact hH0 p hp
 ·rw[xD,gj,List.nodup_append];refine⟨(xD Hn).1 hd,dS,λa ha b hb e=>?_⟩;subst e;obtain⟨p,hp,rfl⟩:=bU.1 ha;obtain⟨q,hq,e⟩:=bU.1 hb;rcases(hn p hp).2 with h1|h1
  ·exact C7 q hq (e▸h1)
  have:=h.lt q (by simp[hq]);omega
 rcases cO.1 hp with hp|hp
 ·intro hv;rcases(hn p hp).2 with h1|h1
  ·obtain⟨q,hq,e⟩:=bU.1 h1;exact h.apart q (by simp[hq]) (e▸hv)
  have:=h.vlt _ hv;omega
 exact h.apart p (by simp[hp])
def rP {α:Type} (w:World) (Z:List Nat) (v:α->Value) (Hn:α->ae) (Φ:α->Prop):Ending->World->Prop:=λe w'=>
 ∃x,e= .returned (v x)/\aI (λk=>k∈Z) w w'/\Φ x/\(∀p∈Hn x,w'.heap[p.1]? =some p.2/\(p.1∈Z\/w.heap.size<=p.1))/\qQ (Hn x)
theorem Ra{w:World}{Hz:ae}(h:∀p∈Hz,w.heap[p.1]? =some p.2)(hd:qQ Hz):St (Gh.lent (λk=>k∈keys Hz)) [w] Hz w where
 ghost:=trivial
 vlt:=λ_ h=>h.elim
 xlt:=λk hk=>by
  obtain⟨p,hp,rfl⟩:=bU.1 (show k∈keys Hz from hk);exact(aM.1 (h p hp)).1
 links:=λw' hw=>by simp at hw;subst hw;exact aI.refl _ _
 own:=h
 nodup:=hd
 apart:=λ_ _ h=>h.elim
def gW (w:World):ae->Prop
 | []=>True
 |p::H=>w.heap[p.1]? =some p.2/\gW w H
theorem gW.mem{w:World}:∀{H:ae},gW w H->∀p∈H,w.heap[p.1]? =some p.2
 | [],_,p,hp=>by cases hp
 |q::H,h,p,hp=>by
  rcases cP.1 hp with rfl|hp
  ·exact h.1
  exact gW.mem h.2 p hp
theorem Rb(p:Nat×Obj):qQ [p]:=by rw[xD];simp
theorem Rj{p q:Nat×Obj}(h:p.1≠q.1):qQ [p,q]:=by rw[xD];simp[h]
def p6 (Z:List Nat) (n:Nat):ae->Prop
 | []=>True
 |p::H=>(p.1∈Z\/n<=p.1)/\p6 Z n H
theorem p6.mem{Z:List Nat}{n:Nat}:∀{H:ae},p6 Z n H->∀p∈H,p.1∈Z\/n<=p.1
 | [],_,p,hp=>by cases hp
 |q::H,h,p,hp=>by
  rcases cP.1 hp with rfl|hp
  ·exact h.1
  exact p6.mem h.2 p hp
section
variable {C:Cx} {Q:aG} {E:Env} {D:List Deferred} {G:Gh} {L:List World} {H:ae} {ops:Array Oper} {l:List Oper}
variable {d T ty f:Nat} {pos:String} {aD:Array Edge} {g:Option (Nat×Bool)} {x:Operand} {xs:List Operand} {vs:List Value} {ea:Array Nat} {fn:Func}
variable {ex:Exit} {rs:List ResultVar} {us:List Value}
theorem zo{α:Type}{v:α->Value}{Hn:α->ae}{Φ:α->Prop}{Hz:ae}{w:World}(z:α)(he:ex= .ret\/ex= .normal)(hr:fn.results=rs.toArray)(h:RS C (Gh.lent (λk=>k∈keys Hz)) L (Hn z++H0) E rs us)(hw:w∈L)(ho:p6 (keys Hz) w.heap.size (Hn z++H0))(hv:J7 us=v z)(hΦ:Φ z):PJ C (bodyPost C.P fn (rP w (keys Hz) v Hn Φ)) ex E [] (Gh.lent (λk=>k∈keys Hz)) L (Hn z++H0):=
 bH he hr h λW hS=>⟨z,by rw[hv],(hS.links w hw).mono (λk hk hx=>by
  rcases hx with hx|hx
  ·exact hx
  ·obtain⟨p,hp,rfl⟩:=bU.1 hx;rcases ho.mem p hp with h|h
   ·exact h
   omega),hΦ,λp hp=>⟨hS.own p (by simp[hp]),ho.mem p (by simp[hp])⟩,by
  have:=(xD _).1 hS.nodup;rw[gj,List.nodup_append]at this;exact(xD _).2 this.1⟩
theorem Rh{α:Type}{v:α->Value}{Hn:α->ae}{Φ:α->Prop}{Hz:ae}{first cap:List Value}(hH:H=Hz++H0)(hx:ev E x=some (.func (.func f) first.toArray cap.toArray))(az:dR C.P f)(hw:nq ops E g=some true)(hN:Nat.blt d C.N=true)(ha:iv E xs=some vs)(rh:p5 G L Hz)(hc:∀W,St G L (Hz++H0) W->Calls C.P f (first++vs++cap).toArray W (rP W (keys Hz) v Hn Φ))(k:∀z,Φ z->(∀p∈Hn z,p.1∈keys Hz\/(ad L p.1/\bE H p.1))->OJ C ops Q l ((d,v z)::E) D G L (Hn z++H0)):OJ C ops Q (⟨some d,.call ⟨.value x,xs.toArray,ea⟩,ty,pos,aD,g⟩::l) E D G L H:=by
 subst hH;exact nZ rfl hw hx ha z1 az λa W iu hD hF hS=>(hc W hS).mono (by
  rintro ed W' ⟨z,rfl,hk,hΦ,hn,hd⟩;refine k z hΦ (λp hp=>?_) (a.put (some d) (v z)) W' kO jW (hF.put _ lM) (hS.swapZ hk rh hn hd);rcases(hn p hp).2 with h|h
  ·exact .inl h
  exact .inr ⟨J9 hS h,C5 hS h⟩)
variable {i j:Nat}
theorem nRi{p q:Nat×Obj}(hi:H[i]? =some p)(hj:H[j]? =some q)(xf:i≠j)(k:p.1≠q.1->OJ C ops Q l E D G L H):OJ C ops Q l E D G L H:=
 λa W hN hD hF hS=>k (λe=>xf (hS.nodup i j p q hi hj e)) a W hN hD hF hS
end
/-! ### equality of plain data -/
inductive TK where|i|b|s
def OW:Value->Value->Bool
 | .int _ a,.int _ b=>a==b
 | .bool a,.bool b=>a==b
 | .string a,.string b=>a.toList==b.toList
 |_,_=>false
def P4:TK->Value->Value->Bool
 | .i,.int k _,.int k' _=>decide (k=k')
 | .b,.bool _,.bool _=>true
 | .s,.string _,.string _=>true
 |_,_,_=>false
def oB:List Value->List Value->Bool
 |x::xs,y::ys=>OW x y&&oB xs ys
 |_,_=>true
def jD:List TK->List Value->List Value->Bool
 |k::ks,x::xs,y::ys=>P4 k x y&&jD ks xs ys
 | [],[],[]=>true
 |_,_,_=>false
theorem C8{k:TK}{x y:Value}(h:P4 k x y=true):OW x x=true:=by cases k<;>cases x<;>cases y<;>simp_all[P4,OW]
theorem nUk:∀{ks:List TK} {xs ys:List Value},jD ks xs ys=true->oB xs xs=true
 | [],[],_,_=>rfl
 |k::ks,x::xs,y::ys,h=>by
  simp only[jD,gb]at h;simp only[oB,C8 h.1,nUk h.2,Bool.and_self]
 |_::_,[],_,_=>rfl
 |_::_,_::_,[],h=>by simp[jD]at h
 | [],_::_,_,h=>by simp[jD]at h
theorem nIn:∀{ks:List TK} {xs ys:List Value},jD ks xs ys=true->xs.length=ks.length/\ys.length=ks.length
 | [],[],[],_=>⟨rfl,rfl⟩
 |k::ks,x::xs,y::ys,h=>by
  simp only[jD,gb]at h;have:=nIn h.2;simp[this.1,this.2]
 | [],_::_,_,h=>by simp[jD]at h
 | [],[],_::_,h=>by simp[jD]at h
 |_::_,[],_,h=>by simp[jD]at h
 |_::_,_::_,[],h=>by simp[jD]at h
theorem n9h:∀{a b c d:List Value},a.length=c.length->oB (a++b) (c++d)=(oB a c&&oB b d)
 | [],b,[],d,_=>by simp[oB]
 |x::a,b,y::c,d,h=>by
  simp only[eY,oB];rw[n9h rB,Bool.and_assoc]
 | [],b,y::c,d,h=>by simp at h
 |x::a,b,[],d,h=>by simp at h
theorem nki:∀{k1 k2:List TK} {a b c d:List Value},a.length=k1.length->c.length=k1.length->jD (k1++k2) (a++b) (c++d)=(jD k1 a c&&jD k2 b d)
 | [],k2,[],b,[],d,_,_=>by simp[jD]
 |k::k1,k2,x::a,b,y::c,d,h,h'=>by
  simp only[eY,jD];rw[nki rB (by simpa using h'),Bool.and_assoc]
 | [],k2,x::a,b,c,d,h,h'=>by simp at h
 | [],k2,[],b,y::c,d,h,h'=>by simp at h'
 |k::k1,k2,[],b,c,d,h,h'=>by simp at h
 |k::k1,k2,x::a,b,[],d,h,h'=>by simp at h'
def Fj (P:Program) (k t:Nat) (ks:List TK):Prop:=∀(d:Nat) (xs ys:List Value) (w:World),jD ks xs ys=true->(Op.equalIn (d+k) t (.agg xs.toArray) (.agg ys.toArray)).run P w= .ok (oB xs ys) w
def wM (P:Program) (k t:Nat) (ks:List TK):Prop:=∀(d:Nat) (p1 c1 q1 p2 c2 q2:List Value) (w:World),p1.length=p2.length->jD ks c1 c2=true->
 ∃a b,(part t (p1++(c1++q1)).toArray p1.length).run P w= .ok a w/\(part t (p2++(c2++q2)).toArray p1.length).run P w= .ok b w/\(Op.equalIn (d+k) t a b).run P w= .ok (oB c1 c2) w
variable {ks:List TK} {k:Nat}
theorem wM.up{P:Program}{k' t:Nat}(h:wM P k t ks)(hk:k<=k'):wM P k' t ks:=λd p1 c1 q1 p2 c2 q2 w h1 h2=>by
 have:=h (d+(k'-k)) p1 c1 q1 p2 c2 q2 w h1 h2;rwa[show d+(k'-k)+k=d+k' by omega]at this
theorem wM.one{P:Program}{t:Nat}{k:TK}(hA:fq P t false)(h:∀(d:Nat) (v u:Value) (w:World),P4 k v u=true->(Op.equalIn (d+1) t v u).run P w= .ok (OW v u) w):wM P 1 t [k]:=by
 intro d p1 c1 q1 p2 c2 q2 w h1 h2
 match c1,c2,h2 with
 | [v],[u],h2=>
  simp only[jD,Bool.and_true]at h2;refine⟨v,u,by simp[part,hA w],by rw[h1];simp[part,hA w],?_⟩;rw[h d v u w h2];simp[oB]
 | [],_,h2=>simp[jD]at h2
 | [_],[],h2=>simp[jD]at h2
 |_::_::_,[],h2=>simp[jD]at h2
 | [_],_::_::_,h2=>simp[jD]at h2
 |_::_::_,_::_,h2=>simp[jD]at h2
variable {K:IntKind}
theorem wM.int{P:Program}{t:Nat}(hU:P.underlying t=some (.int K))(hA:fq P t false):wM P 1 t [.i]:=wM.one hA (by
 intro d v u w h;cases v<;>cases u<;>simp only[P4,Bool.false_eq_true]at h
 rename_i k a k' b;have:k=k':=by simpa using h
 subst this;rw[run_equalIn_int w d t k K a b hU];rfl)
def kZ:Nat->List TK->List TK
 |0,_=>[]
 |n+1,ks=>ks++kZ n ks
variable {e m:Nat}
theorem Fj.array{P:Program}{t len:Nat}(hU:P.underlying t=some (.array len e))(hZ:n9 P e m)(hm:ks.length=m)(h:wM P k e ks):Fj P (k+1) t (kZ len ks):=by
 intro d xs ys w hs;have key:∀(n i:Nat) (p1 c1 p2 c2:List Value),p1.length=i*m->p2.length=i*m->jD (kZ n ks) c1 c2=true->
  (do
   for j in List.range' i n do
    if !(<-Op.equalIn (d+k) e (<-part e (p1++c1).toArray (j*m)) (<-part e (p2++c2).toArray (j*m)))then return false
   pure true:Sem Bool).run P w= .ok (oB c1 c2) w:=by
  intro n;induction n with
  |zero=>
   intro i p1 c1 p2 c2 _ _ hs
   match c1,c2,hs with
   | [],[],_=>simp[oB]
   |_::_,_,hs=>simp[kZ,jD]at hs
   | [],_::_,hs=>simp[kZ,jD]at hs
  |succ n ih=>
   intro i p1 c1 p2 c2 yn tv hs;have hl:=nIn hs;simp only[kZ,cF]at hl;obtain⟨a1,b1,rfl,eK⟩:∃a b,c1=a++b/\a.length=ks.length:=⟨c1.take ks.length,c1.drop ks.length,(Dy _ _).symm,by simp;omega⟩;obtain⟨a2,b2,rfl,cE⟩:∃a b,c2=a++b/\a.length=ks.length:=⟨c2.take ks.length,c2.drop ks.length,(Dy _ _).symm,by simp;omega⟩;simp only[kZ]at hs;rw[nki eK cE,gb]at hs;obtain⟨x,y,hx,hy,he⟩:=h d p1 a1 b1 p2 a2 b2 w zM hs.1;rw[yn]at hx hy;have u2:=ih (i+1) (p1++a1) b1 (p2++a2) b2 (by rw[cF,yn,eK,hm,lI];omega) (by rw[cF,tv,cE,hm,lI];omega) hs.2;simp only[i7]at u2;rw[n9h zM];simp only[List.range'_succ,List.forIn_cons,Sem.run_bind,hx,hy,he,Result.andThen]at u2 ⊢;cases hq:oB a1 a2 with
   |false=>simp[Sem.run]
   |true=>
    simp only[Bool.not_true,Bool.false_eq_true,if_false,Bool.true_and,Sem.run_pure];exact u2
 have:=key len 0 [] xs [] ys z1 z1 hs;simp only[dX]at this;rw[<-Nat.add_assoc];simp only[Op.equalIn,Sem.run_bind,run_underlying hU,Result.andThen_ok,hZ w];rw[Std.Legacy.Range.forIn_eq_forIn_range'];simpa[Std.Legacy.Range.size]using this
section
variable {C:Cx} {E:Env} {G:Gh} {L:List World} {H:ae} {T U:Nat} {x y:Operand}
theorem gZ{iX bs:Array Value}(h:Fj C.P k T ks)(hk:Nat.ble k 10000=true)(hg:C.P.eqGuardType C.P.depth T=false)(hx:ev E x=some (.agg iX))(hy:ev E y=some (.agg bs))(hs:jD ks iX.toList bs.toList=true):RV C G L H E (.binOp .eql T x y U) (.bool (oB iX.toList bs.toList)):=λd ty pos aD g a W hF _=>by
 have h1:=h (10000-k) iX.toList bs.toList W hs;rw[show 10000-k+k=10000 by have:=aV hk;omega]at h1;simp only[Array.toArray_toList]at h1;have h2:=run_eql_struct (P:=C.P) W T iX bs;rw[h1]at h2;have h3:=run_eqGuard_agg (P:=C.P) W .eql T x y iX bs hg;simp only[execOp,hF.ev hx,hF.ev hy,Sem.run_bind,h3,h2,Result.andThen];rfl
theorem jM{iX bs:Array Value}(h:Fj C.P k T ks)(hk:Nat.ble k 10000=true)(hg:C.P.eqGuardType C.P.depth T=false)(hx:ev E x=some (.agg iX))(hy:ev E y=some (.agg bs))(hs:jD ks iX.toList bs.toList=true):RV C G L H E (.binOp .neq T x y U) (.bool (!oB iX.toList bs.toList)):=λd ty pos aD g a W hF _=>by
 have h1:=h (10000-k) iX.toList bs.toList W hs;rw[show 10000-k+k=10000 by have:=aV hk;omega]at h1;simp only[Array.toArray_toList]at h1;have h2:=run_neq_struct (P:=C.P) W T iX bs;rw[h1]at h2;have h3:=run_eqGuard_agg (P:=C.P) W .neq T x y iX bs hg;simp only[execOp,hF.ev hx,hF.ev hy,Sem.run_bind,h3,h2,Result.andThen];rfl
theorem nLn{P:Program}(hU:P.underlying T=some (.slice e))(n c:Nat)(d:Nat)(W:World):(Op.equalIn (d+1) T (.slice none n c) (.slice none 0 0)).run P W= .ok true W:=by
 exact Q9
theorem KK(hU:C.P.underlying T=some (.slice e))(hx:ev E x=some (.slice none 0 0))(hy:ev E y=some (.slice none 0 0)):RV C G L H E (.binOp .eql T x y U) (.bool true):=λd ty pos aD g a W hF _=>by
 have h1:(eqGuard .eql T x y (.slice none 0 0) (.slice none 0 0)).run C.P W= .ok () W:=by simp[eqGuard]
 have h2:(binOp .eql T (.slice none 0 0) (.slice none 0 0)).run C.P W= .ok (.bool true) W:=by
  have e:binOp .eql T (.slice none 0 0) (.slice none 0 0)=(do pure (.bool (<-Op.equalIn (9999+1) T (.slice none 0 0) (.slice none 0 0)))):=rfl;rw[e,Sem.run_bind,nLn hU];rfl
 exact zGk
end
variable {kt:Nat}
theorem P5{P:Program}(hK:P.underlying kt=some (.int .i64))(b:Bool)(k:Int):(Instr.checkKey b 10000 kt (.int .i64 k)).run P W= .ok () W:=by
 show(Instr.checkKey b (9999+1) kt (.int .i64 k)).run P W= .ok () W;generalize 9999=n;simp[Instr.checkKey,run_underlying hK]
variable {es:Array MapEntry} {b:Nat}
theorem Er{P:Program}{c:Nat}(h:W.heap[b]? =some (.map es c)):(getObj b).run P W= .ok (.map es c) W:=by simp[getObj,Sem.run,h]
theorem P6{P:Program}{c:Nat}(o':Obj)(h:W.heap[b]? =some (.map es c)):(setObj b o').run P W= .ok () (W.putObj b o'):=by simp[setObj,Sem.run,h,World.putObj]
section
variable {C:Cx} {Q:aG} {E:Env} {D:List Deferred} {G:Gh} {L:List World} {H:ae} {ops:Array Oper} {l:List Oper}
variable {d T ty:Nat} {pos:String} {aD:Array Edge} {g:Option (Nat×Bool)} {x y z:Operand}
def bL (G:Gh) (L:List World) (H:ae) (b:Nat) (o:Obj):Prop:=∀W,St G L H W->W.heap[b]? =some o
variable {i:Nat} {o:Obj}
theorem bL.own(hi:H[i]? =some (b,o)):bL G L H b o:=λ_ hS=>hS.own _ (cC hi)
theorem bL.old{w:World}(hm:w∈L)(hb:w.heap[b]? =some o)(hG:¬G.X b)(hO:bE H b):bL G L H b o:=λ_ hS=>hS.old hm hb hG hO
end
def ah {α:Type} (enc:α->Array Value) (n N:Nat) (w:World) (a:Option Addr) (xs:List α):Prop:=
 xs=[]\/∃b off cs t fr,a=some ⟨b,off,none⟩/\b<N/\w.heap[b]? =some (.cells cs t fr)/\∀i (h:i<xs.length),off+i*n+n<=cs.size/\cut cs (off+i*n) n=enc xs[i]
section
variable {α:Type} {enc:α->Array Value} {n N N':Nat} {w w':World} {a:Option Addr} {xs:List α}
theorem ah.up(h:ah enc n N w a xs)(hN:N<=N')(hw:∀k,k<N->w'.heap[k]? =w.heap[k]?):ah enc n N' w' a xs:=by
 rcases h with h|⟨b,off,cs,t,fr,h1,h2,h3,h4⟩
 ·exact .inl h
 exact .inr ⟨b,off,cs,t,fr,h1,by omega,(hw b h2).trans h3,h4⟩
theorem ah.get(h:ah enc n N w a xs)(hx:0<xs.length):∃b off cs t fr,a=some ⟨b,off,none⟩/\b<N/\w.heap[b]? =some (.cells cs t fr)/\∀i (h:i<xs.length),off+i*n+n<=cs.size/\cut cs (off+i*n) n=enc xs[i]:=by
 rcases h with rfl|h
 ·simp at hx
 exact h
variable {cs:Array Value} {fr:Nat×Nat}
theorem ah.block{t:Nat}(hb:b<N)(h:w.heap[b]? =some (.cells cs t fr))(hx:∀i (h:i<xs.length),i*n+n<=cs.size/\cut cs (i*n) n=enc xs[i]):ah enc n N w (some ⟨b,0,none⟩) xs:=
 .inr ⟨b,0,cs,t,fr,rfl,hb,h,λi hi=>by rw[i6];exact hx i hi⟩
end
variable {cs:Array Value}
theorem uJ{n:Nat}{r:Array Value}(h:cut cs k n=r)(j:Nat)(hj:j<n):cs[k+j]? =r[j]? :=by
 subst h;unfold cut;conv=>rhs;rw[Dr,Kn hj,wv,xO]
section
variable {α:Type} {enc:α->Array Value} {n off:Nat} {cs:Array Value} {xs:List α}
variable {j:Nat}
theorem vE(h:∀i (h:i<xs.length),off+i*n+n<=cs.size/\cut cs (off+i*n) n=enc xs[i]){x:α}(hj:xs[j]? =some x){i:Int}(hi:i=(j:Int))(k:Nat)(hk:k<n):cs[off+i.toNat*n+k]? =(enc x)[k]? :=by
 obtain⟨h1,h2⟩:=gD.1 hj;subst hi;rw[wE,uJ (h j h1).2 k hk,h2]
theorem nS(h:∀i (h:i<xs.length),off+i*n+n<=cs.size/\cut cs (off+i*n) n=enc xs[i]){x:α}(hj:xs[j]? =some x){i:Int}(hi:i=(j:Int))(hn:0<n):cs[off+i.toNat*n]? =(enc x)[0]? :=by
 have:=vE h hj hi 0 hn;rwa[Nat.add_zero]at this
theorem np(h:∀i (h:i<xs.length),off+i*n+n<=cs.size/\cut cs (off+i*n) n=enc xs[i]){x:α}(hj:xs[j]? =some x){i:Int}(hi:i=(j:Int)):cut cs (off+i.toNat*n) n=enc x:=by
 obtain⟨h1,h2⟩:=gD.1 hj;subst hi;rw[wE,(h j h1).2,h2]
theorem ni(h:∀i (h:i<xs.length),off+i*n+n<=cs.size/\cut cs (off+i*n) n=enc xs[i]){x:α}(hj:xs[j]? =some x){i:Int}(hi:i=(j:Int)):off+i.toNat*n+n<=cs.size:=by
 obtain⟨h1,_⟩:=gD.1 hj;subst hi;rw[wE];exact(h j h1).1
end
def encI (x:Int):Array Value:=#[.int .i64 x]
variable {j:Nat}
theorem nz{α:Type}{xs:List α}{x:α}(h:xs[j]? =some x):xs.take (j+1)=xs.take j++[x]:=by
 obtain⟨h1,h2⟩:=gD.1 h;rw[Ij h1,h2]
theorem nk{α:Type}(xs:List α)(j:Nat)(h:j<xs.length):∃x,xs[j]? =some x:=⟨_,gV h⟩
theorem nE{α:Type}{xs:List α}{x:α}(h:xs[j]? =some x):j<xs.length:=(gD.1 h).1
section
variable {C:Cx} {Q:aG} {fn:Func} {R:Ending->World->Prop} {E:Env} {D:List Deferred} {G:Gh} {L L':List World} {H:ae} {e:Exit}
theorem WI(h:∀w∈L',w∈L)(k:PJ C Q e E D G L' H):PJ C Q e E D G L H:=λa W hN hD hF hS=>k a W hN hD hF (hS.lessL h)
end
section
variable {C:Cx} {E:Env} {G:Gh} {L:List World} {H:ae} {T:Nat} {x y:Operand}
end
variable {C:Cx} {E:Env} {T:Nat} {x:Operand}
theorem LO{U:Nat}{y:Operand}{a b:Bool}(hU:C.P.underlying T=some .bool)(hx:ev E x=some (.bool a))(hy:ev E y=some (.bool b)):RV C G L H E (.binOp .eql T x y U) (.bool (a==b)):=λd ty pos aD g ac W hF _=>by
 have h1:(Op.equalIn (9999+1) T (.bool a) (.bool b)).run C.P W= .ok (a==b) W:=by
  generalize 9999=n;exact Q9
 have h2:(binOp .eql T (.bool a) (.bool b)).run C.P W= .ok (.bool (a==b)) W:=by
  have e:binOp .eql T (.bool a) (.bool b)=(do pure (.bool (<-Op.equalIn (9999+1) T (.bool a) (.bool b)))):=rfl;rw[e,Sem.run_bind,h1];rfl
 have h3:(eqGuard .eql T x y (.bool a) (.bool b)).run C.P W= .ok () W:=by simp[eqGuard]
 simp only[execOp,hF.ev hx,hF.ev hy,Sem.run_bind,h3,h2,Result.andThen];rfl
/-! ### what comes in -/
theorem nLh{α:Type}{p:Nat->α->Prop}:∀n,(∀i,i<n->∃x,p i x)->∃xs:List α,xs.length=n/\∀i x,xs[i]? =some x->p i x
 |0,_=>⟨[],rfl,λi x h=>by simp at h⟩
 |n+1,h=>by
  obtain⟨xs,h1,h2⟩:=nLh n λi hi=>h i zM;obtain⟨x,hx⟩:=h n zM;refine⟨xs++[x],by simp[h1],λi y hy=>?_⟩;by_cases hi:i<xs.length
  ·rw[xP hi]at hy;exact h2 i y hy
  have e:i=n:=by
   have:=nE hy;simp at this;omega
  subst e;rw[Dq zM,h1,Nat.sub_self]at hy;obtain rfl:x=y:=by simpa using hy
  exact hx
theorem Oc{n:Nat}{r:List Value}(hn:0<n)(hr:r.length=n)(h:∀j,j<n->cs[k+j]? =r[j]?):k+n<=cs.size/\cut cs k n=r.toArray:=by
 constructor
 ·have h1:=h (n-1) zM;rw[gV zM]at h1;have:=(aM.1 h1).1;omega
 unfold cut;congr 1;apply vg;intro i;by_cases hi:i<n
 ·rw[Kn hi,wv,xO];exact h i hi
 rw[List.getElem?_take_eq_none zM,tY zM]
variable {i:Nat} {v:Value}
theorem n3n(h:W.cell? ⟨b,i,none⟩=some v):∃cs t fr,W.heap[b]? =some (.cells cs t fr)/\cs[i]? =some v:=by
 unfold World.cell? at h;cases hb:W.heap[b]? with
 |none=>simp[hb]at h
 |some o=>
  cases o with
  |cells cs t fr=>simp[hb]at h;exact⟨cs,t,fr,rfl,h⟩
  |_=>simp[hb]at h
theorem YK(b off n:Nat):(⟨b,off,none⟩:Addr).add n=⟨b,off+n,none⟩:=JY b off n
theorem H5{α:Type}{enc:α->Array Value}{n:Nat}(hn:0<n){a:Addr}{xs:List α}(h:∀i x,xs[i]? =some x->∃eo:List Value,W.cells? 0 (a.add (i*n)) n=some eo/\eo=(enc x).toList):ah enc n W.heap.size W (some a) xs:=by
 rcases xs with _|⟨x0,xs⟩
 ·exact .inl rfl
 right;obtain⟨c0,h0,_⟩:=h 0 x0 rfl;rw[Nat.zero_mul]at h0;obtain⟨_,Dd,hc0⟩:=World.cells?_some h0;have e0:=hc0 0 hn;rw[gV zM]at e0;obtain⟨b,off,spot⟩:=a;have hs:spot=none:=by simpa[Addr.add]using World.cell?_spot e0
 subst hs;rw[YK,YK]at e0;obtain⟨cs,t,fr,hb,_⟩:=n3n e0;refine⟨b,off,cs,t,fr,rfl,(aM.1 hb).1,hb,λi hi=>?_⟩;obtain⟨c1,h1,e1⟩:=h i _ (gV hi);rw[YK]at h1;obtain⟨_,mr,aj⟩:=World.cells?_some h1;have:=Oc (cs:=cs) (k:=off+i*n) (r:=c1) hn mr (λj hj=>by
  have:=aj j hj;rw[YK,Dz hb]at this;exact this)
 refine⟨this.1,?_⟩;rw[this.2,e1]
section
variable {H:Type} {enc:TypeId×Value->H} {P:Program} {w:World} {held:Bool}
theorem sl_in{α:Type}{el:α->Array Value}{n t fuel:Nat}{cs:List Value}{x:DataW H×List MemPlace}(q:α->Prop)(hn:0<n)(ht:P.underlying t=some (.slice e))(hc:P.cellsOf e=n)(h:DataW.trod enc P w 0 (λ_=>true) held fuel t cs=some x)(pE:∀eo m y,eo.length=n->DataW.trod enc P w 0 (λ_=>true) held m e eo=some y->∃z,eo=(el z).toList/\q z):∃a xs cap,cs=[.slice a xs.length cap]/\ah el n w.heap.size w a xs/\(∀z∈xs,q z)/\xs.length<=maxLen:=by
 rcases Go.Deep.open_slice ht h with⟨rfl,_⟩|⟨a,len,cap,m,nn,D,Pl,rfl,_,hl,hm,wV,_,hx⟩
 ·exact⟨none,[],0,rfl,.inl rfl,by simp,cZ _⟩
 have JO:len<=m:=by rw[wV];simpa using hl
 obtain⟨xs,h1,h2⟩:=nLh (p:=λi z=>∃eo,w.cells? 0 (a.add (i*n)) n=some eo/\eo=(el z).toList/\q z) len (λi hi=>by
  obtain⟨eo,g1,g2⟩:=hx i zM;rw[hc]at g1;obtain⟨z,g3,g4⟩:=pE eo nn _ (World.cells?_some g1).2.1 g2;exact⟨z,eo,g1,g3,g4⟩)
 refine⟨some a,xs,cap,by rw[h1],H5 hn (λi z hz=>?_),λz hz=>?_,by omega⟩
 ·obtain⟨eo,g1,g2,_⟩:=h2 i z hz;exact⟨eo,g1,g2⟩
 obtain⟨i,hi⟩:=List.getElem?_of_mem hz;exact(h2 i z hi).choose_spec.2.2
theorem uV{cs:List Value}(h:(cs.drop i).take 1=[v]):cs[i]? =some v:=by
 have:=congrArg (λl=>l[0]?) h;simpa[List.getElem?_take,wv]using this
theorem wfI{n:Int}(h:(Lit.int .i64 n).wf=true): -9223372036854775808<=n/\n<=9223372036854775807:=bounds_i64 h
theorem arr_ints{t n fuel base:Nat}{spare:Nat->Bool}{k:IntKind}{cs:List Value}{ns:List Int}{ps:List MemPlace}(ht:P.underlying t=some (.array n e))(he:P.underlying e=some (.int k))(hc:P.cellsOf e=1)(hn:P.cellsOf t=n)(h:DataW.trod enc P w base spare held fuel t cs=some (.agg (ns.map λx=>.lit (.int k x)),ps)):cs=ns.map λx=>.int k x:=by
 obtain⟨xs,m,rfl,hx,hl,cb,pE⟩:=DataW.trod_array ht h;simp only[Prod.mk.injEq,DataW.agg.injEq]at hx;have hlen:ns.length=n:=by have:=congrArg List.length hx.1;simpa[cb]using this
 apply List.ext_getElem (by rw[hl,hn];simp[hlen]);intro i h1 h2;have hi:i<n:=by rw[hl,hn]at h1;exact h1
 have DI:i<ns.length:=by omega
 have e1:=pE i hi;rw[hc]at e1;have hxi:i<xs.length:=by omega
 rw[gV hxi]at e1;obtain⟨q,e2,e3,_⟩:=DataW.trod_int he e1;have e4:(xs.map (·.1))[i]'(by simpa using hxi)= .lit (.int k q):=by simp[e3]
 have e5:(xs.map (·.1))[i]'(by simpa using hxi)= .lit (.int k ns[i]):=by
  have:(xs.map (·.1))=ns.map λx=>.lit (.int k x):=hx.1.symm;simp only[this,JQ]
 rw[e4]at e5;have e6:q=ns[i]:=by injection e5 with e7;injection e7
 subst e6;have e8:cs[i]= .int k ns[i]:=by
  have:=congrArg (λl=>l[0]?) e2;simp[List.getElem?_take,wv]at this;rw[gV h1]at this;exact Option.some.inj this
 rw[e8,JQ]
end
theorem Nz{l:List Value}(hs:cs.size=l.length)(h:∀i,i<l.length->cs[i]? =l[i]?):cs=l.toArray:=by
 apply Array.ext';apply vg;intro i;rw[xO];by_cases hi:i<l.length
 ·rw[h i hi]
 rw[tY Jt,Array.getElem?_eq_none zM]
/-! ### rows of elements: a list that grows from nil -/
/-- the cells of a list of elements -/
def eJ {α:Type} (enc:α->List Value) (xs:List α):List Value:=xs.flatMap enc
theorem rY{α:Type}{enc:α->List Value}(h:∀x,(enc x).length=m)(xs:List α):(eJ enc xs).length=xs.length*m:=by
 induction xs with
 |nil=>simp[eJ]
 |cons x xs ih=>simp only[eJ,Iy,cF,dW]at *;rw[h,ih,lI];omega
theorem O2{α:Type}(enc:α->List Value)(xs ys:List α):eJ enc (xs++ys)=eJ enc xs++eJ enc ys:=by simp[eJ]
theorem H6{α:Type}(enc:α->List Value)(x:α):eJ enc [x]=enc x:=by simp[eJ]
theorem S6{α:Type}{enc:α->List Value}{m:Nat}(h:∀x,(enc x).length=m):∀(xs:List α) (sp:List Value) (i:Nat) (hi:i<xs.length),((eJ enc xs++sp).drop (i*m)).take m=enc xs[i]
 | [],_,i,hi=>by simp at hi
 |x::xs,sp,0,_=>by
  simp only[eJ,Iy,Nat.zero_mul,Rs,i7,List.getElem_cons_zero];rw[Ro (h x)]
 |x::xs,sp,i+1,hi=>by
  have:=S6 h xs sp i Jt;simp only[eJ,Iy,i7,List.getElem_cons_succ]at *;rw[show(i+1)*m=m+i*m by rw[lI];omega,<-Pm,List.drop_left' (h x)];exact this
theorem C9{α:Type}{enc:α->List Value}(h:∀x,∀u∈enc x,u.oneCell'=true)(xs:List α):∀u∈eJ enc xs,u.oneCell'=true:=by
 intro u hu;obtain⟨x,_,hx⟩:=OP.1 hu;exact h x u hx
inductive Rw where
 |nil
 |row (b cap:Nat) (sp:List Value)
def Rw.val (n:Nat):Rw->Value
 | .nil=>.slice none 0 0
 | .row b cap _=>.slice (some ⟨b,0,none⟩) n cap
theorem Rw.val_cells(n:Nat)(r:Rw):(r.val n).cells=#[r.val n]:=by cases r<;>rfl
theorem Rw.val_size(n:Nat)(r:Rw):(r.val n).cells.size=1:=by cases r<;>rfl
theorem Rw.val_one(n:Nat)(r:Rw):nV (r.val n).cells.toList=true:=by cases r<;>rfl
abbrev cD {α:Type} (enc:α->List Value) (t:Nat) (xs:List α) (sp:List Value):Obj:=.cells (eJ enc xs++sp).toArray t (0,0)
def Rw.hp {α:Type} (enc:α->List Value) (t:Nat) (xs:List α):Rw->ae
 | .nil=>[]
 | .row b _ sp=>[(b,cD enc t xs sp)]
def Rw.Fit {α:Type} (m:Nat) (xs:List α):Rw->Prop
 | .nil=>xs=[]
 | .row _ cap sp=>xs.length<=cap/\sp.length=(cap-xs.length)*m
def Rw.Fr (G:Gh) (L:List World):Rw->Prop
 | .nil=>True
 | .row b _ _=>Px.Fr G L b
def Rw.ge (n:Nat):Rw->Prop
 | .nil=>True
 | .row b _ _=>n<=b
def Rw.isAt (k:Nat):Rw->Prop
 | .nil=>False
 | .row b _ _=>b=k
variable {r:Rw}
theorem Rw.Fr_at(h:r.Fr G L)(hk:r.isAt k):Px.Fr G L k:=by
 cases r with
 |nil=>exact hk.elim
 |row b cap sp=>cases hk;exact h
theorem Rw.ge_at{n:Nat}(h:r.ge n)(hk:r.isAt k):n<=k:=by
 cases r with
 |nil=>exact hk.elim
 |row b cap sp=>cases hk;exact h
def Rw.At {α:Type} (enc:α->List Value) (t:Nat) (xs:List α) (w:World):Rw->Prop
 | .nil=>True
 | .row b _ sp=>w.heap[b]? =some (cD enc t xs sp)
theorem Rw.mem_at{α:Type}{enc:α->List Value}{t:Nat}{xs:List α}(hk:r.isAt k):k∈(r.hp enc t xs).map (·.1):=by
 cases r with
 |nil=>exact hk.elim
 |row b cap sp=>cases hk;simp[Rw.hp]
theorem Rw.off_ge{α:Type}{enc:α->List Value}{t n:Nat}{xs:List α}(h:r.ge n)(hk:k<n):bE (r.hp enc t xs) k:=by
 cases r with
 |nil=>trivial
 |row b cap sp=>exact⟨by have:n<=b:=h;omega,trivial⟩
theorem Rw.ge_mono{n n':Nat}(h:r.ge n)(hn:n'<=n):r.ge n':=by
 cases r with
 |nil=>trivial
 |row b cap sp=>exact aS hn h
theorem Rw.over{α:Type}{enc:α->List Value}{t n:Nat}{xs:List α}(h:r.ge n):Over n (r.hp enc t xs):=by
 cases r with
 |nil=>trivial
 |row b cap sp=>exact⟨h,trivial⟩
variable {H':ae}
theorem ne:bE (H++H') k↔bE H k/\bE H' k:=by
 induction H with
 |nil=>simp[bE]
 |cons p H ih=>simp only[eY,bE,ih,and_assoc]
theorem nY:Over k (H++H')↔Over k H/\Over k H':=by
 induction H with
 |nil=>simp[Over]
 |cons p H ih=>simp only[eY,Over,ih,and_assoc]
theorem Fr.ge{w:World}(h:Px.Fr G L b)(hX:¬G.X b)(hw:w∈L):w.heap.size<=b:=by
 rcases h with h|h
 ·exact absurd h hX
 exact h.mem w hw
theorem Rw.ge_of{w:World}(h:r.Fr Gh.no L)(hw:w∈L):r.ge w.heap.size:=by
 cases r with
 |nil=>trivial
 |row b cap sp=>exact Fr.ge (G:=Gh.no) h zX hw
theorem Rw.mem_ge{α:Type}{enc:α->List Value}{t n:Nat}{xs:List α}(h:r.ge n)(hk:k∈(r.hp enc t xs).map (·.1)):n<=k:=by
 cases r with
 |nil=>simp[Rw.hp]at hk
 |row b cap sp=>simp[Rw.hp]at hk;subst hk;exact h
structure lQ (P:Program) (t e m:Nat):Prop where
 und:P.underlying t=some (.slice e)
 info:∃ti z,P.info? e=some ti/\ti.zero=some z/\ti.size=m/\z.cells.size=m/\ti.bytes<=100000
section
variable {C:Cx} {Q:aG} {E:Env} {D:List Deferred} {G:Gh} {L:List World} {H H0 H1:ae} {ops:Array Oper} {l:List Oper}
variable {d T ty f:Nat} {pos:String} {aD:Array Edge} {g:Option (Nat×Bool)} {x y:Operand} {xo:List Operand} {vs:List Value} {ea:Array Nat}
variable {α:Type} {enc:α->List Value} {m:Nat}
def dt (C:Cx) (G:Gh) (L:List World) (H:ae) (enc:α->List Value) (m tx:Nat) (sv:Value) (zs:List α):Prop:=jJ C G L H m tx sv zs.length (eJ enc zs)
variable {tx:Nat} {fr:Nat×Nat}
theorem dt.at{e' off c t:Nat}{zs:List α}(hm:∀x,(enc x).length=m)(h1:∀x,∀u∈enc x,u.oneCell'=true)(hU:C.P.underlying tx=some (.slice e'))(hb:bL G L H b (.cells cs t fr))(hn:off+zs.length*m<=cs.size)(he:(cs.toList.drop off).take (zs.length*m)=eJ enc zs):dt C G L H enc m tx (.slice (some ⟨b,off,none⟩) zs.length c) zs:=
 jJ.sl hU (λW hS=>by rw[YH (hb W hS) hn];unfold cut;rw[he]) (rY hm zs) (C9 h1 zs)
theorem dt.one{e' c t:Nat}{z:α}(hm:∀x,(enc x).length=m)(h1:∀x,∀u∈enc x,u.oneCell'=true)(hU:C.P.underlying tx=some (.slice e'))(hb:bL G L H b (.cells (enc z).toArray t fr)):dt C G L H enc m tx (.slice (some ⟨b,0,none⟩) 1 c) [z]:=
 dt.at (zs:=[z]) hm h1 hU hb (by simp[hm]) (by simp only[Rs,BH,Nat.one_mul,H6];rw[<-hm z];exact IS)
variable {sv:Value}
theorem oY{t:Nat}{xs zs:List α}(hH:H=H0++(r.hp enc e xs++H1))(hT:lQ C.P t e m)(hm:∀x,(enc x).length=m)(hw:nq ops E g=some true)(hN:Nat.blt d C.N=true)(hx:ev E x=some (r.val xs.length))(hy:ev E y=some sv)(hs:dt C G L H enc m tx sv zs)(hr:r.Fit m xs)(hf:r.Fr G L)(h0:0<zs.length)(gU:xs.length+zs.length<=1000000)(k:∀(b' aT:Nat) (bK:List Value),(r.isAt b'\/ad L b')->(Rw.row b' aT bK).Fit m (xs++zs)->OJ C ops Q l ((d,.slice (some ⟨b',0,none⟩) (xs++zs).length aT)::E) D G L (H0++((b',cD enc e (xs++zs) bK)::H1))):OJ C ops Q (⟨some d,.call ⟨.builtin .append,#[x,y],#[t,tx]⟩,ty,pos,aD,g⟩::l) E D G L H:=
 pw z1 hw hN λa W hF hS=>by
  obtain⟨ti,z,p4,hz,jy,uA,o8⟩:=hT.info;have hl:(xs++zs).length=xs.length+zs.length:=cF;have hB:(xs.length+zs.length)*ti.bytes<=140737488355328:=aS (Nat.mul_le_mul gU o8) zQ;cases r with
  |nil=>
   have iP:xs=[]:=hr;subst iP;rw[lC,i6]at hB;obtain⟨aT,bK,W',gy,fZ,xF,ki⟩:=hS.appN (P:=C.P) (ty:=ty) hT.und p4 hz jy uA (hs.src hS) h0 zM hB;refine⟨.slice (some ⟨W.heap.size,0,none⟩) zs.length aT,W',L,H0++((W.heap.size,cD enc e ([]++zs) bK)::H1),?_,?_,?_⟩
   ·have hxx:ev E x=some (.slice none 0 0):=hx;simp[execOp,hF.ev hxx,hF.ev hy,resolve,invoke,Deferred.ofValue,builtin,gy]
   ·rw[hH]at fZ;exact fZ.perm (by simpa[Rw.hp,dX]using List.perm_middle.symm)
   exact k _ _ _ (.inr hS.sizes) ⟨by simpa using xF,by simpa using ki⟩
  |row b cap sp=>
   obtain⟨hc,zu⟩:=hr;have hi:H[H0.length]? =some (b,.cells (eJ enc xs++sp).toArray e (0,0)):=by rw[hH];simp[Rw.hp]
   obtain⟨b',aT,bK,W',gy,fZ,eI,xF,ki⟩:=hS.app (P:=C.P) (ty:=ty) hi hT.und p4 hz jy uA (hs.src hS) (rY hm xs) zu hc hf zM hB;have Vm:(Rw.row b cap sp).isAt b'\/ad L b':=by
    rcases eI with rfl|eI
    ·exact .inl rfl
    exact .inr (J9 hS eI)
   refine⟨.slice (some ⟨b',0,none⟩) (xs.length+zs.length) aT,W',L,_,?_,fZ,?_⟩
   ·have hxx:ev E x=some (.slice (some ⟨b,0,none⟩) xs.length cap):=hx;simp[execOp,hF.ev hxx,hF.ev hy,resolve,invoke,Deferred.ofValue,builtin,gy]
   have:=k b' aT bK Vm ⟨by rw[hl];exact xF,by rw[hl];exact ki⟩;rw[hl]at this;rw[hH];simpa[Rw.hp,cD,O2]using this
theorem Rw.sl{t:Nat}{xs:List α}{w:World}(hm:∀x,(enc x).length=m)(hr:r.Fit m xs)(hA:r.At enc t xs w)(hN:w.heap.size<=N):∃a cap,r.val xs.length= .slice a xs.length cap/\ah (λx=>(enc x).toArray) m N w a xs:=by
 cases r with
 |nil=>
  have iP:xs=[]:=hr;subst iP;exact⟨none,0,rfl,.inl rfl⟩
 |row b cap sp=>
  have hA':w.heap[b]? =some (cD enc t xs sp):=hA;refine⟨_,_,rfl,ah.block (kJ (aM.1 hA').1 hN) hA' λi hi=>⟨?_,?_⟩⟩
  ·have h1:(i+1)*m<=xs.length*m:=uF _ hi;rw[lI]at h1;simp only[rH,cF,rY hm];omega
  unfold cut;rw[S6 hm xs sp i hi]
def nC (w:World) (enc:α->List Value) (m t:Nat) (xs:List α) (v:Value->Value):Ending->World->Prop:=λe w'=>
 ∃r:Rw,e= .returned (v (r.val xs.length))/\Below w.heap.size w w'/\r.ge w.heap.size/\r.Fit m xs/\r.At enc t xs w'
variable {fv:Operand}
theorem Aa{t:Nat}{xs:List α}{v:Value->Value}{first cap:List Value}(hx:ev E fv=some (.func (.func f) first.toArray cap.toArray))(az:dR C.P f)(hw:nq ops E g=some true)(hN:Nat.blt d C.N=true)(ha:iv E xo=some vs)(hc:∀W,St G L H W->Calls C.P f (first++vs++cap).toArray W (nC W enc m t xs v))(k:∀r:Rw,r.Fr G L->r.Fit m xs->OJ C ops Q l ((d,v (r.val xs.length))::E) D G L (r.hp enc t xs++H)):OJ C ops Q (⟨some d,.call ⟨.value fv,xo.toArray,ea⟩,ty,pos,aD,g⟩::l) E D G L H:=
 nZ rfl hw hx ha z1 az λa W iu hD hF hS=>(hc W hS).mono (by
  rintro ed W' ⟨r,rfl,hb,lN,bT,gn⟩;refine k r ?_ bT (a.put (some d) (v (r.val xs.length))) W' kO jW (hF.put _ lM) ?_
  ·cases r with
   |nil=>trivial
   |row b cap sp=>exact Fr.up hS lN
  cases r with
  |nil=>exact hS.step hb
  |row b cap sp=>exact(hS.step hb).adopt gn (C5 hS lN) (λhv=>by have:=hS.vlt _ hv;have:W.heap.size<=b:=lN;omega))
theorem vx{t:Nat}{xs:List α}{v:Value->Value}{first cap:List Value}(hx:ev E fv=some (.func (.func f) first.toArray cap.toArray))(az:dR C.P f)(hw:nq ops E g=some true)(hN:Nat.blt d C.N=true)(ha:iv E xo=some vs)(hm:∀x,(enc x).length=m)(hc:∀W,St G L H W->Calls C.P f (first++vs++cap).toArray W (nC W enc m t xs v))(k:∀W a cp w1,St G L H W->Below W.heap.size W w1->ah (λx=>(enc x).toArray) m w1.heap.size w1 a xs->(∀b,a=some b->W.heap.size<=b.block)->OJ C ops Q l ((d,v (.slice a xs.length cp))::E) D G (w1::L) H):OJ C ops Q (⟨some d,.call ⟨.value fv,xo.toArray,ea⟩,ty,pos,aD,g⟩::l) E D G L H:=
 nZ rfl hw hx ha z1 az λac W iu hD hF hS=>(hc W hS).mono (by
  rintro ed W' ⟨r,rfl,hb,lN,bT,gn⟩;obtain⟨a,cp,he,aJ⟩:=r.sl hm bT gn (ao _);have:=k W a cp W' hS hb aJ (by
   intro b sG;cases r with
   |nil=>simp only[Rw.val,Value.slice.injEq]at he;rw[<-he.1]at sG;cases sG
   |row b' cap sp=>simp only[Rw.val,Value.slice.injEq]at he;rw[<-he.1]at sG;cases sG;exact lN) (ac.put (some d) (v (.slice a xs.length cp))) W' kO jW (hF.put _ lM) (hS.step hb).snap
  rw[he];exact this)
variable {rs:List ResultVar} {us:List Value}
theorem nU{fn:Func}{t:Nat}{xs:List α}{v:Value->Value}{w:World}{e:Exit}(he:e= .ret\/e= .normal)(hr:fn.results=rs.toArray)(h:RS C Gh.no L H E rs us)(hw:w∈L)(ho:Over w.heap.size H)(hv:J7 us=v (r.val xs.length))(bT:r.Fit m xs)(lN:r.ge w.heap.size)(hH:H=H0++(r.hp enc t xs++H1)):PJ C (bodyPost C.P fn (nC w enc m t xs v)) e E [] Gh.no L H:=
 bH he hr h λW hS=>⟨r,by rw[hv],hS.base hw ho,lN,bT,by
  cases r with
  |nil=>trivial
  |row b cap sp=>exact hS.own (b,cD enc t xs sp) (by rw[hH];simp[Rw.hp])⟩
end
def ai (x:Int):List Value:=[.int .i64 x]
theorem nr(x:Int):(ai x).length=1:=rfl
theorem DL(x:Int):∀u∈ai x,u.oneCell'=true:=by intro u hu;simp[ai]at hu;subst hu;rfl
end Px
