/- The memory of a call, its operations, iterators, slices, maps: lemmas by which the walks go. No condition beyond those that each theorem states. -/
import Derived.Test.YtidnomjiienllaaGreatDoorXb
import Derived.Laws.IdiomStrings
import Derived.Laws.BytesArg
import Derived.RecoverIn
import Derived.Laws.StructEq
import Derived.ProofKit
import Derived.LaidMore
import Derived.OpenShut
import Derived.Stop.Joined
import Derived.Carry
import Derived.Deep.Slices
set_option linter.unusedSimpArgs false
set_option linter.unusedVariables false
set_option linter.unusedSectionVars false
set_option maxRecDepth 20000
set_option maxHeartbeats 8000000
namespace Px
open Go Go.RowKit
theorem nrh{P:Program}(W:World)(t tx ty e:TypeId)(i:TypeInfo)(z:Value)(ht:P.underlying t=some (.slice e))(htx:P.underlying tx=some (.int .i64))(hi:P.info? e=some i)(hz:i.zero=some z)(hzc:z.cells=#[z])(hs:i.size=1)(hb:i.bytes=1)(n:Nat)(h0:0<n)(h1:n<=1099511627776):(Builtin.append_ #[t,tx] ty #[.slice none 0 0,.int .i64 (n:Int)]).run P W= .ok (.slice (some ⟨W.heap.size,0,none⟩) n (grownCap W n 0 e)) (W.drew.alloc (.cells (cf (grownCap W n 0 e) (λ_=>z)) e (0,0))):=by
 have hw:IntKind.i64.wrap (n:Int)=(n:Int):=nXc zG zG;have h48:¬(281474976710656<Builtin.nextslicecap n 0*i.bytes):=by
  have:=growslice_fits (need:=n) (old:=0) (bytes:=i.bytes) zG (by rw[hb];omega);omega
 have hge:=grownCap_ge W n 0 e;have hzc':∀k,Builtin.zeroCells z.cells k=cf k (λ_=>z):=by
  intro k;apply Array.ext';rw[hzc];simp[Builtin.zeroCells,cf,Nat.mod_one]
 have hcat:cf n (λ_=>z)++cf (grownCap W n 0 e-n) (λ_=>z)=cf (grownCap W n 0 e) (λ_=>z):=by
  apply Array.ext';simp only[cf,Array.toList_append];rw[List.map_const',List.map_const',List.map_const'];simp only[List.length_range];rw[List.replicate_append_replicate];congr 1;omega
 rw[<-hcat];simp[Builtin.append_,run_underlying ht,run_underlying htx,Go.sizeOf,typeInfo,zeroValue,hi,hz,asInt,asIntOf,hw,hs,hb,show ¬((n:Int)<0) by omega,show ¬(281474976710656<(n:Int)) by omega,Nat.not_le.2 h0,
  show ¬(9223372036854775807<(n:Int)) by omega,Question.forced,Builtin.firstCells,newRow,grownCap,hzc',show n≠0 by omega]at h48 ⊢
 intro h;omega
structure Seg where
 b:Nat
 off:Nat
 n:Nat
 c:Nat
 m:Nat->Int
def Seg.val (s:Seg):Value:=.slice (some ⟨s.b,s.off,none⟩) s.n s.c
def byts (n:Nat) (m:Nat->Int):List Value:=(List.range n).map λi=>.int .u8 (m i)
def Seg.l (s:Seg):List Value:=byts s.n s.m
def Seg.At (s:Seg) (w:World):Prop:=∃cs t fr,w.heap[s.b]? =some (.cells cs t fr)/\s.off+s.n<=cs.size/\∀i,i<s.n->cs[s.off+i]? =some (.int .u8 (s.m i))
theorem nW(n:Nat)(m:Nat->Int):(byts n m).length=n:=by simp[byts]
theorem nZk(n:Nat)(m:Nat->Int):∀u∈byts n m,u.oneCell'=true:=by
 intro u hu;obtain⟨i,_,rfl⟩:=ano.1 hu;rfl
variable {es:Array MapEntry} {tys:Array Nat} {ops:Array Oper} {cs:Array Value} {C:Cx} {E:Env} {e e':Exit} {G:Gh} {H H':Heap} {K:IntKind} {rqs:List (List Nat)} {ps:List (Nat×Operand)} {Ph:List (Option Value)->List World->Heap->Prop} {ch ds rest:List Nat} {rs:List ResultVar} {ys zs:List UInt8} {news sp sp' us vs:List Value} {L:List World} {N N' T b et i j k kt m tx u:Nat} {fr:Nat×Nat} {o:Obj} {fv x:Operand} {hi:Option Operand} {sv zv:Value} {W w' w1:World}
theorem nkj{off n:Nat}{m:Nat->Int}(h:off+n<=cs.size)(hm:∀i,i<n->cs[off+i]? =some (.int .u8 (m i))):(cs.toList.drop off).take (n*1)=byts n m:=by
 apply aDo;intro i;by_cases hi:i<n
 ·rw[atp zG,aGo,auo,hm i hi];simp[byts,hi]
 rw[aYo zGb,aYo (by rw[nW];omega)]
def nr:List Seg->List Value
 | []=>[]
 |s::ss=>s.l++nr ss
theorem n2m(ss:List Seg)(s:Seg):nr (ss++[s])=nr ss++s.l:=by
 induction ss with
 |nil=>simp[nr]
 |cons x ss ih=>simp[nr,ih]
theorem nHc(ss:List Seg)(j:Nat)(h:j<ss.length):nr (ss.take (j+1))=nr (ss.take j)++ss[j].l:=by
 rw[aep h,n2m]
theorem nTc(ss:List Seg):∀j,(nr (ss.take j)).length<=(nr ss).length:=by
 induction ss with
 |nil=>intro j;simp[nr]
 |cons x ss ih=>intro j;cases j with
  |zero=>simp[nr]
  |succ j=>simp only[aup,nr,aHo];have:=ih j;omega
section
variable {C:Cx} {Q:Post} {E:Env} {D:List Deferred} {G:Gh} {L:List World} {H:Heap} {ops:Array Oper} {l:List Oper}
variable {d T ty f:Nat} {pos:String} {aft:Array Edge} {g:Option (Nat×Bool)} {x y:Operand}
theorem appZ{n e t:Nat}{ti:TypeInfo}{z:Value}(hU:C.P.underlying t=some (.slice e))(hUx:C.P.underlying tx=some (.int .i64))(hti:C.P.info? e=some ti)(hz:ti.zero=some z)(hzc:z.cells=#[z])(hs:ti.size=1)(hb:ti.bytes=1)(hw:nm ops E g=some true)(hN:Nat.blt d C.N=true)(hx:ev E x=some (.slice none 0 0))(hy:ev E y=some (.int .i64 (n:Int)))(h0:0<n)(h1:n<=1099511627776)(k:∀(b cap:Nat),Above L b->Off H b->n<=cap->OJ C ops Q l ((d,.slice (some ⟨b,0,none⟩) n cap)::E) D G L ((b,.cells (cf cap (λ_=>z)) e (0,0))::H)):OJ C ops Q (⟨some d,.call ⟨.builtin .append,#[x,y],#[t,tx]⟩,ty,pos,aft,g⟩::l) E D G L H:=
 nqb zS hw hN λa W hF hS=>by
  have hr:=nrh (P:=C.P) W t tx ty e ti z hU hUx hti hz hzc hs hb n h0 h1;have hS':=(hS.step (nub W (W.drawn+1))).alloc (.cells (cf (grownCap W n 0 e) (λ_=>z)) e (0,0));refine⟨_,_,_,_,?_,hS',k W.heap.size _ hS.sizes hS.offNew (grownCap_ge W n 0 e)⟩;simp[execOp,hF.ev hx,hF.ev hy,resolve,invoke,Deferred.ofValue,builtin,hr]
theorem nvg{f:Nat}{xs:List Operand}{α:Type}{v:α->Value}{bo:α->Nat×Obj}{Φ:α->Prop}(hent:Ent C.P f)(hw:nm ops E g=some true)(hN:Nat.blt d C.N=true)(ha:evs E xs=some vs)(hc:∀W,St G L H W->Calls C.P f vs.toArray W (RetX W v (λx w1=>W.heap.size<=(bo x).1/\Φ x/\w1.heap[(bo x).1]? =some (bo x).2)))(k:∀x,Above L (bo x).1->Off H (bo x).1->Φ x->OJ C ops Q l ((d,v x)::E) D G L (bo x::H)):OJ C ops Q (⟨some d,.call ⟨.value (.func f),xs.toArray,tys⟩,ty,pos,aft,g⟩::l) E D G L H:=
 nN rfl hw rfl ha zS hent λa W hN' hD hF hS=>(hc W hS).mono (by
  rintro e W' ⟨x,rfl,hb,h1,h2,h3⟩;have hoff:Off H (bo x).1:=Off.of_mem λhm=>by
   obtain⟨p,hp,e⟩:=ano.1 hm;have:=hS.lt p hp;omega
  have hab:Above L (bo x).1:=Above.of_mem λw hw=>aco (hS.links w hw).size h1;exact k x hab hoff h2 (a.put (some d) (v x)) W' zrb zpb (hF.put _ zqb)
   ((hS.step hb).adopt h3 hoff (λhv=>by have:=hS.vlt _ hv;omega)))
def sB (s:ByteArray) (i:Nat):Int:=((s.data[i]?.getD 0).toNat:Int)
theorem nEl(s:ByteArray)(c i:Nat)(h:i<s.size):(bytesRow s c)[0+i]? =some (.int .u8 (sB s i)):=by
 have h':i<s.data.size:=h;rw[aVo];unfold bytesRow sB;rw[aso (by simpa using h')];simp only[Array.getElem?_map,aXo h',aTo,Option.getD_some]
theorem ngk(s:ByteArray)(c:Nat):s.size<=(bytesRow s c).size:=by
 unfold bytesRow;simp only[Array.size_append,Array.size_map];exact Nat.le_add_right _ _
theorem cvtSB{src dst e:Nat}{s:ByteArray}(hs:C.P.underlying src=some .string)(hd:C.P.underlying dst=some (.slice e))(he:C.P.underlying e=some (.int .u8))(hw:nm ops E g=some true)(hN:Nat.blt d C.N=true)(hx:ev E x=some (.string s))(k:∀(b cap:Nat) (w1:World) (cs:Array Value) (fr:Nat×Nat),w1.heap[b]? =some (.cells cs e fr)->Above L b->Off H b->¬G.X b->w1.heap.size=b+1->s.size<=cap->0+s.size<=cs.size->(∀i,i<s.size->cs[0+i]? =some (.int .u8 (sB s i)))->OJ C ops Q l ((d,.slice (some ⟨b,0,none⟩) s.size cap)::E) D G (w1::L) H):OJ C ops Q (⟨some d,.convert src dst x,ty,pos,aft,g⟩::l) E D G L H:=
 nqb zS hw hN λa W hF hS=>by
  have hr:=run_bytes_of_string (P:=C.P) W src dst e s hs hd he;have hS':=((hS.step (nub W (W.drawn+1))).step (nNc _ (.cells (bytesRow s (grownCap W s.size 0 e)) e ((bytesRow s (grownCap W s.size 0 e)).size,(bytesRow s (grownCap W s.size 0 e)).size+1)))).snap;refine⟨_,_,_,_,?_,hS',k W.heap.size _ _ _ _ (heap_alloc_new W.drew _) hS.sizes hS.offNew hS.mNew zS (grownCap_ge W s.size 0 e) (by rw[aVo];exact ngk s _) (λi hi=>nEl s _ i hi)⟩;simp[execOp,hF.ev hx,hr]
theorem bldQ_r{n e:Nat}{z:Value}{vs:List (Nat×Value)}(hU:C.P.underlying T=some (.array n e))(hz:nvb C.P T z)(hp:nK C.P e m)(ha:evp E ps=some vs)(hs:vs=seqP 0 (vs.map (·.2)))(hl:z.cells.size=vs.length*m)(hm:nKf m (vs.map (·.2))=true):RV C G L H E (.build T ps.toArray) (.agg (nAb (vs.map (·.2))).toArray):=λd ty pos aft g a W hF _=>by
 have hf:=ngd (pl:=λi=>some (i*m,m)) (ps:=vs) (cs:=z.cells) (ds:=nAb (vs.map (·.2))) (by
  have:=nke m (vs.map (·.2)) 0 [] z.cells.toList hm zS zdc;rw[<-hs,abp,abp]at this;exact this)
 have h2:(ps.toArray).map (λ(i,x)=>(i,a.eval x))=vs.toArray:=by rw[aro,nud hF ps vs ha]
 simp[execOp,h2,Instr.build,hz W,run_underlying hU,hp W,hf]
theorem slN_r{e:Nat}(hU:C.P.underlying T=some (.slice e))(hZ:nK C.P e m)(hx:ev E x=some (.slice none 0 0))(hh:BE E hi 0 0):RV C G L H E (.slice T x none hi none) (.slice none 0 0):=λd ty pos aft g a W hF _=>by
 have:=nul (P:=C.P) (W:=W) hF true (lo:=none) (hi:=hi) (n:=0) (c:=0) (l:=0) (h:=0) rfl hh (abo _) (abo _);simp only[Option.map_none]at this;simp[execOp,hF.ev hx,Instr.sliceAt,Instr.slice,run_underlying hU,this,hZ W]
end
end Px
namespace Px

end Px
namespace Px
open Go Go.RowKit
/-! ### rows of bytes -/
def ub (l:List UInt8):List Value:=l.map λb=>Value.int .u8 b.toNat
theorem ncc(l:List UInt8):(ub l).length=l.length:=by simp[ub]
theorem ub_app(a b:List UInt8):ub (a++b)=ub a++ub b:=by simp[ub]
theorem n2h(l:List UInt8):∀u∈ub l,u.oneCell'=true:=by
 intro u hu;obtain⟨i,_,rfl⟩:=ano.1 hu;rfl
def fU (l:List UInt8) (i:Nat):Int:=((l[i]?.getD 0).toNat:Int)
theorem ub_byts(l:List UInt8):ub l=byts l.length (fU l):=by
 apply aDo;intro i;by_cases h:i<l.length
 ·simp[ub,byts,fU,h]
 rw[aYo (by rw[ncc];omega),aYo (by rw[nW];omega)]
theorem ub_at(l:List UInt8)(sp:List Value)(i:Nat)(h:i<l.length):((ub l++sp).toArray)[0+i]? =some (.int .u8 (fU l i)):=by
 rw[aVo,aUo,aOo (by rw[ncc];exact h)];simp[ub,fU,h]
abbrev rowV (b n cap:Nat):Value:=.slice (some ⟨b,0,none⟩) n cap
abbrev rowC (e:Nat) (xs:List UInt8) (sp:List Value):Obj:=.cells (ub xs++sp).toArray e (0,0)
structure RowOk (xs:List UInt8) (cap:Nat) (sp:List Value):Prop where
 le:xs.length<=cap
 sp:sp.length=cap-xs.length
structure ByteT (P:Program) (t e:Nat):Prop where
 und:P.underlying t=some (.slice e)
 el:P.underlying e=some (.int .u8)
 info:∃ti,P.info? e=some ti/\ti.zero=some (.int .u8 0)/\ti.size=1/\ti.bytes=1
 sz:nK P e 1
section
variable {G:Gh} {L:List World} {H:Heap} {W:World}
variable {b i:Nat} {o:Obj}
theorem St.renewF(h:St G L H W)(o':Obj)(hi:H[i]? =some (b,o))(ha:Fr G L b):St G L (H.set i (W.heap.size,o')) (W.alloc o'):=by
 have hil:=(ako.1 hi).1;have hp:H.Perm ((b,o)::H.eraseIdx i):=n6b H i _ hi;exact(((h.perm hp).dropF ha).alloc o').perm (nff H i _ hil).symm
theorem St.dropAtF(h:St G L H W)(hi:H[i]? =some (b,o))(ha:Fr G L b):St G L (H.eraseIdx i) W:=
 (h.perm (n6b H i _ hi)).dropF ha
theorem Fr.new(h:St G L H W):Fr G L W.heap.size:=.inr h.sizes
theorem Fr.up(h:St G L H W)(hb:W.heap.size<=b):Fr G L b:=.inr (Above.of_mem λw hw=>aco (h.links w hw).size hb)
theorem n1c(h:St G L H W)(hb:W.heap.size<=b):Above L b:=Above.of_mem λw hw=>aco (h.links w hw).size hb
theorem nLc(h:St G L H W)(hb:W.heap.size<=b):Off H b:=Off.of_mem λhm=>by
 obtain⟨p,hp,e⟩:=ano.1 hm;have:=h.lt p hp;omega
variable {news sp:List Value} {m tx:Nat} {sv:Value}
theorem St.app{P:Program}{e n len cap t ty:Nat}{ti:TypeInfo}{z:Value}{ys:List Value}(hS:St G L H W)(hi:H[i]? =some (b,.cells (ys++sp).toArray e (0,0)))(hU:P.underlying t=some (.slice e))(hti:P.info? e=some ti)(hz:ti.zero=some z)(hm:ti.size=m)(hzs:z.cells.size=m)(hsrc:Src P m tx sv n news W)(hlen:ys.length=len*m)(hsp:sp.length=(cap-len)*m)(hlc:len<=cap)(ha:Fr G L b)(h63:len+n<=9223372036854775807)(hbytes:(len+n)*ti.bytes<=140737488355328):∃b' cap' sp' W',(Builtin.append_ #[t,tx] ty #[.slice (some ⟨b,0,none⟩) len cap,sv]).run P W= .ok (.slice (some ⟨b',0,none⟩) (len+n) cap') W'/\St G L (H.set i (b',.cells (ys++news++sp').toArray e (0,0))) W'/\(b'=b\/W.heap.size<=b')/\len+n<=cap'/\sp'.length=(cap'-(len+n))*m:=by
 subst hm;have hb:=hS.own _ (ajo hi);have hnl:=hsrc.newsLen;by_cases hroom:len+n<=cap
 ·have hle:(len+n)*ti.size<=cap*ti.size:=a7o _ hroom;have hsz:(ys++sp).toArray.size=cap*ti.size:=by
   simp only[amp,aHo,hlen,hsp];rw[<-a5o];congr 1;omega
  rw[a5o]at hle;have hr:=run_append_room_src (P:=P) W t tx ty e ti hU hti b 0 len cap sv n news hsrc hroom
   (λj hj=>by rw[nAc hb];simp only[aVo];rw[aXo zG];rfl)
   (λj hj=>by simp[World.frozen?,hb])
  obtain⟨h1,h2⟩:=nNd b news (0+len*ti.size) W _ _ hb;have hsp':(sp.drop (n*ti.size)).length=(cap-(len+n))*ti.size:=by
   rw[aFo,hsp,<-Nat.sub_mul];congr 1;omega
  have hc:setCells (ys++sp).toArray (0+len*ti.size) news=(ys++news++sp.drop (n*ti.size)).toArray:=by
   exact zTi
  rw[hc]at h2;exact⟨_,_,_,_,hr,hS.put hi h1 h2,.inl rfl,hroom,hsp'⟩
 have hold:(Builtin.firstCells ti.size len (.slice (some ⟨b,0,none⟩) len cap)).run P W.drew= .ok ys.toArray W.drew:=by
  exact z8i
 have hr:=run_append_grow_src (P:=P) W t tx ty e ti z hU hti hz (some ⟨b,0,none⟩) len cap ys hold sv n news hsrc zG zG (growslice_fits zG hbytes);have hg:=grownCap_ge W (len+n) cap e;have hS':=(hS.step (nub W (W.drawn+1))).renewF (.cells ((ys++news).toArray++Builtin.zeroCells z.cells (grownCap W (len+n) cap e-(len+n))) e (0,0)) hi ha;have hzl:(Builtin.zeroCells z.cells (grownCap W (len+n) cap e-(len+n))).toList.length=(grownCap W (len+n) cap e-(len+n))*ti.size:=by
  simp[Builtin.zeroCells,hzs]
 have hc:(ys++news).toArray++Builtin.zeroCells z.cells (grownCap W (len+n) cap e-(len+n))=(ys++news++(Builtin.zeroCells z.cells (grownCap W (len+n) cap e-(len+n))).toList).toArray:=by
  apply Array.ext';simp
 rw[hc]at hS' hr;exact⟨_,_,_,_,hr,hS',.inr (abo _),hg,hzl⟩
theorem St.appN{P:Program}{e n t ty:Nat}{ti:TypeInfo}{z:Value}(hS:St G L H W)(hU:P.underlying t=some (.slice e))(hti:P.info? e=some ti)(hz:ti.zero=some z)(hm:ti.size=m)(hzs:z.cells.size=m)(hsrc:Src P m tx sv n news W)(h0:0<n)(h63:n<=9223372036854775807)(hbytes:n*ti.bytes<=140737488355328):∃cap' sp' W',(Builtin.append_ #[t,tx] ty #[.slice none 0 0,sv]).run P W= .ok (.slice (some ⟨W.heap.size,0,none⟩) n cap') W'/\St G L ((W.heap.size,.cells (news++sp').toArray e (0,0))::H) W'/\n<=cap'/\sp'.length=(cap'-n)*m:=by
 subst hm;have hold:(Builtin.firstCells ti.size 0 (.slice none 0 0)).run P W.drew= .ok ([]:List Value).toArray W.drew:=by simp[Builtin.firstCells]
 have hr:=run_append_grow_src (P:=P) W t tx ty e ti z hU hti hz none 0 0 [] hold sv n news hsrc zG zG (growslice_fits zG (by rw[aVo];exact hbytes));rw[aVo]at hr;have hg:=grownCap_ge W n 0 e;have hS':=(hS.step (nub W (W.drawn+1))).alloc (.cells (([]++news:List Value).toArray++Builtin.zeroCells z.cells (grownCap W n 0 e-n)) e (0,0));have hc:([]++news:List Value).toArray++Builtin.zeroCells z.cells (grownCap W n 0 e-n)=(news++(Builtin.zeroCells z.cells (grownCap W n 0 e-n)).toList).toArray:=by
  apply Array.ext';simp
 rw[hc]at hS' hr;exact⟨_,_,_,hr,hS',hg,by simp[Builtin.zeroCells,hzs]⟩
end
section
variable {C:Cx} {Q:Post} {E:Env} {D:List Deferred} {G:Gh} {L:List World} {H:Heap} {ops:Array Oper} {l:List Oper}
variable {d T ty f:Nat} {pos:String} {aft:Array Edge} {g:Option (Nat×Bool)} {x y:Operand} {xs:List Operand} {vs:List Value} {tys:Array Nat}
def SrcB (C:Cx) (G:Gh) (L:List World) (H:Heap) (tx:Nat) (sv:Value) (zs:List UInt8):Prop:=SrcJ C G L H 1 tx sv zs.length (ub zs)
variable {zs:List UInt8} {sp:List Value} {b i tx:Nat} {fr:Nat×Nat}
theorem SrcB.own{e' c t:Nat}(hU:C.P.underlying tx=some (.slice e'))(hi:H[i]? =some (b,.cells (ub zs++sp).toArray t fr)):SrcB C G L H tx (rowV b zs.length c) zs:=
 SrcJ.sl hU (Rd.own hi (by simp only[amp,aHo,ncc];omega) (by simp only[aop,arp];rw[<-ncc zs,aqp rfl])) (by rw[ncc,arp]) (n2h _)
variable {w1:World}
theorem SrcB.old{e' c t:Nat}(hU:C.P.underlying tx=some (.slice e'))(hm:w1∈L)(hb:w1.heap[b]? =some (.cells (ub zs++sp).toArray t fr))(hG:¬G.X b)(hO:Off H b):SrcB C G L H tx (rowV b zs.length c) zs:=
 SrcJ.sl hU (Rd.old hm hb hG hO (by simp only[amp,aHo,ncc];omega) (by simp only[aop,arp];rw[<-ncc zs,aqp rfl])) (by rw[ncc,arp]) (n2h _)
theorem SrcB.str{s:ByteArray}(hU:C.P.underlying tx=some .string):SrcB C G L H tx (.string s) s.data.toList:=
 ⟨.inr hU,λ_=>rfl,Rd.str,by rw[ncc,arp],n2h _⟩
variable {sv:Value}
theorem apB{e cap t:Nat}{xs:List UInt8}(hi:H[i]? =some (b,rowC e xs sp))(hB:ByteT C.P t e)(hw:nm ops E g=some true)(hN:Nat.blt d C.N=true)(hx:ev E x=some (rowV b xs.length cap))(hy:ev E y=some sv)(hs:SrcB C G L H tx sv zs)(hr:RowOk xs cap sp)(ha:Fr G L b)(hlim:xs.length+zs.length<=1000000000000)(k:∀(b' cap':Nat) (sp':List Value),Fr G L b'->RowOk (xs++zs) cap' sp'->OJ C ops Q l ((d,rowV b' (xs++zs).length cap')::E) D G L (H.set i (b',rowC e (xs++zs) sp'))):OJ C ops Q (⟨some d,.call ⟨.builtin .append,#[x,y],#[t,tx]⟩,ty,pos,aft,g⟩::l) E D G L H:=
 nqb zS hw hN λa W hF hS=>by
  obtain⟨ti,hti,hz,hsz,hby⟩:=hB.info;obtain⟨b',cap',sp',W',hrun,hS',hb',hc',hsp'⟩:=hS.app (P:=C.P) (ty:=ty) hi hB.und hti hz hsz rfl (hs.src hS) (by rw[ncc,arp]) (by rw[hr.sp,arp]) hr.le ha zG (by rw[hby];omega);have hFr:Fr G L b':=by
   rcases hb' with rfl|hb'
   ·exact ha
   exact Fr.up hS hb'
  have hl:(xs++zs).length=xs.length+zs.length:=aHo;refine⟨.slice (some ⟨b',0,none⟩) (xs.length+zs.length) cap',W',L,_,?_,hS',?_⟩
  ·simp[execOp,hF.ev hx,hF.ev hy,resolve,invoke,Deferred.ofValue,builtin,hrun]
  have:=k b' cap' sp' hFr ⟨by rw[hl];exact hc',by rw[hl,hsp',arp]⟩;rw[hl]at this;simpa only[rowC,ub_app]using this
theorem apN{e t:Nat}(hB:ByteT C.P t e)(hw:nm ops E g=some true)(hN:Nat.blt d C.N=true)(hx:ev E x=some (.slice none 0 0))(hy:ev E y=some sv)(hs:SrcB C G L H tx sv zs)(h0:0<zs.length)(hlim:zs.length<=1000000000000)(k:∀(b' cap':Nat) (sp':List Value),Above L b'->Off H b'->¬G.X b'->RowOk zs cap' sp'->OJ C ops Q l ((d,rowV b' zs.length cap')::E) D G L ((b',rowC e zs sp')::H)):OJ C ops Q (⟨some d,.call ⟨.builtin .append,#[x,y],#[t,tx]⟩,ty,pos,aft,g⟩::l) E D G L H:=
 nqb zS hw hN λa W hF hS=>by
  obtain⟨ti,hti,hz,hsz,hby⟩:=hB.info;obtain⟨cap',sp',W',hrun,hS',hc',hsp'⟩:=hS.appN (P:=C.P) (ty:=ty) hB.und hti hz hsz rfl (hs.src hS) h0 zG (by rw[hby];omega);refine⟨.slice (some ⟨W.heap.size,0,none⟩) zs.length cap',W',L,_,?_,hS',k W.heap.size cap' sp' hS.sizes hS.offNew hS.mNew ⟨hc',by rw[hsp',arp]⟩⟩;simp[execOp,hF.ev hx,hF.ev hy,resolve,invoke,Deferred.ofValue,builtin,hrun]
/-! #### functions that are lent a row and give one back -/
def nme (w:World) (b e:Nat) (ys:List UInt8):Ending->World->Prop:=λed w'=>
 ∃b' cap' sp',ed= .returned (rowV b' ys.length cap')/\Keep (· =b) w w'/\(b'=b\/w.heap.size<=b')/\RowOk ys cap' sp'/\w'.heap[b']? =some (rowC e ys sp')
def nUk (w:World) (e:Nat) (ys:List UInt8):Ending->World->Prop:=λed w'=>
 ∃b' cap' sp',ed= .returned (rowV b' ys.length cap')/\Below w.heap.size w w'/\w.heap.size<=b'/\RowOk ys cap' sp'/\w'.heap[b']? =some (rowC e ys sp')
variable {o:Obj}
theorem ntd{w:World}(h:w.heap[b]? =some o):St (Gh.lent (· =b)) [w] [(b,o)] w where
 ghost:=trivial
 vlt:=λ_ h=>h.elim
 xlt:=λk hk=>by
  have:k=b:=hk;subst this;exact(ago.1 h).1
 links:=λw' hw=>by simp at hw;subst hw;exact Keep.refl _ _
 own:=λp hp=>by simp at hp;subst hp;exact h
 nodup:=λi j p q hi hj _=>by
  have h1:=(ako.1 hi).1;have h2:=(ako.1 hj).1;simp at h1 h2;omega
 apart:=λ_ _ h=>h.elim
def OverX (Z:Nat->Prop) (n:Nat):Heap->Prop
 | []=>True
 |p::H=>(Z p.1\/n<=p.1)/\OverX Z n H
theorem OverX.mem{Z:Nat->Prop}{n:Nat}(h:OverX Z n H):∀p∈H,Z p.1\/n<=p.1:=by
 exact zoj
variable {W:World}
theorem St.baseX{Z:Nat->Prop}{w:World}(h:St (Gh.lent Z) L H W)(hw:w∈L)(ho:OverX Z w.heap.size H):Keep Z w W:=
 (h.links w hw).mono λk hk hx=>by
  rcases hx with hx|hx
  ·exact hx
  obtain⟨p,hp,rfl⟩:=ano.1 hx;rcases ho.mem p hp with h|h
  ·exact h
  omega
section
variable {fn:Func}
variable {ys:List UInt8} {sp':List Value}
theorem nWh{t b' e cap':Nat}{w:World}{ex:Exit}(he:ex= .ret\/ex= .normal)(hr:fn.results=#[.tmp t])(hv:look E t=some (rowV b' ys.length cap'))(hi:H[i]? =some (b',rowC e ys sp'))(hw:w∈L)(ho:OverX (· =b) w.heap.size H)(hk:RowOk ys cap' sp'):PJ C (bodyPost C.P fn (nme w b e ys)) ex E [] (Gh.lent (· =b)) L H:=
 retG he (rs:=[.tmp t]) hr (RS.t hv RS.n) λW hS=>⟨b',cap',sp',rfl,hS.baseX hw ho,ho.mem _ (ajo hi),hk,hS.own _ (ajo hi)⟩
theorem retNew{t b' e cap':Nat}{w:World}{ex:Exit}(he:ex= .ret\/ex= .normal)(hr:fn.results=#[.tmp t])(hv:look E t=some (rowV b' ys.length cap'))(hi:H[i]? =some (b',rowC e ys sp'))(hw:w∈L)(ho:Over w.heap.size H)(hk:RowOk ys cap' sp'):PJ C (bodyPost C.P fn (nUk w e ys)) ex E [] Gh.no L H:=
 retG he (rs:=[.tmp t]) hr (RS.t hv RS.n) λW hS=>⟨b',cap',sp',rfl,hS.base hw ho,ho.mem _ (ajo hi),hk,hS.own _ (ajo hi)⟩
end
variable {ys:List UInt8}
theorem nLg{e:Nat}{first cap:List Value}(hi:H[i]? =some (b,o))(hx:ev E x=some (.func (.func f) first.toArray cap.toArray))(hent:Ent C.P f)(hw:nm ops E g=some true)(hN:Nat.blt d C.N=true)(ha:evs E xs=some vs)(hF:Fr G L b)(hc:∀W,St G L H W->W.heap[b]? =some o->Calls C.P f (first++vs++cap).toArray W (nme W b e ys))(k:∀b' cap' sp',Fr G L b'->RowOk ys cap' sp'->OJ C ops Q l ((d,rowV b' ys.length cap')::E) D G L (H.set i (b',rowC e ys sp'))):OJ C ops Q (⟨some d,.call ⟨.value x,xs.toArray,tys⟩,ty,pos,aft,g⟩::l) E D G L H:=
 nN rfl hw hx ha zS hent λa W hN' hD hF' hS=>(hc W hS (hS.own _ (ajo hi))).mono (by
  rintro ed W' ⟨b',cap',sp',rfl,hk,hb',hr,hat⟩;have hgo:=λhFr hS'=>k b' cap' sp' hFr hr (a.put (some d) (rowV b' ys.length cap')) W' zrb zpb (hF'.put _ zqb) hS';rcases hb' with rfl|hb'
  ·exact hgo hF (hS.put hi hk hat)
  refine hgo (Fr.up hS hb') ?_;have hbl:=(ago.1 (hS.own _ (ajo hi))).1;obtain⟨ob,hob⟩:∃ob,W'.heap[b]? =some ob:=⟨W'.heap[b]'(ado hbl hk.size),aXo _⟩;have h1:=hS.put hi hk hob;have hil:=(ako.1 hi).1;have h2:(H.set i (b,ob))[i]? =some (b,ob):=by rw[alo hil]
  have h3:=(h1.perm (n6b _ _ _ h2)).dropF hF;have hse:(H.set i (b,ob)).eraseIdx i=H.eraseIdx i:=by rw[List.eraseIdx_set_eq]
  rw[hse]at h3;have hoff:Off (H.eraseIdx i) b':=Off.of_mem λhm=>by
   obtain⟨p,hp,e⟩:=ano.1 hm;have:=hS.lt p (List.mem_of_mem_eraseIdx hp);omega
  have h4:=h3.adopt hat hoff (λhv=>by have:=hS.vlt _ hv;omega);exact h4.perm (nff H i _ hil).symm)
theorem OJ.dropF(hi:H[i]? =some (b,o))(ha:Fr G L b)(k:OJ C ops Q l E D G L (H.eraseIdx i)):OJ C ops Q l E D G L H:=λa W hN hD hF hS=>k a W hN hD hF (hS.dropAtF hi ha)
theorem CJ.dropF{c:Code}(hi:H[i]? =some (b,o))(ha:Fr G L b)(k:CJ C c Q E D G L (H.eraseIdx i)):CJ C c Q E D G L H:=λa W hN hD hF hS=>k a W hN hD hF (hS.dropAtF hi ha)
variable {e':Exit}
theorem PJ.dropF(hi:H[i]? =some (b,o))(ha:Fr G L b)(k:PJ C Q e' E D G L (H.eraseIdx i)):PJ C Q e' E D G L H:=λa W hN hD hF hS=>k a W hN hD hF (hS.dropAtF hi ha)
variable {ps:List (Nat×Operand)}
theorem bsB{n e:Nat}{z:Value}{vs:List (Nat×Value)}(zs:List UInt8)(hB:ByteT C.P T e)(hz:nvb C.P e z)(hw:nm ops E g=some true)(hN:Nat.blt d C.N=true)(ha:evp E ps=some vs)(h24:Nat.ble (n*1) 16777216=true)(hs:vs=seqP 0 (vs.map (·.2)))(hl:vs.length=n)(hm:nKf 1 (vs.map (·.2))=true)(hzs:nAb (vs.map (·.2))=ub zs)(hn:n=zs.length)(k:∀(b:Nat),Above L b->Off H b->¬G.X b->RowOk zs n []->OJ C ops Q l ((d,rowV b zs.length n)::E) D G L ((b,rowC e zs [])::H)):OJ C ops Q (⟨some d,.buildSlice T n ps.toArray,ty,pos,aft,g⟩::l) E D G L H:=
 nqb zS hw hN λa W hF hS=>⟨_,_,_,_,nsd hB.und hB.sz hz (nud hF ps vs ha) h24 (ngd (by
  have:=nke 1 (vs.map (·.2)) 0 [] ((Array.range (n*1)).map (λj=>((if n*1=0 then #[]else z.cells)[j%(if n*1=0 then #[]else z.cells).size]!))).toList hm zS (by rw[nmg,aAo,hl]);rw[<-hs,abp,abp]at this;exact this)),hS.alloc _,by
   have:=k W.heap.size hS.sizes hS.offNew hS.mNew ⟨by omega,by simp;omega⟩;rw[hzs];simp only[rowC,asp]at this;rw[<-hn]at this;exact this⟩
end
/-! ### values of the codec -/
inductive V where
 |int (n:Int)
 |text (s:ByteArray)
 |list (l:List V)
theorem V.ind{p:V->Prop}(h1:∀n,p (.int n))(h2:∀s,p (.text s))(h3:∀l,(∀y∈l,p y)->p (.list l)):∀x,p x:=by
 intro x;exact V.rec (motive_1:=p) (motive_2:=λl=>∀y∈l,p y) h1 h2 h3 zS (λx l hx hl y hy=>by
  rcases aeo.1 hy with rfl|hy
  ·exact hx
  exact hl y hy) x
def V.kind:V->Int
 | .int _=>1
 | .text _=>2
 | .list _=>3
def num (u:Nat):List UInt8:=if h:u<128 then[UInt8.ofNat u]else UInt8.ofNat (u%128+128)::num (u/128)
termination_by u
decreasing_by omega
variable {u:Nat}
theorem nVk(h:u<128):num u=[UInt8.ofNat u]:=by rw[num,dif_pos h]
theorem n4k(h:¬u<128):num u=UInt8.ofNat (u%128+128)::num (u/128):=by rw[num,dif_neg h]
theorem num_pos(u:Nat):0<(num u).length:=by
 by_cases h:u<128
 ·rw[nVk h];simp
 rw[n4k h];simp
theorem nHm:∀(k u:Nat),u<128^k->0<k->(num u).length<=k
 |0,_,_,h=>by omega
 |k+1,u,hu,_=>by
  by_cases h:u<128
  ·rw[nVk h];simp
  rw[n4k h];simp only[axo];cases k with
  |zero=>simp at hu;omega
  |succ k=>
   have h2:u/128<128^(k+1):=Nat.div_lt_of_lt_mul (by rw[Nat.pow_succ,a6o]at hu;exact hu);have:=nHm (k+1) (u/128) h2 zG;omega
theorem nJb(h:u<18446744073709551616):(num u).length<=10:=nHm 10 u (ado h zI) zG
def zig (n:Int):Nat:=if 0<=n then(2*n).toNat else(-2*n-1).toNat
mutual
def V.enc:V->List UInt8
 | .int n=>1::num (zig n)
 | .text s=>2::(num s.size++s.data.toList)
 | .list l=>3::(num l.length++V.encL l)
def V.encL:List V->List UInt8
 | []=>[]
 |x::l=>V.enc x++V.encL l
end
mutual
def V.depth:V->Nat
 | .int _=>0
 | .text _=>0
 | .list l=>V.depthL l+1
def V.depthL:List V->Nat
 | []=>0
 |x::l=>max (V.depth x) (V.depthL l)
end
theorem V.encL_take_le(l:List V):∀i,(V.encL (l.take i)).length<=(V.encL l).length:=by
 induction l with
 |nil=>intro i;simp[V.encL]
 |cons x l ih=>intro i;cases i with
  |zero=>simp[V.encL]
  |succ i=>simp only[aup,V.encL,aHo];have:=ih i;omega
theorem V.depthL_snoc(l:List V)(x:V):V.depthL (l++[x])=max (V.depthL l) x.depth:=by
 induction l with
 |nil=>simp[V.depthL]
 |cons y l ih=>simp only[aEo,V.depthL,ih];omega
theorem V.depthL_take(l:List V)(i:Nat)(h:i<l.length):V.depthL (l.take (i+1))=max (V.depthL (l.take i)) (l[i]).depth:=by
 rw[aep h,V.depthL_snoc]
mutual
def V.fine:V->Prop
 | .int n=> -9223372036854775808<=n/\n<=9223372036854775807
 | .text s=>s.size<=1000000000
 | .list l=>l.length<=1000000000/\V.depthL l<=1000000000/\V.fineL l
def V.fineL:List V->Prop
 | []=>True
 |x::l=>V.fine x/\V.fineL l
end
theorem V.fineL_mem:∀{l:List V},V.fineL l->∀x∈l,x.fine
 | [],_,x,hx=>by cases hx
 |y::l,h,x,hx=>by
  simp only[V.fineL]at h;rcases aeo.1 hx with rfl|hx
  ·exact h.1
  exact V.fineL_mem h.2 x hx
theorem V.depthL_mem:∀{l:List V} (x:V),x∈l->x.depth<=V.depthL l
 | [],x,hx=>by cases hx
 |y::l,x,hx=>by
  simp only[V.depthL];rcases aeo.1 hx with rfl|hx
  ·omega
  have:=V.depthL_mem (l:=l) x hx;omega
abbrev vI (n:Int):Value:=.agg #[.int .i64 1,.int .i64 n,.string ⟨#[]⟩,.slice none 0 0]
abbrev vT (s:ByteArray):Value:=.agg #[.int .i64 2,.int .i64 0,.string s,.slice none 0 0]
abbrev vL (base:Option Addr) (n cap:Nat):Value:=.agg #[.int .i64 3,.int .i64 0,.string ⟨#[]⟩,.slice base n cap]
mutual
def VAt (N:Nat) (w:World):V->Value->Prop
 | .int n,v=>v=vI n
 | .text s,v=>v=vT s
 | .list l,v=>∃base cap,v=vL base l.length cap/\l.length<=cap/\(l=[]\/∃b cs t fr,base=some ⟨b,0,none⟩/\b<N/\w.heap[b]? =some (.cells cs t fr)/\VsAt N w cs 0 l)
def VsAt (N:Nat) (w:World) (cs:Array Value):Nat->List V->Prop
 |_,[]=>True
 |off,x::l=>off+4<=cs.size/\VAt N w x (.agg (cut cs off 4))/\VsAt N w cs (off+4) l
end
theorem VsAt.get{N:Nat}{w:World}{cs:Array Value}:∀{l:List V} {off:Nat},VsAt N w cs off l->∀(i:Nat) (h:i<l.length),off+4*i+4<=cs.size/\VAt N w l[i] (.agg (cut cs (off+4*i) 4))
 | [],_,_,i,h=>by simp at h
 |x::l,off,hv,i,h=>by
  simp only[VsAt]at hv;cases i with
  |zero=>exact⟨by omega,hv.2.1⟩
  |succ i=>
   have:=VsAt.get hv.2.2 i z2b;rw[show off+4*(i+1)=off+4+4*i by omega];simpa using this
variable {N N':Nat} {w':World}
theorem VAt.up{w:World}(hN:N<=N')(hw:∀k,k<N->w'.heap[k]? =w.heap[k]?):∀(x:V) (v:Value),VAt N w x v->VAt N' w' x v:=by
 refine V.ind ?_ ?_ ?_
 ·intro n v h;simpa only[VAt]using h
 ·intro s v h;simpa only[VAt]using h
 intro l ih v h;simp only[VAt]at h ⊢;obtain⟨base,cap,hv,hc,hl⟩:=h;refine⟨base,cap,hv,hc,?_⟩;rcases hl with hl|⟨b,cs,t,fr,hb,hlt,hcs,hs⟩
 ·exact .inl hl
 refine .inr ⟨b,cs,t,fr,hb,by omega,(hw b hlt).trans hcs,?_⟩;clear hb hlt hcs hc hv;generalize 0=off at *;induction l generalizing off with
 |nil=>simp only[VsAt]
 |cons x l ihl=>
  simp only[VsAt]at hs ⊢;exact⟨hs.1,ih x zS _ hs.2.1,ihl (λy hy=>ih y (by simp[hy])) _ hs.2.2⟩
theorem VAt.shape{w:World}:∀{x:V} {v:Value},VAt N w x v->∃n s p m c,v= .agg #[.int .i64 x.kind,.int .i64 n,.string s,.slice p m c]
 | .int n,v,h=>by simp only[VAt]at h;exact⟨_,_,_,_,_,h⟩
 | .text s,v,h=>by simp only[VAt]at h;exact⟨_,_,_,_,_,h⟩
 | .list l,v,h=>by simp only[VAt]at h;obtain⟨_,_,h,_⟩:=h;exact⟨_,_,_,_,_,h⟩
variable {G:Gh} {H:Heap} {L:List World} {W:World}
theorem St.same{w:World}(h:St G L H W)(hw:w∈L)(hN:N<=w.heap.size)(hX:∀k,k<N->¬G.X k)(hH:Over N H):∀k,k<N->W.heap[k]? =w.heap[k]? :=λk hk=>
 (h.links w hw).block k zG (λhx=>by
  rcases hx with hx|hx
  ·exact hX k hk hx
  obtain⟨p,hp,rfl⟩:=ano.1 hx;have:=hH.mem p hp;omega)
section
variable {C:Cx} {Q:Post} {E:Env} {D:List Deferred} {G:Gh} {L:List World} {H:Heap} {ops:Array Oper} {l:List Oper}
variable {d T U ty f:Nat} {pos:String} {aft:Array Edge} {g:Option (Nat×Bool)} {x y:Operand} {xs:List Operand} {vs:List Value} {tys:Array Nat}
theorem lenStr_r{s:ByteArray}{t:Nat}(hU:C.P.underlying t=some .string)(hx:ev E x=some (.string s)):RV C G L H E (.call ⟨.builtin .len,#[x],#[t]⟩) (.int .i64 (s.size:Int)):=λd ty pos aft g a W hF _=>by
 simp[execOp,hF.ev hx,resolve,invoke,Deferred.ofValue,builtin,Builtin.len_,run_underlying hU,goInt]
theorem eqlS_r{s t:ByteArray}(hx:ev E x=some (.string s))(hy:ev E y=some (.string t)):RV C G L H E (.binOp .eql T x y U) (.bool (s.toList==t.toList)):=λd ty pos aft g a W hF _=>by
 simp[execOp,eqGuard,binOp,Op.stringOp,hF.ev hx,hF.ev hy]
variable {K:IntKind}
theorem maxI_r{m n:Int}{t1 t2:Nat}(hx:ev E x=some (.int K m))(hy:ev E y=some (.int K n)):RV C G L H E (.call ⟨.builtin .max,#[x,y],#[t1,t2]⟩) (.int K (max m n)):=λd ty pos aft g a W hF _=>by
 have:(if m<n then n else m)=max m n:=by omega
 simp[execOp,hF.ev hx,hF.ev hy,resolve,invoke,Deferred.ofValue,builtin,Builtin.max_,Builtin.max2,this]
end
/-! #### the steps of a chain -/
section
variable {C:Cx} {Q:Post} {E:Env} {D:List Deferred} {G:Gh} {L:List World} {H:Heap} {id:Nat}
def ngc (C:Cx) (ops:Array Oper) (G:Gh) (E:Env) (sp:Sp) (ch:List Nat) (Ph:List Value->List World->Heap->Prop):List Oper->Sp->Prop
 |o::l,(ds,some u)::ss=>(∀cv L' H',nie ch ds cv.length=true->Ph cv L' H'->X C ops G L' H' (envD ops sp ch cv ds++E) (λ_=>True) o (λv _=>v=u))/\ngc C ops G E sp ch Ph l ss
 |_::l,(_,none)::ss=>ngc C ops G E sp ch Ph l ss
 |_,_=>True
theorem nYd{ops:Array Oper}{sp:Sp}{ch:List Nat}{Ph:List Value->List World->Heap->Prop}:∀(l:List Oper) (ss:Sp),ngc C ops G E sp ch Ph l ss->∀(i:Nat) (o:Oper) (ds:List Nat) (u:Value),l[i]? =some o->ss[i]? =some (ds,some u)->∀cv L' H',nie ch ds cv.length=true->Ph cv L' H'->X C ops G L' H' (envD ops sp ch cv ds++E) (λ_=>True) o (λv _=>v=u)
 | [],_,_,i,o,ds,u,hl,_=>by simp at hl
 |_::_,[],_,i,o,ds,u,_,hs=>by simp at hs
 |o'::l,(ds',some u')::ss,h,i,o,ds,u,hl,hs=>by
  cases i with
  |zero=>simp at hl hs;obtain⟨rfl,rfl⟩:=hs;subst hl;exact h.1
  |succ i=>exact nYd l ss h.2 i o ds u zdc (by simpa using hs)
 |o'::l,(ds',none)::ss,h,i,o,ds,u,hl,hs=>by
  cases i with
  |zero=>simp at hs
  |succ i=>exact nYd l ss h i o ds u zdc (by simpa using hs)
variable {ops:Array Oper} {ch ds:List Nat}
theorem pc{sp:Sp}{Ph:List Value->List World->Heap->Prop}{o:Oper}{l:List Oper}{u:Value}{ss:Sp}(h:∀cv L' H',nie ch ds cv.length=true->Ph cv L' H'->X C ops G L' H' (envD ops sp ch cv ds++E) (λ_=>True) o (λv _=>v=u))(t:ngc C ops G E sp ch Ph l ss):ngc C ops G E sp ch Ph (o::l) ((ds,some u)::ss):=⟨h,t⟩
theorem pk{sp:Sp}{Ph:List Value->List World->Heap->Prop}{o:Oper}{l:List Oper}{ss:Sp}(t:ngc C ops G E sp ch Ph l ss):ngc C ops G E sp ch Ph (o::l) ((ds,none)::ss):=t
theorem pn{sp:Sp}{Ph:List Value->List World->Heap->Prop}{l:List Oper}:ngc C ops G E sp ch Ph l []:=by cases l<;>trivial
def n6d (C:Cx) (l:List Oper) (G:Gh) (E:Env) (D:List Deferred) (sp:Sp) (ch:List Nat) (Ph:List Value->List World->Heap->Prop):Nat->List Nat->Prop
 |_,[]=>True
 |k,c::rest=>(∀(o:Oper) (ds:List Nat) (d:Nat),l[c]? =some o->sp[c]? =some (ds,none)->o.dst=some d->∀cv L' H',cv.length=k->Ph cv L' H'->∀(F:Env) (Q':Post),
  (∀v L'' H'',Ph (cv++[v]) L'' H''->PJ C Q' .normal ((d,v)::(envD l.toArray sp ch cv ds++(E++F))) D G L'' H'')->OJ C l.toArray Q' [o] (envD l.toArray sp ch cv ds++(E++F)) D G L' H')/\n6d C l G E D sp ch Ph (k+1) rest
theorem npi{l:List Oper}{sp:Sp}{ch:List Nat}{Ph:List Value->List World->Heap->Prop}:∀(rest:List Nat) (n:Nat),n6d C l G E D sp ch Ph n rest->∀(k c:Nat) (o:Oper) (ds:List Nat) (d:Nat),rest[k]? =some c->l[c]? =some o->sp[c]? =some (ds,none)->o.dst=some d->∀cv L' H',cv.length=n+k->Ph cv L' H'->∀(F:Env) (Q':Post),(∀v L'' H'',Ph (cv++[v]) L'' H''->PJ C Q' .normal ((d,v)::(envD l.toArray sp ch cv ds++(E++F))) D G L'' H'')->OJ C l.toArray Q' [o] (envD l.toArray sp ch cv ds++(E++F)) D G L' H'
 | [],_,_,k,c,_,_,_,h,_,_,_=>by simp at h
 |c'::rest,n,h,k,c,o,ds,d,hk,hl,hs,hd=>by
  cases k with
  |zero=>simp at hk;subst hk;exact λcv L' H' hlen=>h.1 o ds d hl hs hd cv L' H' (by simpa using hlen)
  |succ k=>exact λcv L' H' hlen=>npi rest (n+1) h.2 k c o ds d zUc hl hs hd cv L' H' zG
variable {rest:List Nat} {k:Nat}
theorem sc{l:List Oper}{sp:Sp}{Ph:List Value->List World->Heap->Prop}{c:Nat}{o:Oper}{d:Nat}(h1:l[c]? =some o)(h2:sp[c]? =some (ds,none))(h3:o.dst=some d)(h:∀cv L' H',cv.length=k->Ph cv L' H'->∀(F:Env) (Q':Post),(∀v L'' H'',Ph (cv++[v]) L'' H''->PJ C Q' .normal ((d,v)::(envD l.toArray sp ch cv ds++(E++F))) D G L'' H'')->OJ C l.toArray Q' [o] (envD l.toArray sp ch cv ds++(E++F)) D G L' H')(t:n6d C l G E D sp ch Ph (k+1) rest):n6d C l G E D sp ch Ph k (c::rest):=
 ⟨λo' ds' d' e1 e2 e3=>by
  rw[h1]at e1;cases e1;rw[h2]at e2;cases e2;rw[h3]at e3;cases e3;exact h,t⟩
theorem sn{l:List Oper}{sp:Sp}{Ph:List Value->List World->Heap->Prop}:n6d C l G E D sp ch Ph k []:=trivial
theorem nJ{l:List Oper}(nA:Nat)(ch:List Nat)(sp:Sp)(Ph:List Value->List World->Heap->Prop)(hm:C.P.follows .mixedOrders=true)(h0:Ph [] L H)(hok:nBc l.toArray nA (sp.map (·.1)) E=true)(hN:nQc C.N l=true)(hch:nLd l ch=true)(hnd:nsc ch=true)(hpt:nFb ch 0 sp=true)(hlt':ch.all (λc=>Nat.blt c nA)=true)(pure:ngc C l.toArray G E sp ch Ph l sp)(step:n6d C l G E D sp ch Ph 0 ch)(fin:∀cv L' H',cv.length=ch.length->Ph cv L' H'->OJ C l.toArray Q (l.drop nA) (envD l.toArray sp ch cv (List.range nA)++E) D G L' H'):CJ C (.region id l.toArray true) Q E D G L H:=
 nMk nA ch sp Ph hm h0 hok hN hch hnd hpt hlt' (nYd l sp pure) (λk c o ds d hk hl hs hd cv L' H' hlen=>npi ch 0 step k c o ds d hk hl hs hd cv L' H' zG) fin
end
theorem len1{α:Type}{l:List α}(h:l.length=1):∃a,l=[a]:=by
 match l,h with
 | [a],_=>exact⟨a,rfl⟩
theorem len2{α:Type}{l:List α}(h:l.length=2):∃a b,l=[a,b]:=by
 match l,h with
 | [a,b],_=>exact⟨a,b,rfl⟩
theorem len3{α:Type}{l:List α}(h:l.length=3):∃a b c,l=[a,b,c]:=by
 match l,h with
 | [a,b,c],_=>exact⟨a,b,c,rfl⟩
theorem len4{α:Type}{l:List α}(h:l.length=4):∃a b c d,l=[a,b,c,d]:=by
 match l,h with
 | [a,b,c,d],_=>exact⟨a,b,c,d,rfl⟩
theorem len5{α:Type}{l:List α}(h:l.length=5):∃a b c d e,l=[a,b,c,d,e]:=by
 match l,h with
 | [a,b,c,d,e],_=>exact⟨a,b,c,d,e,rfl⟩
section
variable {C:Cx} {Q:Post} {E:Env} {D:List Deferred} {G:Gh} {L:List World} {H:Heap} {ops:Array Oper} {l:List Oper}
variable {d T ty f:Nat} {pos:String} {aft:Array Edge} {g:Option (Nat×Bool)} {x y:Operand} {xs:List Operand} {vs:List Value} {tys:Array Nat}
variable {ys:List UInt8}
theorem callNC{e:Nat}{first cap:List Value}(hx:ev E x=some (.func (.func f) first.toArray cap.toArray))(hent:Ent C.P f)(hw:nm ops E g=some true)(hN:Nat.blt d C.N=true)(ha:evs E xs=some vs)(hc:∀W,St G L H W->Calls C.P f (first++vs++cap).toArray W (nUk W e ys))(k:∀b' cap' sp',Above L b'->Off H b'->¬G.X b'->RowOk ys cap' sp'->OJ C ops Q l ((d,rowV b' ys.length cap')::E) D G L ((b',rowC e ys sp')::H)):OJ C ops Q (⟨some d,.call ⟨.value x,xs.toArray,tys⟩,ty,pos,aft,g⟩::l) E D G L H:=
 nN rfl hw hx ha zS hent λa W hN' hD hF hS=>(hc W hS).mono (by
  rintro ed W' ⟨b',cap',sp',rfl,hb,hsz,hr,hat⟩;exact k b' cap' sp' (n1c hS hsz) (nLc hS hsz) (λhx=>by have:=hS.xlt _ hx;omega) hr (a.put (some d) (rowV b' ys.length cap')) W' zrb zpb (hF.put _ zqb)
   ((hS.step hb).adopt hat (nLc hS hsz) (λhv=>by have:=hS.vlt _ hv;omega)))
def nci (w:World) (e:Nat) (ys:List UInt8):Ending->World->Prop:=λed w'=>
 ∃b' cap' sp',ed= .returned (.tuple #[rowV b' ys.length cap',.int .i64 0])/\Below w.heap.size w w'/\w.heap.size<=b'/\RowOk ys cap' sp'/\w'.heap[b']? =some (rowC e ys sp')
variable {sp':List Value} {i:Nat}
theorem retEnc{fn:Func}{t b' e cap':Nat}{w:World}{ex:Exit}(he:ex= .ret\/ex= .normal)(hr:fn.results=#[.tmp t,.tmp u])(hv:look E t=some (rowV b' ys.length cap'))(hu:look E u=some (.int .i64 0))(hi:H[i]? =some (b',rowC e ys sp'))(hw:w∈L)(ho:Over w.heap.size H)(hk:RowOk ys cap' sp'):PJ C (bodyPost C.P fn (nci w e ys)) ex E [] Gh.no L H:=
 retG he (rs:=[.tmp t,.tmp u]) hr (RS.t hv (RS.t hu RS.n)) λW hS=>⟨b',cap',sp',rfl,hS.base hw ho,ho.mem _ (ajo hi),hk,hS.own _ (ajo hi)⟩
theorem nEg{e:Nat}(hent:Ent C.P f)(hw:nm ops E g=some true)(hN:Nat.blt d C.N=true)(ha:evs E xs=some vs)(hc:∀W,St G L H W->Calls C.P f vs.toArray W (nci W e ys))(k:∀b' cap' sp',Above L b'->Off H b'->¬G.X b'->RowOk ys cap' sp'->OJ C ops Q l ((d,.tuple #[rowV b' ys.length cap',.int .i64 0])::E) D G L ((b',rowC e ys sp')::H)):OJ C ops Q (⟨some d,.call ⟨.value (.func f),xs.toArray,tys⟩,ty,pos,aft,g⟩::l) E D G L H:=
 nN rfl hw rfl ha zS hent λa W hN' hD hF hS=>(hc W hS).mono (by
  rintro ed W' ⟨b',cap',sp',rfl,hb,hsz,hr,hat⟩;exact k b' cap' sp' (n1c hS hsz) (nLc hS hsz) (λhx=>by have:=hS.xlt _ hx;omega) hr (a.put (some d) _) W' zrb zpb (hF.put _ zqb)
   ((hS.step hb).adopt hat (nLc hS hsz) (λhv=>by have:=hS.vlt _ hv;omega)))
theorem callF{v:Value}{first cap:List Value}(hx:ev E x=some (.func (.func f) first.toArray cap.toArray))(hent:Ent C.P f)(hw:nm ops E g=some true)(hN:Nat.blt d C.N=true)(ha:evs E xs=some vs)(hc:∀W,St G L H W->Calls C.P f (first++vs++cap).toArray W (Ret W v))(k:OJ C ops Q l ((d,v)::E) D G L H):OJ C ops Q (⟨some d,.call ⟨.value x,xs.toArray,tys⟩,ty,pos,aft,g⟩::l) E D G L H:=
 nN rfl hw hx ha zS hent λa W hN' hD hF hS=>(hc W hS).mono (by
  rintro e W' ⟨rfl,hb⟩;exact k (a.put (some d) v) W' zrb zpb (hF.put _ zqb) (hS.step hb))
theorem n6l{Pre:World->Prop}{Φ:Value->World->Prop}{v:Value}{first cap:List Value}(hx:ev E x=some (.func (.func f) first.toArray cap.toArray))(hent:Ent C.P f)(hw:nm ops E g=some true)(ha:evs E xs=some vs)(hc:∀W,St G L H W->Pre W->Calls C.P f (first++vs++cap).toArray W (Ret W v))(hΦ:∀W,Φ v W):X C ops G L H E Pre ⟨some d,.call ⟨.value x,xs.toArray,tys⟩,ty,pos,aft,g⟩ Φ:=by
 intro a W K Q hN' hF hS hP hk;rw[if_pos (nsb hF hw)];refine⟨λ_ _=>trivial,?_⟩;have hr:(execOp a.eval ⟨some d,.call ⟨.value x,xs.toArray,tys⟩,ty,pos,aft,g⟩).run C.P W= .ok (.enter f (first++vs++cap).toArray) W:=by
  have h2:(xs.toArray).map a.eval=vs.toArray:=by rw[aro,nic hF xs vs ha]
  simp only[execOp,resolve,hF.ev hx,Deferred.ofValue,h2];simp[invoke,hent _ W]
 rw[Oper.semAt_eq _ _ _ zS,hr,Oper.uponIn_enter];refine⟨by simp,nIb.2 ((hc W hS hP).mono ?_)⟩;rintro e W' ⟨rfl,hb⟩;exact hk v W' hb (hΦ W')
end
section
variable {C:Cx} {Q:Post} {E:Env} {D:List Deferred} {G:Gh} {L:List World} {H:Heap} {id:Nat}
def nZb (C:Cx) (ops:Array Oper) (G:Gh) (E:Env) (sp:Sp) (ch:List Nat) (Ph:List (Option Value)->List World->Heap->Prop):List Oper->Sp->Prop
 |o::l,(ds,some u)::ss=>(∀cv L' H',cv.length=ch.length->nIc ch ds cv=true->Ph cv L' H'->X C ops G L' H' (envN ops sp ch cv ds++E) (λ_=>True) o (λv _=>v=u))/\nZb C ops G E sp ch Ph l ss
 |_::l,(_,none)::ss=>nZb C ops G E sp ch Ph l ss
 |_,_=>True
theorem nBd{ops:Array Oper}{sp:Sp}{ch:List Nat}{Ph:List (Option Value)->List World->Heap->Prop}:∀(l:List Oper) (ss:Sp),nZb C ops G E sp ch Ph l ss->∀(i:Nat) (o:Oper) (ds:List Nat) (u:Value),l[i]? =some o->ss[i]? =some (ds,some u)->∀cv L' H',cv.length=ch.length->nIc ch ds cv=true->Ph cv L' H'->X C ops G L' H' (envN ops sp ch cv ds++E) (λ_=>True) o (λv _=>v=u)
 | [],_,_,i,o,ds,u,hl,_=>by simp at hl
 |_::_,[],_,i,o,ds,u,_,hs=>by simp at hs
 |o'::l,(ds',some u')::ss,h,i,o,ds,u,hl,hs=>by
  cases i with
  |zero=>simp at hl hs;obtain⟨rfl,rfl⟩:=hs;subst hl;exact h.1
  |succ i=>exact nBd l ss h.2 i o ds u zdc (by simpa using hs)
 |o'::l,(ds',none)::ss,h,i,o,ds,u,hl,hs=>by
  cases i with
  |zero=>simp at hs
  |succ i=>exact nBd l ss h i o ds u zdc (by simpa using hs)
variable {ops:Array Oper} {Ph:List (Option Value)->List World->Heap->Prop} {ch ds:List Nat}
theorem qc{sp:Sp}{o:Oper}{l:List Oper}{u:Value}{ss:Sp}(h:∀cv L' H',cv.length=ch.length->nIc ch ds cv=true->Ph cv L' H'->X C ops G L' H' (envN ops sp ch cv ds++E) (λ_=>True) o (λv _=>v=u))(t:nZb C ops G E sp ch Ph l ss):nZb C ops G E sp ch Ph (o::l) ((ds,some u)::ss):=⟨h,t⟩
theorem qk{sp:Sp}{o:Oper}{l:List Oper}{ss:Sp}(t:nZb C ops G E sp ch Ph l ss):nZb C ops G E sp ch Ph (o::l) ((ds,none)::ss):=t
theorem qn{sp:Sp}{l:List Oper}:nZb C ops G E sp ch Ph l []:=by cases l<;>trivial
def nwd (C:Cx) (l:List Oper) (G:Gh) (E:Env) (D:List Deferred) (sp:Sp) (ch:List Nat) (rqs:List (List Nat)) (Ph:List (Option Value)->List World->Heap->Prop):Nat->List Nat->Prop
 |_,[]=>True
 |k,c::rest=>(∀(rq:List Nat) (o:Oper) (ds:List Nat) (d:Nat),rqs[k]? =some rq->l[c]? =some o->sp[c]? =some (ds,none)->o.dst=some d->∀cv L' H',cv.length=ch.length->n5b rq k cv=true->Ph cv L' H'->∀(F:Env) (Q':Post),
  (∀v L'' H'',Ph (cv.set k (some v)) L'' H''->PJ C Q' .normal ((d,v)::(envN l.toArray sp ch cv ds++(E++F))) D G L'' H'')->OJ C l.toArray Q' [o] (envN l.toArray sp ch cv ds++(E++F)) D G L' H')/\nwd C l G E D sp ch rqs Ph (k+1) rest
theorem nah{l:List Oper}{sp:Sp}{ch:List Nat}{rqs:List (List Nat)}{Ph:List (Option Value)->List World->Heap->Prop}:∀(rest:List Nat) (n:Nat),nwd C l G E D sp ch rqs Ph n rest->∀(k c:Nat) (rq:List Nat) (o:Oper) (ds:List Nat) (d:Nat),rest[k]? =some c->rqs[n+k]? =some rq->l[c]? =some o->sp[c]? =some (ds,none)->o.dst=some d->∀cv L' H',cv.length=ch.length->n5b rq (n+k) cv=true->Ph cv L' H'->∀(F:Env) (Q':Post),(∀v L'' H'',Ph (cv.set (n+k) (some v)) L'' H''->PJ C Q' .normal ((d,v)::(envN l.toArray sp ch cv ds++(E++F))) D G L'' H'')->OJ C l.toArray Q' [o] (envN l.toArray sp ch cv ds++(E++F)) D G L' H'
 | [],_,_,k,c,_,_,_,_,h,_,_,_,_=>by simp at h
 |c'::rest,n,h,k,c,rq,o,ds,d,hk,hr,hl,hs,hd=>by
  cases k with
  |zero=>simp at hk;subst hk;exact h.1 rq o ds d hr hl hs hd
  |succ k=>
   rw[show n+(k+1)=n+1+k by omega]at hr ⊢;exact nah rest (n+1) h.2 k c rq o ds d zUc hr hl hs hd
variable {rqs:List (List Nat)} {rest:List Nat} {k:Nat}
theorem nc{l:List Oper}{sp:Sp}{c:Nat}{rq:List Nat}{o:Oper}{d:Nat}(h0:rqs[k]? =some rq)(h1:l[c]? =some o)(h2:sp[c]? =some (ds,none))(h3:o.dst=some d)(h:∀cv L' H',cv.length=ch.length->n5b rq k cv=true->Ph cv L' H'->∀(F:Env) (Q':Post),(∀v L'' H'',Ph (cv.set k (some v)) L'' H''->PJ C Q' .normal ((d,v)::(envN l.toArray sp ch cv ds++(E++F))) D G L'' H'')->OJ C l.toArray Q' [o] (envN l.toArray sp ch cv ds++(E++F)) D G L' H')(t:nwd C l G E D sp ch rqs Ph (k+1) rest):nwd C l G E D sp ch rqs Ph k (c::rest):=
 ⟨λrq' o' ds' d' e0 e1 e2 e3=>by
  rw[h0]at e0;cases e0;rw[h1]at e1;cases e1;rw[h2]at e2;cases e2;rw[h3]at e3;cases e3;exact h,t⟩
theorem nn{l:List Oper}{sp:Sp}:nwd C l G E D sp ch rqs Ph k []:=trivial
theorem nRg{l:List Oper}(nA:Nat)(ch:List Nat)(sp:Sp)(rqs:List (List Nat))(Ph:List (Option Value)->List World->Heap->Prop)(hm:C.P.follows .mixedOrders=true)(h0:Ph (ch.map λ_=>none) L H)(hok:nBc l.toArray nA (sp.map (·.1)) E=true)(hN:nQc C.N l=true)(hch:netB l ch 0 rqs=true)(hnd:nsc ch=true)(hpt:nFb ch 0 sp=true)(hlt':ch.all (λc=>Nat.blt c nA)=true)(hrq:rqs.length=ch.length)(pure:nZb C l.toArray G E sp ch Ph l sp)(step:nwd C l G E D sp ch rqs Ph 0 ch)(fin:∀cv L' H',cv.length=ch.length->cv.all (λx=>x.isSome)=true->Ph cv L' H'->OJ C l.toArray Q (l.drop nA) (envN l.toArray sp ch cv (List.range nA)++E) D G L' H'):CJ C (.region id l.toArray true) Q E D G L H:=
 CJ.net nA ch sp rqs Ph hm h0 hok hN hch hnd hpt hlt' (nBd l sp pure) (λk c rq o ds d hk hr hl hs hd cv L' H' hlen hrd=>by
  have:=nah ch 0 step k c rq o ds d hk (by rw[aVo];exact hr) hl hs hd cv L' H' hlen;rw[aVo]at this;exact this hrd) hrq fin
variable {e:Exit}
theorem ndg{p q:Nat×Obj}(k:PJ C Q e E D G L (p::q::H)):PJ C Q e E D G L (q::p::H):=λa W hN hD hF hS=>k a W hN hD hF (hS.perm (List.Perm.swap p q H))
end
section
variable {P:Program} {N:Nat} {Q:Post} {E:Env} {D:List Deferred} {G:Gh} {L:List World} {H:Heap} {ops:Array Oper} {l:List Oper}
variable {ty f:Nat} {pos:String} {aft:Array Edge} {g:Option (Nat×Bool)} {x:Operand}
variable {tys:Array Nat}
theorem OJ.defer{cap:List Value}(hw:nm ops E g=some true)(hx:ev E x=some (.func (.func f) #[] cap.toArray))(k:OJ ⟨P,none,N⟩ ops Q l E ({target:=.fn (.func f) cap.toArray,args:=#[]}::D) G L H):OJ ⟨P,none,N⟩ ops Q (⟨none,.defer ⟨.value x,#[],tys⟩,ty,pos,aft,g⟩::l) E D G L H:=by
 intro a W hN' hD hF hS;unfold wpListIn;rw[if_pos (nsb hF hw)];refine⟨λ_ _=>trivial,?_⟩;have hr:(execOp a.eval ⟨none,.defer ⟨.value x,#[],tys⟩,ty,pos,aft,g⟩).run P W= .ok (.defer {target:=.fn (.func f) cap.toArray,args:=#[]}) W:=by
  simp[execOp,resolve,hF.ev hx,Deferred.ofValue]
 dsimp only;rw[Oper.semAt_none,hr,Oper.uponIn_defer];exact k _ W hN' zpb (λt v hv=>hF t v hv) hS
end
/-! ### several blocks that are lent -/
def keys (H:Heap):List Nat:=H.map (·.1)
def FrAll (G:Gh) (L:List World):Heap->Prop
 | []=>True
 |p::H=>Fr G L p.1/\FrAll G L H
theorem FrAll.mem{G:Gh}{L:List World}:∀{H:Heap},FrAll G L H->∀p∈H,Fr G L p.1
 | [],_,p,hp=>by cases hp
 |q::H,h,p,hp=>by
  rcases aeo.1 hp with rfl|hp
  ·exact h.1
  exact FrAll.mem h.2 p hp
def OwnAll (w:World):Heap->Prop
 | []=>True
 |p::H=>w.heap[p.1]? =some p.2/\OwnAll w H
theorem OwnAll.mem{w:World}:∀{H:Heap},OwnAll w H->∀p∈H,w.heap[p.1]? =some p.2
 | [],_,p,hp=>by cases hp
 |q::H,h,p,hp=>by
  rcases aeo.1 hp with rfl|hp
  ·exact h.1
  exact OwnAll.mem h.2 p hp
theorem dist1(p:Nat×Obj):Dist [p]:=by rw[n0c];simp
def OverZ (Z:List Nat) (n:Nat):Heap->Prop
 | []=>True
 |p::H=>(p.1∈Z\/n<=p.1)/\OverZ Z n H
theorem OverZ.mem{Z:List Nat}{n:Nat}:∀{H:Heap},OverZ Z n H->∀p∈H,p.1∈Z\/n<=p.1
 | [],_,p,hp=>by cases hp
 |q::H,h,p,hp=>by
  rcases aeo.1 hp with rfl|hp
  ·exact h.1
  exact OverZ.mem h.2 p hp
section
variable {C:Cx} {Q:Post} {E:Env} {D:List Deferred} {G:Gh} {L:List World} {H:Heap} {ops:Array Oper} {l:List Oper}
variable {d T ty f:Nat} {pos:String} {aft:Array Edge} {g:Option (Nat×Bool)} {x:Operand} {xs:List Operand} {vs:List Value} {tys:Array Nat} {fn:Func}
end
/-! ### equality of plain data -/
inductive TK where|i|b|s
def eqV:Value->Value->Bool
 | .int _ a,.int _ b=>a==b
 | .bool a,.bool b=>a==b
 | .string a,.string b=>a.toList==b.toList
 |_,_=>false
def smK:TK->Value->Value->Bool
 | .i,.int k _,.int k' _=>decide (k=k')
 | .b,.bool _,.bool _=>true
 | .s,.string _,.string _=>true
 |_,_,_=>false
def eqL:List Value->List Value->Bool
 |x::xs,y::ys=>eqV x y&&eqL xs ys
 |_,_=>true
def smT:List TK->List Value->List Value->Bool
 |k::ks,x::xs,y::ys=>smK k x y&&smT ks xs ys
 | [],[],[]=>true
 |_,_,_=>false
theorem nAg:∀{ks:List TK} {xs ys:List Value},smT ks xs ys=true->xs.length=ks.length/\ys.length=ks.length
 | [],[],[],_=>⟨rfl,rfl⟩
 |k::ks,x::xs,y::ys,h=>by
  simp only[smT,awo]at h;have:=nAg h.2;simp[this.1,this.2]
 | [],_::_,_,h=>by simp[smT]at h
 | [],[],_::_,h=>by simp[smT]at h
 |_::_,[],_,h=>by simp[smT]at h
 |_::_,_::_,[],h=>by simp[smT]at h
theorem nof:∀{a b c d:List Value},a.length=c.length->eqL (a++b) (c++d)=(eqL a c&&eqL b d)
 | [],b,[],d,_=>by simp[eqL]
 |x::a,b,y::c,d,h=>by
  simp only[aEo,eqL];rw[nof z2b,Bool.and_assoc]
 | [],b,y::c,d,h=>by simp at h
 |x::a,b,[],d,h=>by simp at h
theorem nkf:∀{k1 k2:List TK} {a b c d:List Value},a.length=k1.length->c.length=k1.length->smT (k1++k2) (a++b) (c++d)=(smT k1 a c&&smT k2 b d)
 | [],k2,[],b,[],d,_,_=>by simp[smT]
 |k::k1,k2,x::a,b,y::c,d,h,h'=>by
  simp only[aEo,smT];rw[nkf z2b (by simpa using h'),Bool.and_assoc]
 | [],k2,x::a,b,c,d,h,h'=>by simp at h
 | [],k2,[],b,y::c,d,h,h'=>by simp at h'
 |k::k1,k2,[],b,c,d,h,h'=>by simp at h
 |k::k1,k2,x::a,b,[],d,h,h'=>by simp at h'
def EqA (P:Program) (k t:Nat) (ks:List TK):Prop:=∀(d:Nat) (xs ys:List Value) (w:World),smT ks xs ys=true->(Op.equalIn (d+k) t (.agg xs.toArray) (.agg ys.toArray)).run P w= .ok (eqL xs ys) w
def EqP (P:Program) (k t:Nat) (ks:List TK):Prop:=∀(d:Nat) (p1 c1 q1 p2 c2 q2:List Value) (w:World),p1.length=p2.length->smT ks c1 c2=true->
 ∃a b,(part t (p1++(c1++q1)).toArray p1.length).run P w= .ok a w/\(part t (p2++(c2++q2)).toArray p1.length).run P w= .ok b w/\(Op.equalIn (d+k) t a b).run P w= .ok (eqL c1 c2) w
variable {ks:List TK} {k:Nat}
theorem EqA.up{P:Program}{k' t:Nat}(h:EqA P k t ks)(hk:k<=k'):EqA P k' t ks:=λd xs ys w h1=>by
 have:=h (d+(k'-k)) xs ys w h1;rwa[show d+(k'-k)+k=d+k' by omega]at this
theorem EqP.up{P:Program}{k' t:Nat}(h:EqP P k t ks)(hk:k<=k'):EqP P k' t ks:=λd p1 c1 q1 p2 c2 q2 w h1 h2=>by
 have:=h (d+(k'-k)) p1 c1 q1 p2 c2 q2 w h1 h2;rwa[show d+(k'-k)+k=d+k' by omega]at this
theorem EqP.one{P:Program}{t:Nat}{k:TK}(hA:AggF P t false)(h:∀(d:Nat) (v u:Value) (w:World),smK k v u=true->(Op.equalIn (d+1) t v u).run P w= .ok (eqV v u) w):EqP P 1 t [k]:=by
 intro d p1 c1 q1 p2 c2 q2 w h1 h2
 match c1,c2,h2 with
 | [v],[u],h2=>
  simp only[smT,Bool.and_true]at h2;refine⟨v,u,by simp[part,hA w],by rw[h1];simp[part,hA w],?_⟩;rw[h d v u w h2];simp[eqL]
 | [],_,h2=>simp[smT]at h2
 | [_],[],h2=>simp[smT]at h2
 |_::_::_,[],h2=>simp[smT]at h2
 | [_],_::_::_,h2=>simp[smT]at h2
 |_::_::_,_::_,h2=>simp[smT]at h2
variable {K:IntKind}
theorem EqP.int{P:Program}{t:Nat}(hU:P.underlying t=some (.int K))(hA:AggF P t false):EqP P 1 t [.i]:=EqP.one hA (by
 intro d v u w h;cases v<;>cases u<;>simp only[smK,Bool.false_eq_true]at h
 rename_i k a k' b;have:k=k':=by simpa using h
 subst this;rw[run_equalIn_int w d t k K a b hU];rfl)
theorem EqP.bool{P:Program}{t:Nat}(hU:P.underlying t=some .bool)(hA:AggF P t false):EqP P 1 t [.b]:=EqP.one hA (by
 intro d v u w h;cases v<;>cases u<;>simp only[smK,Bool.false_eq_true]at h
 rw[run_equalIn_bool' w d t _ _ hU];rfl)
theorem EqP.str{P:Program}{t:Nat}(hU:P.underlying t=some .string)(hA:AggF P t false):EqP P 1 t [.s]:=EqP.one hA (by
 intro d v u w h;cases v<;>cases u<;>simp only[smK,Bool.false_eq_true]at h
 rw[run_equalIn_string w d t _ _ hU];rfl)
theorem EqP.agg{P:Program}{t n:Nat}(hA:AggF P t true)(hZ:nK P t n)(hn:ks.length=n)(h:EqA P k t ks):EqP P k t ks:=by
 intro d p1 c1 q1 p2 c2 q2 w h1 h2;have hl:=nAg h2;have cutp:∀(p c q:List Value),c.length=n->(p++(c++q)).toArray.extract p.length (p.length+n)=c.toArray:=by
  intro p c q hc;apply Array.ext';rw[Array.toList_extract,List.extract_eq_take_drop];simp only[Nat.add_sub_cancel_left];rw[List.drop_left' rfl,<-hc,aqp rfl]
 refine⟨.agg c1.toArray,.agg c2.toArray,?_,?_,h d c1 c2 w h2⟩
 ·simp only[part,Sem.run_bind,hA w,hZ w,Result.andThen,if_true,Sem.run_pure];rw[cutp p1 c1 q1 zG]
 simp only[part,Sem.run_bind,hA w,hZ w,Result.andThen,if_true,Sem.run_pure];rw[h1,cutp p2 c2 q2 zG]
def EqFs (P:Program) (k:Nat):List Field->Nat->List TK->Prop
 | [],_,ks=>ks=[]
 |f::fs,off,ks=>∃k1 k2,ks=k1++k2/\f.offset=off/\(f.name≠ "_")/\EqP P k f.type k1/\EqFs P k fs (off+k1.length) k2
theorem EqFs.n{P:Program}{off:Nat}:EqFs P k [] off []:=rfl
theorem EqFs.c{P:Program}{off:Nat}{f:Field}{fs:List Field}{k1 k2:List TK}(ho:f.offset=off)(hn:f.name≠ "_")(h:EqP P k f.type k1)(t:EqFs P k fs (off+k1.length) k2):EqFs P k (f::fs) off (k1++k2):=⟨k1,k2,rfl,ho,hn,h,t⟩
theorem nel{P:Program}{k:Nat}(d:Nat):∀(fs:List Field) (ks:List TK) (p1 c1 p2 c2:List Value) (w:World),p1.length=p2.length->EqFs P k fs p1.length ks->smT ks c1 c2=true->(Op.eqFields (d+k) (p1++c1).toArray (p2++c2).toArray fs).run P w= .ok (eqL c1 c2) w
 | [],ks,p1,c1,p2,c2,w,_,h,hs=>by
  cases h
  match c1,c2,hs with
  | [],[],_=>simp[Op.eqFields,eqL]
  |_::_,_,hs=>simp[smT]at hs
  | [],_::_,hs=>simp[smT]at hs
 |f::fs,ks,p1,c1,p2,c2,w,hp,h,hs=>by
  obtain⟨k1,k2,rfl,ho,hn,hf,ht⟩:=h;have hl:=nAg hs;simp only[aHo]at hl;obtain⟨a1,b1,rfl,ha1⟩:∃a b,c1=a++b/\a.length=k1.length:=⟨c1.take k1.length,c1.drop k1.length,(acp _ _).symm,by simp;omega⟩;obtain⟨a2,b2,rfl,ha2⟩:∃a b,c2=a++b/\a.length=k1.length:=⟨c2.take k1.length,c2.drop k1.length,(acp _ _).symm,by simp;omega⟩;rw[nkf ha1 ha2,awo]at hs;obtain⟨x,y,hx,hy,he⟩:=hf d p1 a1 b1 p2 a2 b2 w hp hs.1;have ih:=nel d fs k2 (p1++a1) b1 (p2++a2) b2 w (by simp[hp,ha1,ha2]) (by rw[aHo,ha1];exact ht) hs.2;simp only[a2o]at ih;have hx':(part f.type (p1++(a1++b1)).toArray f.offset).run P w= .ok x w:=by rw[ho];exact hx
  have hy':(part f.type (p2++(a2++b2)).toArray f.offset).run P w= .ok y w:=by rw[ho];exact hy
  rw[nof zG];simp only[Op.eqFields,if_pos hn,Sem.run_bind,hx',hy',he,Result.andThen];cases hq:eqL a1 a2 with
  |false=>simp[Sem.run]
  |true=>
   simp only[Bool.not_true,Bool.false_eq_true,if_false,Bool.true_and];exact ih
theorem EqA.struct{P:Program}{t:Nat}{fs:List Field}(hU:P.underlying t=some (.struct fs.toArray))(hp:P.stoodInHeld t=false)(h:EqFs P k fs 0 ks):EqA P (k+1) t ks:=by
 intro d xs ys w hs;have hf:P.fieldsOf t=fs.toArray:=by simp[Program.fieldsOf,hU]
 rw[<-Nat.add_assoc,run_equalIn_struct w (d+k) t xs.toArray ys.toArray (by rw[hf];exact hU) hp,hf];exact nel d fs ks [] xs [] ys w rfl h hs
def repK:Nat->List TK->List TK
 |0,_=>[]
 |n+1,ks=>ks++repK n ks
variable {m:Nat}
theorem EqA.array{P:Program}{t len e:Nat}(hU:P.underlying t=some (.array len e))(hZ:nK P e m)(hm:ks.length=m)(h:EqP P k e ks):EqA P (k+1) t (repK len ks):=by
 intro d xs ys w hs;have key:∀(n i:Nat) (p1 c1 p2 c2:List Value),p1.length=i*m->p2.length=i*m->smT (repK n ks) c1 c2=true->
  (do
   for j in List.range' i n do
    if !(<-Op.equalIn (d+k) e (<-part e (p1++c1).toArray (j*m)) (<-part e (p2++c2).toArray (j*m)))then return false
   pure true:Sem Bool).run P w= .ok (eqL c1 c2) w:=by
  intro n;induction n with
  |zero=>
   intro i p1 c1 p2 c2 _ _ hs
   match c1,c2,hs with
   | [],[],_=>simp[eqL]
   |_::_,_,hs=>simp[repK,smT]at hs
   | [],_::_,hs=>simp[repK,smT]at hs
  |succ n ih=>
   intro i p1 c1 p2 c2 hp1 hp2 hs;have hl:=nAg hs;simp only[repK,aHo]at hl;obtain⟨a1,b1,rfl,ha1⟩:∃a b,c1=a++b/\a.length=ks.length:=⟨c1.take ks.length,c1.drop ks.length,(acp _ _).symm,by simp;omega⟩;obtain⟨a2,b2,rfl,ha2⟩:∃a b,c2=a++b/\a.length=ks.length:=⟨c2.take ks.length,c2.drop ks.length,(acp _ _).symm,by simp;omega⟩;simp only[repK]at hs;rw[nkf ha1 ha2,awo]at hs;obtain⟨x,y,hx,hy,he⟩:=h d p1 a1 b1 p2 a2 b2 w zG hs.1;rw[hp1]at hx hy;have ih':=ih (i+1) (p1++a1) b1 (p2++a2) b2 (by rw[aHo,hp1,ha1,hm,a5o];omega) (by rw[aHo,hp2,ha2,hm,a5o];omega) hs.2;simp only[a2o]at ih';rw[nof zG];simp only[List.range'_succ,List.forIn_cons,Sem.run_bind,hx,hy,he,Result.andThen]at ih' ⊢;cases hq:eqL a1 a2 with
   |false=>simp[Sem.run]
   |true=>
    simp only[Bool.not_true,Bool.false_eq_true,if_false,Bool.true_and,Sem.run_pure];exact ih'
 have:=key len 0 [] xs [] ys zS zS hs;simp only[abp]at this;rw[<-Nat.add_assoc];simp only[Op.equalIn,Sem.run_bind,run_underlying hU,Result.andThen_ok,hZ w];rw[Std.Legacy.Range.forIn_eq_forIn_range'];simpa[Std.Legacy.Range.size]using this
section
variable {C:Cx} {E:Env} {G:Gh} {L:List World} {H:Heap} {T U:Nat} {x y:Operand}
theorem eqlA_r{as_ bs:Array Value}(h:EqA C.P k T ks)(hk:Nat.ble k 10000=true)(hg:C.P.eqGuardType C.P.depth T=false)(hx:ev E x=some (.agg as_))(hy:ev E y=some (.agg bs))(hs:smT ks as_.toList bs.toList=true):RV C G L H E (.binOp .eql T x y U) (.bool (eqL as_.toList bs.toList)):=λd ty pos aft g a W hF _=>by
 have h1:=h (10000-k) as_.toList bs.toList W hs;rw[show 10000-k+k=10000 by have:=apo hk;omega]at h1;simp only[Array.toArray_toList]at h1;have h2:=run_eql_struct (P:=C.P) W T as_ bs;rw[h1]at h2;have h3:=run_eqGuard_agg (P:=C.P) W .eql T x y as_ bs hg;simp only[execOp,hF.ev hx,hF.ev hy,Sem.run_bind,h3,h2,Result.andThen];rfl
theorem neqA_r{as_ bs:Array Value}(h:EqA C.P k T ks)(hk:Nat.ble k 10000=true)(hg:C.P.eqGuardType C.P.depth T=false)(hx:ev E x=some (.agg as_))(hy:ev E y=some (.agg bs))(hs:smT ks as_.toList bs.toList=true):RV C G L H E (.binOp .neq T x y U) (.bool (!eqL as_.toList bs.toList)):=λd ty pos aft g a W hF _=>by
 have h1:=h (10000-k) as_.toList bs.toList W hs;rw[show 10000-k+k=10000 by have:=apo hk;omega]at h1;simp only[Array.toArray_toList]at h1;have h2:=run_neq_struct (P:=C.P) W T as_ bs;rw[h1]at h2;have h3:=run_eqGuard_agg (P:=C.P) W .neq T x y as_ bs hg;simp only[execOp,hF.ev hx,hF.ev hy,Sem.run_bind,h3,h2,Result.andThen];rfl
theorem eqIn_sn{P:Program}{e:Nat}(hU:P.underlying T=some (.slice e))(n c:Nat)(d:Nat)(W:World):(Op.equalIn (d+1) T (.slice none n c) (.slice none 0 0)).run P W= .ok true W:=by
 simp[Op.equalIn,run_underlying hU]
end
def ent (v:Value) (k:Int) (i:Nat):MapEntry:={key:=.int .i64 k,val:=v,born:=i}
def ents (v:Value):List Int->Nat->List MapEntry
 | [],_=>[]
 |k::ks,i=>ent v k i::ents v ks (i+1)
def mpO (v:Value) (ks:List Int):Obj:=.map (ents v ks 0).toArray ks.length
def putK (ks:List Int) (k:Int):List Int:=if k∈ks then ks else ks++[k]
theorem njl(v:Value):∀(ks:List Int) (i:Nat),(ents v ks i).length=ks.length
 | [],_=>rfl
 |_::ks,i=>by simp[ents,njl v ks]
theorem nHj(v:Value)(k:Int):∀(ks:List Int) (i:Nat),ents v (ks++[k]) i=ents v ks i++[ent v k (i+ks.length)]
 | [],i=>rfl
 |x::ks,i=>by simp[ents,nHj v k ks,Nat.add_assoc,Nat.add_comm 1]
theorem nvi(v:Value)(k:Int):∀(ks:List Int) (i j:Nat),k∉ks->Instr.findNow (.int .i64) (.int .i64 k) (ents v ks i) j=some none
 | [],_,_,_=>rfl
 |x::ks,i,j,h=>by
  have hx:(k==x)=false:=by simp;exact λe=>h (by simp[e])
  simp only[ents,Instr.findNow,ent,Instr.sameNow,if_true,hx];exact nvi v k ks (i+1) (j+1) (λhm=>h (by simp[hm]))
theorem ndh(v:Value)(k:Int):∀(ks:List Int) (i j:Nat),k∈ks->∃m,Instr.findNow (.int .i64) (.int .i64 k) (ents v ks i) j=some (some (j+m,v))/\(ents v ks i)[m]? =some (ent v k (i+m))
 | [],_,_,h=>by simp at h
 |x::ks,i,j,h=>by
  by_cases hx:k=x
  ·subst hx;exact⟨0,by simp[ents,Instr.findNow,ent,Instr.sameNow],by simp[ents]⟩
  have hx':(k==x)=false:=by simpa using hx
  obtain⟨m,h1,h2⟩:=ndh v k ks (i+1) (j+1) (by simpa[hx]using h);refine⟨m+1,?_,?_⟩
  ·simp only[ents,Instr.findNow,ent,Instr.sameNow,if_true,hx'];rw[h1];simp[Nat.add_assoc,Nat.add_comm 1]
  simp only[ents,aio];rw[h2];simp[Nat.add_assoc,Nat.add_comm 1]
variable {kt:Nat}
theorem ngh{P:Program}(hK:P.underlying kt=some (.int .i64))(v:Value)(k:Int)(ks:List Int):((Instr.findKey kt (.int .i64 k) (ents v ks 0)).run P W= .ok none W/\k∉ks)\/(∃m,(Instr.findKey kt (.int .i64 k) (ents v ks 0)).run P W= .ok (some (m,v)) W/\k∈ks/\(ents v ks 0)[m]? =some (ent v k m)):=by
 by_cases h:k∈ks
 ·obtain⟨m,h1,h2⟩:=ndh v k ks 0 0 h;refine .inr ⟨m,?_,h,by simpa using h2⟩;simp[Instr.findKey,run_underlying hK,h1]
 refine .inl ⟨?_,h⟩;simp[Instr.findKey,run_underlying hK,nvi v k ks 0 0 h]
theorem ncb{P:Program}(hK:P.underlying kt=some (.int .i64))(b:Bool)(k:Int):(Instr.checkKey b 10000 kt (.int .i64 k)).run P W= .ok () W:=by
 show(Instr.checkKey b (9999+1) kt (.int .i64 k)).run P W= .ok () W;generalize 9999=n;simp[Instr.checkKey,run_underlying hK]
variable {es:Array MapEntry} {b:Nat}
theorem nbb{P:Program}{c:Nat}(h:W.heap[b]? =some (.map es c)):(getObj b).run P W= .ok (.map es c) W:=by simp[getObj,Sem.run,h]
theorem nvc{P:Program}{c:Nat}(o':Obj)(h:W.heap[b]? =some (.map es c)):(setObj b o').run P W= .ok () (W.putObj b o'):=by simp[setObj,Sem.run,h,World.putObj]
variable {T et:Nat}
theorem run_mput{P:Program}{v:Value}{ks:List Int}(hU:P.underlying T=some (.map kt et))(hK:P.underlying kt=some (.int .i64))(hb:W.heap[b]? =some (mpO v ks))(k:Int):(Instr.mapUpdate T (.map (some b)) (.int .i64 k) v).run P W= .ok () (W.putObj b (mpO v (putK ks k))):=by
 have hb':W.heap[b]? =some (.map (ents v ks 0).toArray ks.length):=hb;rcases ngh (P:=P) (W:=W) hK v k ks with⟨h1,h2⟩|⟨m,h1,h2,h3⟩
 ·simp only[Instr.mapUpdate,Sem.run_bind,run_underlying hU,Result.andThen,nbb hb',ncb hK,h1,nvc _ hb'];congr 2;unfold mpO putK;rw[if_neg h2,nHj];simp[ent]
 have hm:m<(ents v ks 0).length:=(ako.1 h3).1;have hk:((((ents v ks 0).toArray[m]?).map (·.key)).getD (.int .i64 k))= .int .i64 k:=by simp[h3,ent]
 have hs:Instr.sameBits 10000 (.int .i64 k) (.int .i64 k)=true:=by
  exact z7j
 simp only[Instr.mapUpdate,Sem.run_bind,run_underlying hU,Result.andThen,nbb hb',ncb hK,h1,hk,Instr.keyThatStays,hs,if_true,Sem.run_pure,nvc _ hb'];congr 2;unfold mpO putK;rw[if_pos h2];congr 1;apply Array.ext';apply aDo;intro i;simp only[Array.toList_modify,List.getElem?_modify];by_cases hi:m=i
 ·subst hi;rw[h3];simp[ent]
 simp[hi]
section
variable {C:Cx} {Q:Post} {E:Env} {D:List Deferred} {G:Gh} {L:List World} {H:Heap} {ops:Array Oper} {l:List Oper}
variable {d T ty:Nat} {pos:String} {aft:Array Edge} {g:Option (Nat×Bool)} {x y z:Operand}
def Lies (G:Gh) (L:List World) (H:Heap) (b:Nat) (o:Obj):Prop:=∀W,St G L H W->W.heap[b]? =some o
variable {i:Nat} {o:Obj}
theorem Lies.own(hi:H[i]? =some (b,o)):Lies G L H b o:=λ_ hS=>hS.own _ (ajo hi)
theorem Lies.old{w:World}(hm:w∈L)(hb:w.heap[b]? =some o)(hG:¬G.X b)(hO:Off H b):Lies G L H b o:=λ_ hS=>hS.old hm hb hG hO
variable {zv:Value}
theorem mlook_r{v:Value}{ks:List Int}{k:Int}(hU:C.P.underlying T=some (.map kt et))(hK:C.P.underlying kt=some (.int .i64))(hz:nvb C.P et zv)(hb:Lies G L H b (mpO v ks))(hx:ev E x=some (.map (some b)))(hy:ev E y=some (.int .i64 k)):RV C G L H E (.lookup T x y true) (.tuple #[if k∈ks then v else zv,.bool (decide (k∈ks))]):=λd ty pos aft g a W hF hS=>by
 have hb':W.heap[b]? =some (.map (ents v ks 0).toArray ks.length):=hb W hS;rcases ngh (P:=C.P) (W:=W) hK v k ks with⟨h1,h2⟩|⟨m,h1,h2,_⟩
 ·simp[execOp,hF.ev hx,hF.ev hy,Instr.lookup,run_underlying hU,nbb hb',ncb hK,h1,h2,hz W]
 simp[execOp,hF.ev hx,hF.ev hy,Instr.lookup,run_underlying hU,nbb hb',ncb hK,h1,h2]
theorem mlen_r{t:Nat}{v:Value}{ks:List Int}(hU:C.P.underlying t=some (.map kt et))(hb:Lies G L H b (mpO v ks))(hx:ev E x=some (.map (some b))):RV C G L H E (.call ⟨.builtin .len,#[x],#[t]⟩) (.int .i64 (ks.length:Int)):=λd ty pos aft g a W hF hS=>by
 have hb':W.heap[b]? =some (.map (ents v ks 0).toArray ks.length):=hb W hS;simp[execOp,hF.ev hx,resolve,invoke,Deferred.ofValue,builtin,Builtin.len_,run_underlying hU,goInt,nbb hb',njl]
theorem mkMW{v:Value}(hw:nm ops E g=some true)(hN:Nat.blt d C.N=true)(k:∀(b:Nat),Above L b->Off H b->OJ C ops Q l ((d,.map (some b))::E) D G L ((b,mpO v [])::H)):OJ C ops Q (⟨some d,.makeMap T none,ty,pos,aft,g⟩::l) E D G L H:=
 nqb zS hw hN λa W _ hS=>⟨.map (some W.heap.size),W.alloc (mpO v []),_,_,by simp[execOp,Instr.makeMap,mpO,ents],hS.alloc _,k W.heap.size hS.sizes hS.offNew⟩
theorem mputW{v:Value}{ks:List Int}{k:Int}(hi:H[i]? =some (b,mpO v ks))(hU:C.P.underlying T=some (.map kt et))(hK:C.P.underlying kt=some (.int .i64))(hw:nm ops E g=some true)(hx:ev E x=some (.map (some b)))(hy:ev E y=some (.int .i64 k))(hz:ev E z=some v)(kk:OJ C ops Q l E D G L (H.set i (b,mpO v (putK ks k)))):OJ C ops Q (⟨none,.mapUpdate T x y z,ty,pos,aft,g⟩::l) E D G L H:=
 nhc rfl zS hw (λa W hF hS=>by
  have hb:=hS.own _ (ajo hi);have hlt:b<W.heap.size:=(ago.1 hb).1;refine⟨.skip,_,.inl rfl,?_,hS.put hi (ngb W b _) (World.putObj_heap_same hlt)⟩;simp[execOp,hF.ev hx,hF.ev hy,hF.ev hz,run_mput hU hK hb]) kk
end
def SlAt {α:Type} (enc:α->Array Value) (n N:Nat) (w:World) (a:Option Addr) (xs:List α):Prop:=
 xs=[]\/∃b off cs t fr,a=some ⟨b,off,none⟩/\b<N/\w.heap[b]? =some (.cells cs t fr)/\∀i (h:i<xs.length),off+i*n+n<=cs.size/\cut cs (off+i*n) n=enc xs[i]
section
variable {α:Type} {enc:α->Array Value} {n N N':Nat} {w w':World} {a:Option Addr} {xs:List α}
theorem SlAt.up(h:SlAt enc n N w a xs)(hN:N<=N')(hw:∀k,k<N->w'.heap[k]? =w.heap[k]?):SlAt enc n N' w' a xs:=by
 rcases h with h|⟨b,off,cs,t,fr,h1,h2,h3,h4⟩
 ·exact .inl h
 exact .inr ⟨b,off,cs,t,fr,h1,by omega,(hw b h2).trans h3,h4⟩
theorem SlAt.get(h:SlAt enc n N w a xs)(hx:0<xs.length):∃b off cs t fr,a=some ⟨b,off,none⟩/\b<N/\w.heap[b]? =some (.cells cs t fr)/\∀i (h:i<xs.length),off+i*n+n<=cs.size/\cut cs (off+i*n) n=enc xs[i]:=by
 rcases h with rfl|h
 ·simp at hx
 exact h
variable {cs:Array Value} {fr:Nat×Nat}
theorem SlAt.block{t:Nat}(hb:b<N)(h:w.heap[b]? =some (.cells cs t fr))(hx:∀i (h:i<xs.length),i*n+n<=cs.size/\cut cs (i*n) n=enc xs[i]):SlAt enc n N w (some ⟨b,0,none⟩) xs:=
 .inr ⟨b,0,cs,t,fr,rfl,hb,h,λi hi=>by rw[aVo];exact hx i hi⟩
end
variable {cs:Array Value}
theorem cut_at{n:Nat}{r:Array Value}(h:cut cs k n=r)(j:Nat)(hj:j<n):cs[k+j]? =r[j]? :=by
 subst h;unfold cut;conv=>rhs;rw[aUo,atp hj,aGo,auo]
section
variable {α:Type} {enc:α->Array Value} {n off:Nat} {cs:Array Value} {xs:List α}
variable {j:Nat}
theorem nQ(h:∀i (h:i<xs.length),off+i*n+n<=cs.size/\cut cs (off+i*n) n=enc xs[i]){x:α}(hj:xs[j]? =some x){i:Int}(hi:i=(j:Int))(k:Nat)(hk:k<n):cs[off+i.toNat*n+k]? =(enc x)[k]? :=by
 obtain⟨h1,h2⟩:=ako.1 hj;subst hi;rw[a8o,cut_at (h j h1).2 k hk,h2]
theorem nF(h:∀i (h:i<xs.length),off+i*n+n<=cs.size/\cut cs (off+i*n) n=enc xs[i]){x:α}(hj:xs[j]? =some x){i:Int}(hi:i=(j:Int))(hn:0<n):cs[off+i.toNat*n]? =(enc x)[0]? :=by
 have:=nQ h hj hi 0 hn;rwa[Nat.add_zero]at this
theorem nl(h:∀i (h:i<xs.length),off+i*n+n<=cs.size/\cut cs (off+i*n) n=enc xs[i]){x:α}(hj:xs[j]? =some x){i:Int}(hi:i=(j:Int)):cut cs (off+i.toNat*n) n=enc x:=by
 obtain⟨h1,h2⟩:=ako.1 hj;subst hi;rw[a8o,(h j h1).2,h2]
theorem nk(h:∀i (h:i<xs.length),off+i*n+n<=cs.size/\cut cs (off+i*n) n=enc xs[i]){x:α}(hj:xs[j]? =some x){i:Int}(hi:i=(j:Int)):off+i.toNat*n+n<=cs.size:=by
 obtain⟨h1,_⟩:=ako.1 hj;subst hi;rw[a8o];exact(h j h1).1
end
def encI (x:Int):Array Value:=#[.int .i64 x]
def setK (xs:List Int):List Int:=xs.foldl putK []
theorem nnj(xs:List Int)(x:Int):setK (xs++[x])=putK (setK xs) x:=by simp[setK,awp]
theorem putK_mem(ks:List Int)(k x:Int):x∈putK ks k↔x∈ks\/x=k:=by
 unfold putK;split
 ·rename_i h;constructor
  ·exact .inl
  rintro(h1|rfl)
  ·exact h1
  exact h
 simp
theorem setK_mem(xs:List Int)(x:Int):x∈setK xs↔x∈xs:=by
 have key:∀(l ks:List Int),x∈l.foldl putK ks↔x∈ks\/x∈l:=by
  intro l;induction l with
  |nil=>intro ks;simp
  |cons y l ih=>intro ks;rw[List.foldl_cons,ih,putK_mem];simp[or_assoc]
 simpa[setK]using key xs []
variable {j:Nat}
theorem np{α:Type}{xs:List α}{x:α}(h:xs[j]? =some x):xs.take (j+1)=xs.take j++[x]:=by
 obtain⟨h1,h2⟩:=ako.1 h;rw[aep h1,h2]
theorem nj{α:Type}(xs:List α)(j:Nat)(h:j<xs.length):∃x,xs[j]? =some x:=⟨_,aNo h⟩
theorem nz{α:Type}{xs:List α}{x:α}(h:xs[j]? =some x):j<xs.length:=(ako.1 h).1
section
variable {C:Cx} {Q:Post} {fn:Func} {R:Ending->World->Prop} {E:Env} {D:List Deferred} {G:Gh} {L L':List World} {H:Heap} {e:Exit}
theorem nR(h:∀w∈L',w∈L)(k:PJ C Q e E D G L' H):PJ C Q e E D G L H:=λa W hN hD hF hS=>k a W hN hD hF (hS.lessL h)
theorem retM0{t:Nat}{v:Value}(he:e= .ret\/e= .normal)(hr:fn.results=#[.tmp t])(hv:look E t=some v)(h:∀W,St G L H W->R (.returned v) W):PJ C (bodyPostM (FW none) 0 C.P fn R) e E [] G L H:=by
 intro a W hN hD hF hS;have key:LeavesInM (FW none) 0 C.P fn a.tmps R a.defers .returning W:=by
  rw[hD];exact⟨v,by rw[results_tmp hr];exact congrArg (λu=>Result.ok u W) (hF t v hv),h W hS⟩
 exact zXj
end
theorem nVj{P:Program}{e n:Nat}(hU:P.underlying kt=some (.array n e))(hE:P.underlying e=some (.int K))(hA:AggF P e false)(hZ:nK P e 1)(hs:∀i,i<n->∃v,cs[i]? =some (.int K v))(b:Bool):(Instr.checkKey b 10000 kt (.agg cs)).run P W= .ok () W:=by
 show(Instr.checkKey b (9998+1+1) kt (.agg cs)).run P W= .ok () W;generalize 9998=d;rw[Instr.checkKey];simp only[Sem.run_bind,run_underlying hU,Result.andThen_ok];simp only[Std.Legacy.Range.forIn_eq_forIn_range',Std.Legacy.Range.size,Nat.sub_zero,Nat.add_one_sub_one,Nat.div_one];have each:∀i∈List.range' 0 n,∃v,cs[i]? =some (.int K v):=λi hi=>hs i (by rw[List.mem_range'_1]at hi;omega);clear hs;generalize List.range' 0 n=is at each;induction is with
 |nil=>simp
 |cons j is ih=>
  obtain⟨v,hv⟩:=each j zS;have p1:(part e cs (j*1)).run P W= .ok (.int K v) W:=by rw[arp];simp[part,hA W,hv]
  have p2:(Instr.checkKey b (d+1) e (.int K v)).run P W= .ok () W:=by simp[Instr.checkKey,run_underlying hE]
  exact zGj
section
variable {C:Cx} {E:Env} {G:Gh} {L:List World} {H:Heap} {T:Nat} {x y:Operand}
variable {zv:Value}
theorem mlook0_r{e n c:Nat}(hU:C.P.underlying T=some (.map kt et))(hK:C.P.underlying kt=some (.array n e))(hE:C.P.underlying e=some (.int K))(hA:AggF C.P e false)(hZ:nK C.P e 1)(hz:nvb C.P et zv)(hs:∀i,i<n->∃v,cs[i]? =some (.int K v))(hb:Lies G L H b (.map #[] c))(hx:ev E x=some (.map (some b)))(hy:ev E y=some (.agg cs)):RV C G L H E (.lookup T x y true) (.tuple #[zv,.bool false]):=λd ty pos aft g a W hF hS=>by
 have hb':=hb W hS;have h1:=nVj (P:=C.P) (W:=W) hK hE hA hZ hs;simp[execOp,hF.ev hx,hF.ev hy,Instr.lookup,run_underlying hU,nbb hb',h1,Instr.findKey,run_underlying hK,Instr.findNow,hz W]
end
variable {C:Cx} {E:Env} {x:Operand}
theorem eqlB_r{U:Nat}{y:Operand}{a b:Bool}(hU:C.P.underlying T=some .bool)(hx:ev E x=some (.bool a))(hy:ev E y=some (.bool b)):RV C G L H E (.binOp .eql T x y U) (.bool (a==b)):=λd ty pos aft g ac W hF _=>by
 have h1:(Op.equalIn (9999+1) T (.bool a) (.bool b)).run C.P W= .ok (a==b) W:=by
  generalize 9999=n;simp[Op.equalIn,run_underlying hU]
 have h2:(binOp .eql T (.bool a) (.bool b)).run C.P W= .ok (.bool (a==b)) W:=by
  have e:binOp .eql T (.bool a) (.bool b)=(do pure (.bool (<-Op.equalIn (9999+1) T (.bool a) (.bool b)))):=rfl;rw[e,Sem.run_bind,h1];rfl
 have h3:(eqGuard .eql T x y (.bool a) (.bool b)).run C.P W= .ok () W:=by simp[eqGuard]
 simp only[execOp,hF.ev hx,hF.ev hy,Sem.run_bind,h3,h2,Result.andThen];rfl
theorem len6{α:Type}{l:List α}(h:l.length=6):∃a b c d e f,l=[a,b,c,d,e,f]:=by
 match l,h with
 | [a,b,c,d,e,f],_=>exact⟨a,b,c,d,e,f,rfl⟩
section
variable {H:Type} {enc:TypeId×Value->H} {P:Program} {w:World} {held:Bool}
end
/-! ### rows of elements: a list that grows from nil -/
/-- the cells of a list of elements -/
def flt {α:Type} (enc:α->List Value) (xs:List α):List Value:=xs.flatMap enc
theorem n0{α:Type}{enc:α->List Value}(h:∀x,(enc x).length=m)(xs:List α):(flt enc xs).length=xs.length*m:=by
 induction xs with
 |nil=>simp[flt]
 |cons x xs ih=>simp only[flt,avp,aHo,axo]at *;rw[h,ih,a5o];omega
theorem nbe{α:Type}(enc:α->List Value)(xs ys:List α):flt enc (xs++ys)=flt enc xs++flt enc ys:=by simp[flt]
theorem flt_one{α:Type}(enc:α->List Value)(x:α):flt enc [x]=enc x:=by simp[flt]
theorem nee{α:Type}{enc:α->List Value}{m:Nat}(h:∀x,(enc x).length=m):∀(xs:List α) (sp:List Value) (i:Nat) (hi:i<xs.length),((flt enc xs++sp).drop (i*m)).take m=enc xs[i]
 | [],_,i,hi=>by simp at hi
 |x::xs,sp,0,_=>by
  simp only[flt,avp,Nat.zero_mul,aop,a2o,List.getElem_cons_zero];rw[aqp (h x)]
 |x::xs,sp,i+1,hi=>by
  have:=nee h xs sp i zMc;simp only[flt,avp,a2o,List.getElem_cons_succ]at *;rw[show(i+1)*m=m+i*m by rw[a5o];omega,<-aIo,List.drop_left' (h x)];exact this
theorem flt_ones{α:Type}{enc:α->List Value}(h:∀x,∀u∈enc x,u.oneCell'=true)(xs:List α):∀u∈flt enc xs,u.oneCell'=true:=by
 intro u hu;obtain⟨x,_,hx⟩:=List.mem_flatMap.1 hu;exact h x u hx
inductive Rw where
 |nil
 |row (b cap:Nat) (sp:List Value)
def Rw.val (n:Nat):Rw->Value
 | .nil=>.slice none 0 0
 | .row b cap _=>.slice (some ⟨b,0,none⟩) n cap
theorem Rw.val_cells(n:Nat)(r:Rw):(r.val n).cells=#[r.val n]:=by cases r<;>rfl
theorem Rw.val_size(n:Nat)(r:Rw):(r.val n).cells.size=1:=by cases r<;>rfl
theorem Rw.val_one(n:Nat)(r:Rw):nO (r.val n).cells.toList=true:=by cases r<;>rfl
abbrev rwO {α:Type} (enc:α->List Value) (t:Nat) (xs:List α) (sp:List Value):Obj:=.cells (flt enc xs++sp).toArray t (0,0)
def Rw.hp {α:Type} (enc:α->List Value) (t:Nat) (xs:List α):Rw->Heap
 | .nil=>[]
 | .row b _ sp=>[(b,rwO enc t xs sp)]
def Rw.Fit {α:Type} (m:Nat) (xs:List α):Rw->Prop
 | .nil=>xs=[]
 | .row _ cap sp=>xs.length<=cap/\sp.length=(cap-xs.length)*m
def Rw.Fr (G:Gh) (L:List World):Rw->Prop
 | .nil=>True
 | .row b _ _=>Px.Fr G L b
def Rw.ge (n:Nat):Rw->Prop
 | .nil=>True
 | .row b _ _=>n<=b
def Rw.isAt (k:Nat):Rw->Prop
 | .nil=>False
 | .row b _ _=>b=k
theorem Rw.Fr_at{r:Rw}(h:r.Fr G L)(hk:r.isAt k):Px.Fr G L k:=by
 cases r with
 |nil=>exact hk.elim
 |row b cap sp=>cases hk;exact h
theorem Rw.ge_at{n:Nat}{r:Rw}(h:r.ge n)(hk:r.isAt k):n<=k:=by
 cases r with
 |nil=>exact hk.elim
 |row b cap sp=>cases hk;exact h
def Rw.At {α:Type} (enc:α->List Value) (t:Nat) (xs:List α) (w:World):Rw->Prop
 | .nil=>True
 | .row b _ sp=>w.heap[b]? =some (rwO enc t xs sp)
theorem Rw.mem_at{α:Type}{enc:α->List Value}{t:Nat}{xs:List α}{r:Rw}(hk:r.isAt k):k∈(r.hp enc t xs).map (·.1):=by
 cases r with
 |nil=>exact hk.elim
 |row b cap sp=>cases hk;simp[Rw.hp]
theorem Rw.off_ge{α:Type}{enc:α->List Value}{t n:Nat}{xs:List α}{r:Rw}(h:r.ge n)(hk:k<n):Off (r.hp enc t xs) k:=by
 cases r with
 |nil=>trivial
 |row b cap sp=>exact⟨by have:n<=b:=h;omega,trivial⟩
theorem Rw.ge_mono{n n':Nat}{r:Rw}(h:r.ge n)(hn:n'<=n):r.ge n':=by
 cases r with
 |nil=>trivial
 |row b cap sp=>exact aco hn h
theorem Rw.over{α:Type}{enc:α->List Value}{t n:Nat}{xs:List α}{r:Rw}(h:r.ge n):Over n (r.hp enc t xs):=by
 cases r with
 |nil=>trivial
 |row b cap sp=>exact⟨h,trivial⟩
variable {H':Heap}
theorem Off.append(h:Off H k)(h':Off H' k):Off (H++H') k:=by
 induction H with
 |nil=>exact h'
 |cons p H ih=>exact⟨h.1,ih h.2⟩
theorem ne:Off (H++H') k↔Off H k/\Off H' k:=by
 induction H with
 |nil=>simp[Off]
 |cons p H ih=>simp only[aEo,Off,ih,and_assoc]
theorem nY:Over k (H++H')↔Over k H/\Over k H':=by
 induction H with
 |nil=>simp[Over]
 |cons p H ih=>simp only[aEo,Over,ih,and_assoc]
theorem Over.append(h:Over k H)(h':Over k H'):Over k (H++H'):=by
 induction H with
 |nil=>exact h'
 |cons p H ih=>exact⟨h.1,ih h.2⟩
theorem Fr.ge{w:World}(h:Px.Fr G L b)(hX:¬G.X b)(hw:w∈L):w.heap.size<=b:=by
 rcases h with h|h
 ·exact absurd h hX
 exact h.mem w hw
theorem Rw.ge_of{w:World}{r:Rw}(h:r.Fr Gh.no L)(hw:w∈L):r.ge w.heap.size:=by
 cases r with
 |nil=>trivial
 |row b cap sp=>exact Fr.ge (G:=Gh.no) h zO hw
theorem Rw.mem_ge{α:Type}{enc:α->List Value}{t n:Nat}{xs:List α}{r:Rw}(h:r.ge n)(hk:k∈(r.hp enc t xs).map (·.1)):n<=k:=by
 cases r with
 |nil=>simp[Rw.hp]at hk
 |row b cap sp=>simp[Rw.hp]at hk;subst hk;exact h
structure RowT (P:Program) (t e m:Nat):Prop where
 und:P.underlying t=some (.slice e)
 info:∃ti z,P.info? e=some ti/\ti.zero=some z/\ti.size=m/\z.cells.size=m/\ti.bytes<=100000
section
variable {C:Cx} {Q:Post} {E:Env} {D:List Deferred} {G:Gh} {L:List World} {H H0 H1:Heap} {ops:Array Oper} {l:List Oper}
variable {d T ty f:Nat} {pos:String} {aft:Array Edge} {g:Option (Nat×Bool)} {x y:Operand} {xo:List Operand} {vs:List Value} {tys:Array Nat}
variable {α:Type} {enc:α->List Value} {m:Nat}
def SrcT (C:Cx) (G:Gh) (L:List World) (H:Heap) (enc:α->List Value) (m tx:Nat) (sv:Value) (zs:List α):Prop:=SrcJ C G L H m tx sv zs.length (flt enc zs)
variable {tx:Nat} {fr:Nat×Nat}
theorem SrcT.at{e' off c t:Nat}{zs:List α}(hm:∀x,(enc x).length=m)(h1:∀x,∀u∈enc x,u.oneCell'=true)(hU:C.P.underlying tx=some (.slice e'))(hb:Lies G L H b (.cells cs t fr))(hn:off+zs.length*m<=cs.size)(he:(cs.toList.drop off).take (zs.length*m)=flt enc zs):SrcT C G L H enc m tx (.slice (some ⟨b,off,none⟩) zs.length c) zs:=
 SrcJ.sl hU (λW hS=>by rw[nji (hb W hS) hn];unfold cut;rw[he]) (n0 hm zs) (flt_ones h1 zs)
theorem SrcT.one{e' c t:Nat}{z:α}(hm:∀x,(enc x).length=m)(h1:∀x,∀u∈enc x,u.oneCell'=true)(hU:C.P.underlying tx=some (.slice e'))(hb:Lies G L H b (.cells (enc z).toArray t fr)):SrcT C G L H enc m tx (.slice (some ⟨b,0,none⟩) 1 c) [z]:=
 SrcT.at (zs:=[z]) hm h1 hU hb (by simp[hm]) (by simp only[aop,aJo,Nat.one_mul,flt_one];rw[<-hm z];exact axp)
variable {sv:Value}
theorem apT{r:Rw}{t e:Nat}{xs zs:List α}(hH:H=H0++(r.hp enc e xs++H1))(hT:RowT C.P t e m)(hm:∀x,(enc x).length=m)(hw:nm ops E g=some true)(hN:Nat.blt d C.N=true)(hx:ev E x=some (r.val xs.length))(hy:ev E y=some sv)(hs:SrcT C G L H enc m tx sv zs)(hr:r.Fit m xs)(hf:r.Fr G L)(h0:0<zs.length)(hlim:xs.length+zs.length<=1000000)(k:∀(b' cap':Nat) (sp':List Value),(r.isAt b'\/Above L b')->(Rw.row b' cap' sp').Fit m (xs++zs)->OJ C ops Q l ((d,.slice (some ⟨b',0,none⟩) (xs++zs).length cap')::E) D G L (H0++((b',rwO enc e (xs++zs) sp')::H1))):OJ C ops Q (⟨some d,.call ⟨.builtin .append,#[x,y],#[t,tx]⟩,ty,pos,aft,g⟩::l) E D G L H:=
 nqb zS hw hN λa W hF hS=>by
  obtain⟨ti,z,hti,hz,hsz,hzc,hby⟩:=hT.info;have hl:(xs++zs).length=xs.length+zs.length:=aHo;have hB:(xs.length+zs.length)*ti.bytes<=140737488355328:=aco (Nat.mul_le_mul hlim hby) zI;cases r with
  |nil=>
   have hx0:xs=[]:=hr;subst hx0;rw[a1o,aVo]at hB;obtain⟨cap',sp',W',hrun,hS',hc',hsp'⟩:=hS.appN (P:=C.P) (ty:=ty) hT.und hti hz hsz hzc (hs.src hS) h0 zG hB;refine⟨.slice (some ⟨W.heap.size,0,none⟩) zs.length cap',W',L,H0++((W.heap.size,rwO enc e ([]++zs) sp')::H1),?_,?_,?_⟩
   ·have hxx:ev E x=some (.slice none 0 0):=hx;simp[execOp,hF.ev hxx,hF.ev hy,resolve,invoke,Deferred.ofValue,builtin,hrun]
   ·rw[hH]at hS';exact hS'.perm (by simpa[Rw.hp,abp]using List.perm_middle.symm)
   exact k _ _ _ (.inr hS.sizes) ⟨by simpa using hc',by simpa using hsp'⟩
  |row b cap sp=>
   obtain⟨hc,hsp⟩:=hr;have hi:H[H0.length]? =some (b,.cells (flt enc xs++sp).toArray e (0,0)):=by rw[hH];simp[Rw.hp]
   obtain⟨b',cap',sp',W',hrun,hS',hb',hc',hsp'⟩:=hS.app (P:=C.P) (ty:=ty) hi hT.und hti hz hsz hzc (hs.src hS) (n0 hm xs) hsp hc hf zG hB;have hFr:(Rw.row b cap sp).isAt b'\/Above L b':=by
    rcases hb' with rfl|hb'
    ·exact .inl rfl
    exact .inr (n1c hS hb')
   refine⟨.slice (some ⟨b',0,none⟩) (xs.length+zs.length) cap',W',L,_,?_,hS',?_⟩
   ·have hxx:ev E x=some (.slice (some ⟨b,0,none⟩) xs.length cap):=hx;simp[execOp,hF.ev hxx,hF.ev hy,resolve,invoke,Deferred.ofValue,builtin,hrun]
   have:=k b' cap' sp' hFr ⟨by rw[hl];exact hc',by rw[hl];exact hsp'⟩;rw[hl]at this;rw[hH];simpa[Rw.hp,rwO,nbe]using this
theorem Rw.sl{r:Rw}{t:Nat}{xs:List α}{w:World}(hm:∀x,(enc x).length=m)(hr:r.Fit m xs)(hA:r.At enc t xs w)(hN:w.heap.size<=N):∃a cap,r.val xs.length= .slice a xs.length cap/\SlAt (λx=>(enc x).toArray) m N w a xs:=by
 cases r with
 |nil=>
  have hx0:xs=[]:=hr;subst hx0;exact⟨none,0,rfl,.inl rfl⟩
 |row b cap sp=>
  have hA':w.heap[b]? =some (rwO enc t xs sp):=hA;refine⟨_,_,rfl,SlAt.block (ado (ago.1 hA').1 hN) hA' λi hi=>⟨?_,?_⟩⟩
  ·have h1:(i+1)*m<=xs.length*m:=a7o _ hi;rw[a5o]at h1;simp only[amp,aHo,n0 hm];omega
  unfold cut;rw[nee hm xs sp i hi]
def nC (w:World) (enc:α->List Value) (m t:Nat) (xs:List α) (v:Value->Value):Ending->World->Prop:=λe w'=>
 ∃r:Rw,e= .returned (v (r.val xs.length))/\Below w.heap.size w w'/\r.ge w.heap.size/\r.Fit m xs/\r.At enc t xs w'
variable {fv:Operand}
theorem ned{t:Nat}{xs:List α}{v:Value->Value}{first cap:List Value}(hx:ev E fv=some (.func (.func f) first.toArray cap.toArray))(hent:Ent C.P f)(hw:nm ops E g=some true)(hN:Nat.blt d C.N=true)(ha:evs E xo=some vs)(hc:∀W,St G L H W->Calls C.P f (first++vs++cap).toArray W (nC W enc m t xs v))(k:∀r:Rw,r.Fr G L->r.Fit m xs->OJ C ops Q l ((d,v (r.val xs.length))::E) D G L (r.hp enc t xs++H)):OJ C ops Q (⟨some d,.call ⟨.value fv,xo.toArray,tys⟩,ty,pos,aft,g⟩::l) E D G L H:=
 nN rfl hw hx ha zS hent λa W hN' hD hF hS=>(hc W hS).mono (by
  rintro ed W' ⟨r,rfl,hb,hge,hfit,hat⟩;refine k r ?_ hfit (a.put (some d) (v (r.val xs.length))) W' zrb zpb (hF.put _ zqb) ?_
  ·cases r with
   |nil=>trivial
   |row b cap sp=>exact Fr.up hS hge
  cases r with
  |nil=>exact hS.step hb
  |row b cap sp=>exact(hS.step hb).adopt hat (nLc hS hge) (λhv=>by have:=hS.vlt _ hv;have:W.heap.size<=b:=hge;omega))
theorem nX{t:Nat}{xs:List α}{v:Value->Value}{first cap:List Value}(hx:ev E fv=some (.func (.func f) first.toArray cap.toArray))(hent:Ent C.P f)(hw:nm ops E g=some true)(hN:Nat.blt d C.N=true)(ha:evs E xo=some vs)(hm:∀x,(enc x).length=m)(hc:∀W,St G L H W->Calls C.P f (first++vs++cap).toArray W (nC W enc m t xs v))(k:∀W a cp w1,St G L H W->Below W.heap.size W w1->SlAt (λx=>(enc x).toArray) m w1.heap.size w1 a xs->(∀b,a=some b->W.heap.size<=b.block)->OJ C ops Q l ((d,v (.slice a xs.length cp))::E) D G (w1::L) H):OJ C ops Q (⟨some d,.call ⟨.value fv,xo.toArray,tys⟩,ty,pos,aft,g⟩::l) E D G L H:=
 nN rfl hw hx ha zS hent λac W hN' hD hF hS=>(hc W hS).mono (by
  rintro ed W' ⟨r,rfl,hb,hge,hfit,hat⟩;obtain⟨a,cp,he,hsl⟩:=r.sl hm hfit hat (abo _);have:=k W a cp W' hS hb hsl (by
   intro b hab;cases r with
   |nil=>simp only[Rw.val,Value.slice.injEq]at he;rw[<-he.1]at hab;cases hab
   |row b' cap sp=>simp only[Rw.val,Value.slice.injEq]at he;rw[<-he.1]at hab;cases hab;exact hge) (ac.put (some d) (v (.slice a xs.length cp))) W' zrb zpb (hF.put _ zqb) (hS.step hb).snap
  rw[he];exact this)
variable {e:Exit} {rs:List ResultVar} {us:List Value}
theorem nU{fn:Func}{t:Nat}{xs:List α}{v:Value->Value}{w:World}{r:Rw}(he:e= .ret\/e= .normal)(hr:fn.results=rs.toArray)(h:RS C Gh.no L H E rs us)(hw:w∈L)(ho:Over w.heap.size H)(hv:nFg us=v (r.val xs.length))(hfit:r.Fit m xs)(hge:r.ge w.heap.size)(hH:H=H0++(r.hp enc t xs++H1)):PJ C (bodyPost C.P fn (nC w enc m t xs v)) e E [] Gh.no L H:=
 retG he hr h λW hS=>⟨r,by rw[hv],hS.base hw ho,hge,hfit,by
  cases r with
  |nil=>trivial
  |row b cap sp=>exact hS.own (b,rwO enc t xs sp) (by rw[hH];simp[Rw.hp])⟩
end
def encZ (x:Int):List Value:=[.int .i64 x]
theorem nB(x:Int):(encZ x).length=1:=rfl
theorem nkd(x:Int):∀u∈encZ x,u.oneCell'=true:=by intro u hu;simp[encZ]at hu;subst hu;rfl
end Px
