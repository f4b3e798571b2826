/- Memory, operations, iterators, slices, maps. No condition beyond those stated. -/
import Derived.Test.YtodpaegknpbomaaGreatDoorXc
import Derived.Maps.RangeRun
import Derived.WideKeyRuns
import Derived.Sort.Grow
import Derived.Deep.Draws
set_option linter.unusedSimpArgs false
set_option linter.unusedVariables false
set_option linter.unusedSectionVars false
set_option linter.unnecessarySimpa false
set_option maxRecDepth 20000
set_option maxHeartbeats 8000000
namespace Px
open Go Go.RowKit
/-! ### maps from numbers to values -/
section
variable {β:Type}
variable {aC:Array Edge} {cs:Array Value} {c:Code} {R:Ending->World->Prop} {e:Exit} {I1 X1:aE->World->Prop} {fn:Func} {G:Gh} {k:Int} {bs js:List Nat} {sp:List Value} {L L':List World} {b et i kt n t:Nat} {g:Option (Nat×Bool)} {a:Option Addr} {P:Program} {pos:String} {zv:Value} {v:Value->Value} {W w:World} {I:World->Prop}
theorem nlk{l:List Nat}(h:l.Nodup){j:Nat}(hi:i<l.length)(hj:j<l.length)(e:l[i]=l[j]):i=j:=by grind [List.Nodup,List.pairwise_iff_getElem]
def fB (k:Int):List (Int×β)->Nat->Option (Nat×β)
 | [],_=>none
 |p::l,i=>if p.1=k then some (i,p.2)else fB k l (i+1)
def bV (l:List (Int×β)) (k:Int):Option β:=(fB k l 0).map (·.2)
def dA (l:List (Int×β)) (k:Int) (v:β):List (Int×β):=match fB k l 0 with|some (i,_)=>l.set i (k,v)|none=>l++[(k,v)]
def ji (l:List (Int×β)) (k:Int):List (Int×β):=match fB k l 0 with|some (i,_)=>l.eraseIdx i|none=>l
theorem nJi(k:Int):∀(l:List (Int×β)) (i j:Nat),fB k l (i+j)=(fB k l i).map λp=>(p.1+j,p.2)
 | [],_,_=>rfl
 |p::l,i,j=>by
  unfold fB;split
  ·rfl
  rw[show i+j+1=i+1+j by omega];exact nJi k l (i+1) j
theorem nPg(k:Int)(l:List (Int×β)):fB k l 1=(fB k l 0).map λp=>(p.1+1,p.2):=by
 have:=nJi k l 0 1;simpa using this
theorem n8e{k:Int}:∀{l:List (Int×β)} {i:Nat} {v:β},fB k l 0=some (i,v)->l[i]? =some (k,v)
 | [],_,_,h=>by simp[fB]at h
 |p::l,i,v,h=>by
  unfold fB at h;split at h
  ·rename_i e;simp at h;obtain⟨rfl,rfl⟩:=h;subst e;simp
  rw[nPg]at h;obtain⟨q,hq,e⟩:=AK.1 h;obtain⟨j,u⟩:=q;simp at e;obtain⟨rfl,rfl⟩:=e;simpa using n8e hq
theorem nIg:∀{l:List (Int×β)} {i:Nat},fB k l i=none↔k∉l.map (·.1):=
 by intro x;induction x<;>(intros;grind [fB])
theorem nJk{l:List (Int×β)}:bV l k=none↔k∉l.map (·.1):=by
 unfold bV;rw[Option.map_eq_none_iff];exact nIg
theorem L1(p:Int×β)(l:List (Int×β))(k:Int):bV (p::l) k=if p.1=k then some p.2 else bV l k:=by
 unfold bV;conv=>lhs;rw[fB]
 split
 ·rfl
 rw[nPg];cases fB k l 0<;>rfl
theorem H6(l l':List (Int×β))(k:Int):bV (l++l') k=(bV l k).or (bV l' k):=by induction l<;>grind [bV,fB,L1]
theorem G8(l:List (Int×β))(k:Int)(v:β)(j:Int):bV (dA l k v) j=if j=k then some v else bV l j:=by
 unfold dA;cases hi:fB k l 0 with
 |none=>
  simp only;rw[H6,L1];have h1:=nIg.1 hi;by_cases e:j=k
  ·subst e;rw[nJk.2 h1];simp
  rw[if_neg e,if_neg (λx=>e x.symm)];cases bV l j<;>simp[bV,fB]
 |some q=>
  obtain⟨i,u⟩:=q;simp only;induction l generalizing i with
  |nil=>simp[fB]at hi
  |cons p l ih=>
   unfold fB at hi;split at hi
   ·rename_i e;simp at hi;obtain⟨rfl,rfl⟩:=hi;simp only[cW];rw[L1,L1,e];exact zSh
   rename_i e;rw[nPg]at hi;obtain⟨q,hq,e3⟩:=AK.1 hi;obtain⟨j',u'⟩:=q;simp at e3;obtain⟨rfl,rfl⟩:=e3;simp only[dB];rw[L1,L1,ih j' hq];by_cases e2:j=k
   ·simp[e2,e]
   simp[e2]
theorem nLp(l:List (Int×β))(k:Int)(v:β):(dA l k v).map (·.1)=if k∈l.map (·.1)then l.map (·.1)else l.map (·.1)++[k]:=by
 unfold dA;cases hi:fB k l 0 with
 |none=>rw[if_neg (nIg.1 hi)];simp
 |some q=>
  obtain⟨i,u⟩:=q;have h1:=n8e hi;exact zOg
theorem nBi{l:List (Int×β)}{v:β}(h:(l.map (·.1)).Nodup):((dA l k v).map (·.1)).Nodup:=by grind [nLp]
theorem nVh(l:List (Int×β))(k:Int):(ji l k).Sublist l:=by grind [ji]
theorem nAo{l:List (Int×β)}(h:(l.map (·.1)).Nodup):((ji l k).map (·.1)).Nodup:=(((nVh l k).map (·.1)).nodup h)
structure Mp where
 bs:List Nat
 c:Nat
def oF (ev:β->Value) (l:List (Int×β)) (bs:List Nat):List MapEntry:=(l.zip bs).map λp=>{key:=.int .i64 p.1.1,val:=ev p.1.2,born:=p.2}
def Mp.obj (ev:β->Value) (l:List (Int×β)) (m:Mp):Obj:=.map (oF ev l m.bs).toArray m.c
structure Mp.Ok (l:List (Int×β)) (m:Mp):Prop where
 len:m.bs.length=l.length
 lt:∀b∈m.bs,b<m.c
 nd:m.bs.Nodup
 keys:(l.map (·.1)).Nodup
theorem T9{ev:β->Value}{l:List (Int×β)}(h:bs.length=l.length)(i:Nat):(oF ev l bs)[i]? =(l[i]?).map λp=>{key:=.int .i64 p.1,val:=ev p.2,born:=bs.getD i 0}:=by grind [oF]
theorem nAi(ev:β->Value)(k:Int):∀(l:List (Int×β)) (bs:List Nat) (i:Nat),bs.length=l.length->Instr.findNow (.int .i64) (.int .i64 k) (oF ev l bs) i=some ((fB k l i).map λp=>(p.1,ev p.2))
 | [],_,_,_=>rfl
 |p::l,[],_,h=>by simp at h
 |p::l,b::bs,i,h=>by
  have ih:=nAi ev k l bs (i+1) Bp;simp only[oF,List.zip_cons_cons,dt,Instr.findNow,Instr.sameNow,if_true]at ih ⊢;unfold fB;by_cases e:p.1=k
  ·rw[if_pos e,show(k==p.1)=true by simp[e]];rfl
  rw[if_neg e,show(k==p.1)=false by simp;exact λx=>e x.symm];exact ih
theorem nTf(hK:P.underlying kt=some (.int .i64))(ev:β->Value)(k:Int){l:List (Int×β)}(h:bs.length=l.length):(Instr.findKey kt (.int .i64 k) (oF ev l bs)).run P W= .ok ((fB k l 0).map λp=>(p.1,ev p.2)) W:=by
 simp[Instr.findKey,run_underlying hK,nAi ev k l bs 0 h]
end
section
variable {C:Cx} {Q:aZ} {E:Env} {D:List Deferred} {G:Gh} {L:List World} {H:ad} {ops:Array Oper} {l:List Oper}
variable {d T ty:Nat} {pos:String} {aC:Array Edge} {g:Option (Nat×Bool)} {x y z:Operand}
variable {β:Type} {ev:β->Value} {kv:List (Int×β)} {m:Mp}
theorem Mp.nil:(Mp.mk [] 0).Ok ([]:List (Int×β)):=⟨rfl,by simp,by simp,by simp⟩
theorem Mp.nil_obj:(Mp.mk [] 0).obj ev []= .map #[] 0:=rfl
variable {k:Int} {b et kt:Nat} {P:Program} {zv:Value} {W:World}
theorem nCi(c:Bool)(hU:P.underlying T=some (.map kt et))(hK:P.underlying kt=some (.int .i64))(hz:Af P et zv)(hm:m.Ok kv)(hb:W.heap[b]? =some (m.obj ev kv)):(Instr.lookup T (.map (some b)) (.int .i64 k) c).run P W= .ok (if c then .tuple #[((bV kv k).map ev).getD zv,.bool (bV kv k).isSome]else((bV kv k).map ev).getD zv) W:=by
 have ew:W.heap[b]? =some (.map (oF ev kv m.bs).toArray m.c):=hb;have h1:=nTf (P:=P) (W:=W) hK ev k hm.len;have e:bV kv k=(fB k kv 0).map (·.2):=rfl;cases hi:fB k kv 0 with
 |none=>
  rw[hi]at h1;have e1:bV kv k=none:=by rw[e,hi];rfl
  cases c<;>simp[Instr.lookup,run_underlying hU,H4 ew,VK hK,h1,hz W,e1]
 |some q=>
  rw[hi]at h1;have e1:bV kv k=some q.2:=by rw[e,hi];rfl
  cases c<;>simp[Instr.lookup,run_underlying hU,H4 ew,VK hK,h1,e1]
theorem qv(hU:C.P.underlying T=some (.map kt et))(hK:C.P.underlying kt=some (.int .i64))(hz:Af C.P et zv)(hm:m.Ok kv)(hb:bB G L H b (m.obj ev kv))(hx:Px.ev E x=some (.map (some b)))(hy:Px.ev E y=some (.int .i64 k)):RV C G L H E (.lookup T x y true) (.tuple #[((bV kv k).map ev).getD zv,.bool (bV kv k).isSome]):=λd ty pos aC g a W hF hS=>by
 have:=nCi (W:=W) (k:=k) true hU hK hz hm (hb W hS);simp[execOp,hF.ev hx,hF.ev hy,this]
theorem mr(hU:C.P.underlying T=some (.map kt et))(hK:C.P.underlying kt=some (.int .i64))(hz:Af C.P et zv)(hm:m.Ok kv)(hb:bB G L H b (m.obj ev kv))(hx:Px.ev E x=some (.map (some b)))(hy:Px.ev E y=some (.int .i64 k)):RV C G L H E (.lookup T x y false) (((bV kv k).map ev).getD zv):=λd ty pos aC g a W hF hS=>by
 have:=nCi (W:=W) (k:=k) false hU hK hz hm (hb W hS);simp[execOp,hF.ev hx,hF.ev hy,this]
variable {i:Nat}
theorem NF{v:β}(hi:H[i]? =some (b,m.obj ev kv))(hm:m.Ok kv)(hU:C.P.underlying T=some (.map kt et))(hK:C.P.underlying kt=some (.int .i64))(hw:nl ops E g=some true)(hx:Px.ev E x=some (.map (some b)))(hy:Px.ev E y=some (.int .i64 k))(hz:Px.ev E z=some (ev v))(kk:∀m':Mp,m'.Ok (dA kv k v)->OJ C ops Q l E D G L (H.set i (b,m'.obj ev (dA kv k v)))):OJ C ops Q (⟨none,.mapUpdate T x y z,ty,pos,aC,g⟩::l) E D G L H:=by
 have h1:=λW:World=>nTf (P:=C.P) (W:=W) hK ev k hm.len;cases hk:fB k kv 0 with
 |none=>
  have e:dA kv k v=kv++[(k,v)]:=by unfold dA;rw[hk]
  have iu:(Mp.mk (m.bs++[m.c]) (m.c+1)).Ok (dA kv k v):=by
   refine⟨by rw[e];simp[hm.len],λb hb=>?_,?_,nBi hm.keys⟩
   ·exact zFh
   exact zqh
  refine ML rfl zJ hw (λa W hF hS=>?_) (kk _ iu);have hb:=hS.own _ (cP hi);have hlt:b<W.heap.size:=(aT.1 hb).1;have ew:W.heap[b]? =some (.map (oF ev kv m.bs).toArray m.c):=hb;refine⟨.skip,_,.inl rfl,?_,hS.put hi (I8 W b _) (World.putObj_heap_same hlt)⟩;have h2:=h1 W;rw[hk]at h2;have e2:((oF ev kv m.bs).toArray.push {key:=.int .i64 k,val:=ev v,born:=m.c})=(oF ev (dA kv k v) (m.bs++[m.c])).toArray:=by
   rw[e];apply Array.ext';simp only[oF,Array.toList_push];rw[List.zip_append hm.len.symm];simp
  simp[execOp,hF.ev hx,hF.ev hy,hF.ev hz,Instr.mapUpdate,run_underlying hU,H4 ew,VK hK,h2,VL _ ew,e2,Mp.obj]
 |some q=>
  obtain⟨j,u⟩:=q;have e:dA kv k v=kv.set j (k,v):=by unfold dA;rw[hk]
  have iu:m.Ok (dA kv k v):=⟨by rw[e];simp[hm.len],hm.lt,hm.nd,nBi hm.keys⟩;refine ML rfl zJ hw (λa W hF hS=>?_) (kk _ iu);have hb:=hS.own _ (cP hi);have hlt:b<W.heap.size:=(aT.1 hb).1;have ew:W.heap[b]? =some (.map (oF ev kv m.bs).toArray m.c):=hb;refine⟨.skip,_,.inl rfl,?_,hS.put hi (I8 W b _) (World.putObj_heap_same hlt)⟩;have h2:=h1 W;rw[hk]at h2;have h3:=n8e hk;have h4:=T9 (ev:=ev) hm.len j;rw[h3]at h4;have MQ:((((oF ev kv m.bs).toArray[j]?).map (·.key)).getD (.int .i64 k))= .int .i64 k:=by simp[h4]
  have hs:Instr.sameBits 10000 (.int .i64 k) (.int .i64 k)=true:=by
   show Instr.sameBits (9999+1) _ _=true;generalize 9999=n;simp[Instr.sameBits]
  have e2:((oF ev kv m.bs).toArray.modify j λen=>{en with key:=.int .i64 k,val:=ev v})=(oF ev (dA kv k v) m.bs).toArray:=by
   rw[e];apply Array.ext';apply Cy;intro i';simp only[Array.toList_modify,List.getElem?_modify];rw[T9 hm.len,T9 (by simp[hm.len]),a5q];exact zTh
  simp only[execOp,hF.ev hx,hF.ev hy,hF.ev hz,Instr.mapUpdate,Sem.run_bind,run_underlying hU,Result.andThen,H4 ew,VK hK,h2,JP,MQ,Instr.keyThatStays,hs,if_true,Sem.run_pure,VL _ ew,e2];rfl
theorem Xr{kt':Nat}{d:Option Nat}(hd:d=none)(hi:H[i]? =some (b,m.obj ev kv))(hm:m.Ok kv)(hU:C.P.underlying T=some (.map kt et))(hK:C.P.underlying kt=some (.int .i64))(hw:nl ops E g=some true)(hx:Px.ev E x=some (.map (some b)))(hy:Px.ev E y=some (.int .i64 k))(kk:∀m':Mp,m'.Ok (ji kv k)->OJ C ops Q l E D G L (H.set i (b,m'.obj ev (ji kv k)))):OJ C ops Q (⟨d,.call ⟨.builtin .delete,#[x,y],#[T,kt']⟩,ty,pos,aC,g⟩::l) E D G L H:=by
 subst hd;have h1:=λW:World=>nTf (P:=C.P) (W:=W) hK ev k hm.len;cases hk:fB k kv 0 with
 |none=>
  have e:ji kv k=kv:=by unfold ji;rw[hk]
  have iu:m.Ok (ji kv k):=by rw[e];exact hm
  refine ML rfl zJ hw (λa W hF hS=>?_) (kk _ iu);have hb:=hS.own _ (cP hi);have hlt:b<W.heap.size:=(aT.1 hb).1;have ew:W.heap[b]? =some (.map (oF ev kv m.bs).toArray m.c):=hb;refine⟨.value (.tuple #[]),_,.inr ⟨_,rfl⟩,?_,hS.put hi (I8 W b _) (World.putObj_heap_same hlt)⟩;have h2:=h1 W;rw[hk]at h2;simp[execOp,hF.ev hx,hF.ev hy,resolve,invoke,Deferred.ofValue,builtin,Builtin.delete_,run_underlying hU,H4 ew,VK hK,h2,VL _ ew,e,Mp.obj]
 |some q=>
  obtain⟨j,u⟩:=q;have e:ji kv k=kv.eraseIdx j:=by unfold ji;rw[hk]
  have hj:=(gX.1 (n8e hk)).1;have iu:(Mp.mk (m.bs.eraseIdx j) m.c).Ok (ji kv k):=by
   refine⟨by rw[e,List.length_eraseIdx_of_lt hj,List.length_eraseIdx_of_lt (by rw[hm.len];exact hj),hm.len],λb hb=>hm.lt b (List.mem_of_mem_eraseIdx hb),(List.eraseIdx_sublist _ _).nodup hm.nd,nAo hm.keys⟩
  refine ML rfl zJ hw (λa W hF hS=>?_) (kk _ iu);have hb:=hS.own _ (cP hi);have hlt:b<W.heap.size:=(aT.1 hb).1;have ew:W.heap[b]? =some (.map (oF ev kv m.bs).toArray m.c):=hb;refine⟨.value (.tuple #[]),_,.inr ⟨_,rfl⟩,?_,hS.put hi (I8 W b _) (World.putObj_heap_same hlt)⟩;have h2:=h1 W;rw[hk]at h2;have hz:∀(l:List (Int×β)) (bs:List Nat) (j:Nat),(l.zip bs).eraseIdx j=(l.eraseIdx j).zip (bs.eraseIdx j):=by
   intro l;induction l with
   |nil=>intro bs j;simp
   |cons p l ih=>
    intro bs j;cases bs with
    |nil=>simp
    |cons b bs=>cases j with
     |zero=>simp
     |succ j=>simp[ih]
  have e2:(oF ev kv m.bs).eraseIdx j=oF ev (ji kv k) (m.bs.eraseIdx j):=by
   rw[e];simp only[oF];rw[<-hz,ChangeMaps.map_eraseIdx]
  simp[execOp,hF.ev hx,hF.ev hy,resolve,invoke,Deferred.ofValue,builtin,Builtin.delete_,run_underlying hU,H4 ew,VK hK,h2,VL _ ew,e2,Mp.obj]
def Mp.it (b:Nat) (m:Mp) (js:List Nat):Obj:=.mapIter (some b) m.c (js.map λj=>m.bs.getD j 0).toArray m.c
theorem agd(hU:C.P.underlying T=some (.map kt et))(hb:bB G L H b (m.obj ev kv))(hw:nl ops E g=some true)(hN:Nat.blt d C.N=true)(hx:Px.ev E x=some (.map (some b)))(k:∀rb:Nat,ae L rb->aY H rb->OJ C ops Q l ((d,ptr rb 0)::E) D G L ((rb,m.it b [])::H)):OJ C ops Q (⟨some d,.range T x,ty,pos,aC,g⟩::l) E D G L H:=
 qB zJ hw hN λa W hF hS=>by
  have ew:W.heap[b]? =some (.map (oF ev kv m.bs).toArray m.c):=hb W hS;refine⟨_,_,_,_,?_,hS.alloc (m.it b []),k W.heap.size hS.sizes hS.offNew⟩;have:=run_range_map (P:=C.P) W T kt et b _ _ hU ew;simp[execOp,hF.ev hx,this,Mp.it]
theorem Xv(hU:C.P.underlying T=some (.map kt et))(hw:nl ops E g=some true)(hN:Nat.blt d C.N=true)(hx:Px.ev E x=some (.map none))(k:∀rb:Nat,ae L rb->aY H rb->OJ C ops Q l ((d,ptr rb 0)::E) D G L ((rb,.mapIter none 0 #[] 0)::H)):OJ C ops Q (⟨some d,.range T x,ty,pos,aC,g⟩::l) E D G L H:=
 qB zJ hw hN λa W hF hS=>by
  refine⟨_,_,_,_,?_,hS.alloc (.mapIter none 0 #[] 0),k W.heap.size hS.sizes hS.offNew⟩;have:=run_range_nilMap (P:=C.P) W T kt et hU;simp[execOp,hF.ev hx,this]
theorem Qa{rb:Nat}(hi:H[i]? =some (rb,.mapIter none 0 #[] 0))(hw:nl ops E g=some true)(hN:Nat.blt d C.N=true)(hx:Px.ev E x=some (ptr rb 0))(k:OJ C ops Q l ((d,.tuple #[.bool false])::E) D G L H):OJ C ops Q (⟨some d,.next x false,ty,pos,aC,g⟩::l) E D G L H:=
 qB zJ hw hN λa W hF hS=>by
  have hr:=hS.own _ (cP hi);refine⟨_,W,L,H,?_,hS,k⟩;simp[execOp,hF.ev hx,Instr.next,getObj,Sem.run,hr]
variable {js:List Nat}
theorem Xu{rb:Nat}(hi:H[i]? =some (rb,m.it b js))(hm:m.Ok kv)(hb:bB G L H b (m.obj ev kv))(pC:∀j∈js,j<kv.length)(hw:nl ops E g=some true)(hN:Nat.blt d C.N=true)(hx:Px.ev E x=some (ptr rb 0))(k1:(∀j,j<kv.length->j∈js)->OJ C ops Q l ((d,.tuple #[.bool false])::E) D G L H)(k2:∀(j:Nat) (p:Int×β),kv[j]? =some p->j∉js->OJ C ops Q l ((d,.tuple #[.bool true,.int .i64 p.1,ev p.2])::E) D G L (H.set i (rb,m.it b (js++[j])))):OJ C ops Q (⟨some d,.next x false,ty,pos,aC,g⟩::l) E D G L H:=
 qB zJ hw hN λa W hF hS=>by
  have hr:W.heap[rb]? =some (.mapIter (some b) m.c (js.map λj=>m.bs.getD j 0).toArray m.c):=hS.own _ (cP hi);have ew:W.heap[b]? =some (.map (oF ev kv m.bs).toArray m.c):=hb W hS;have hlt:rb<W.heap.size:=(aT.1 hr).1;have H7:∀e∈(oF ev kv m.bs).toArray.toList,e.born<m.c:=by
   intro e he;obtain⟨j,hj⟩:=kA.1 he;simp only at hj;rw[T9 hm.len]at hj;exact z4g
  have VM:∀j,j<kv.length->((js.map λj=>m.bs.getD j 0).toArray.contains (m.bs.getD j 0)=true↔j∈js):=by
   exact zjg
  have hex:∀{v W'},(Instr.next (.pointer (some ⟨rb,0,none⟩)) false ty).run C.P W= .ok v W'->(execOp a.eval ⟨some d,.next x false,ty,pos,aC,g⟩).run C.P W= .ok (.value v) W':=by
   intro v W' hh;simp[execOp,hF.ev hx,hh]
  rcases run_next_at (P:=C.P) W ty rb b m.c m.c _ _ m.c hr ew H7 (ak _)with⟨h0,fK⟩|⟨e,he,W1,O2,fK⟩
  ·refine⟨_,W,L,H,hex fK,hS,k1 λj hj=>?_⟩;apply(VM j hj).1;apply Decidable.byContradiction;intro hn;have fj:=T9 (ev:=ev) hm.len j;rw[kx hj]at fj;have jU:=cP fj;have:(leftOf (oF ev kv m.bs).toArray (js.map λj=>m.bs.getD j 0).toArray)=#[]:=Array.eq_empty_of_size_eq_zero h0;exact zWg
  unfold leftOf at he;rw[Array.toList_filter,wD]at he;obtain⟨cF,bW⟩:=he;obtain⟨j,hj⟩:=kA.1 cF;simp only at hj;rw[T9 hm.len]at hj;obtain⟨p,hp,rfl⟩:=AK.1 hj;have Cw:=(gX.1 hp).1;have hn:j∉js:=λh=>by
   exact z8g
  have lG:St G L H W1:=by
   rcases O2 with rfl|rfl
   ·exact hS
   exact hS.step (D9 W _)
  have HQ:rb<W1.heap.size:=(aT.1 (lG.own _ (cP hi))).1;have Co:=lG.put hi (I8 W1 rb (m.it b (js++[j]))) (World.putObj_heap_same HQ);refine⟨_,_,L,_,hex fK,?_,k2 j p hp hn⟩;have e1:ChangeMaps.setBlock W1 rb (.mapIter (some b) m.c ((js.map λj=>m.bs.getD j 0).toArray.push (m.bs.getD j 0)) m.c)=W1.putObj rb (m.it b (js++[j])):=by
   simp[ChangeMaps.setBlock,World.putObj,Mp.it]
  rw[e1];exact Co
theorem P9{rb j:Nat}{p:Int×β}(hi:H[i]? =some (rb,m.it b (js++[j])))(hm:m.Ok kv)(hb:bB G L H b (m.obj ev kv))(hp:kv[j]? =some p)(hx:Px.ev E x=some (ptr rb 0)):RV C G L H E (.entry x) (.tuple #[.int .i64 p.1,ev p.2]):=λd ty pos aC g a W hF hS=>by
 have hr:W.heap[rb]? =some (.mapIter (some b) m.c (((js++[j]).map λj=>m.bs.getD j 0).toArray) m.c):=hS.own _ (cP hi);have ew:W.heap[b]? =some (.map (oF ev kv m.bs).toArray m.c):=hb W hS;have fj:=T9 (ev:=ev) hm.len j;rw[hp]at fj;have hnd:((oF ev kv m.bs).toArray.toList.map (·.born)).Nodup:=by
  have:(oF ev kv m.bs).toArray.toList.map (·.born)=m.bs:=by
   simp only[oF,List.map_map];rw[show((λx:MapEntry=>x.born)∘λp:(Int×β)×Nat=>({key:=.int .i64 p.1.1,val:=ev p.1.2,born:=p.2}:MapEntry))=Prod.snd from rfl];rw[List.map_snd_zip];exact Nat.le_of_eq hm.len
  rw[this];exact hm.nd
 exact zbh
theorem J4(ev:β->Value)(hw:nl ops E g=some true)(hN:Nat.blt d C.N=true)(k:∀(b:Nat),ae L b->aY H b->OJ C ops Q l ((d,.map (some b))::E) D G L ((b,(Mp.mk [] 0).obj ev [])::H)):OJ C ops Q (⟨some d,.makeMap T none,ty,pos,aC,g⟩::l) E D G L H:=
 qB zJ hw hN λa W _ hS=>⟨.map (some W.heap.size),W.alloc ((Mp.mk [] 0).obj ev []),_,_,by simp[execOp,Instr.makeMap,Mp.nil_obj],hS.alloc _,k W.heap.size hS.sizes hS.offNew⟩
end
section
variable {C:Cx} {Q:aZ} {E:Env} {D:List Deferred} {G:Gh} {L:List World} {H H0 H1:ad} {ops:Array Oper} {l:List Oper}
variable {d ty f:Nat} {pos:String} {aC:Array Edge} {g:Option (Nat×Bool)} {xo:List Operand} {vs:List Value} {eo:Array Nat}
variable {β:Type} {ev:β->Value} {kv:List (Int×β)}
def Eg (w:World) (ev:β->Value) (kv:List (Int×β)) (v:Value->Value):Ending->World->Prop:=λe w'=>
 ∃(b:Nat) (m:Mp),e= .returned (v (.map (some b)))/\Below w.heap.size w w'/\w.heap.size<=b/\m.Ok kv/\w'.heap[b]? =some (m.obj ev kv)
variable {v:Value->Value}
theorem nzi(az:eg C.P f)(hw:nl ops E g=some true)(hN:Nat.blt d C.N=true)(ha:iV E xo=some vs)(hc:∀W,St G L H W->Calls C.P f vs.toArray W (Eg W ev kv v))(k:∀(b:Nat) (m:Mp),ae L b->aY H b->m.Ok kv->OJ C ops Q l ((d,v (.map (some b)))::E) D G L ((b,m.obj ev kv)::H)):OJ C ops Q (⟨some d,.call ⟨.value (.func f),xo.toArray,eo⟩,ty,pos,aC,g⟩::l) E D G L H:=
 nI rfl hw rfl ha zJ az λa W iW hD hF hS=>(hc W hS).mono (by
  rintro ed W' ⟨b,m,rfl,hb,jw,hm,fj⟩;exact k b m (CZ hS jw) (C5 hS jw) hm (a.put (some d) (v (.map (some b)))) W' z7 z5 (hF.put _ z6) ((hS.step hb).adopt fj (C5 hS jw) (λhv=>by have:=hS.vlt _ hv;omega)))
variable {e:Exit} {fn:Func} {b i:Nat} {w:World}
theorem Xp{rs:List ResultVar}{us:List Value}{m:Mp}(he:e= .ret\/e= .normal)(hr:fn.results=rs.toArray)(h:RS C Gh.no L H E rs us)(hw:w∈L)(ho:Over w.heap.size H)(hv:Mf us=v (.map (some b)))(hm:m.Ok kv)(hi:H[i]? =some (b,m.obj ev kv)):PJ C (bodyPost C.P fn (Eg w ev kv v)) e E [] Gh.no L H:=
 bM he hr h λW hS=>⟨b,m,by rw[hv],hS.base hw ho,ho.mem _ (cP hi),hm,hS.own _ (cP hi)⟩
variable {t:Nat}
theorem UC{α:Type}{enc:α->List Value}{m:Nat}{Fin:List α->Prop}(az:eg C.P f)(hw:nl ops E g=some true)(hN:Nat.blt d C.N=true)(ha:iV E xo=some vs)(hc:∀W,St G L H W->Calls C.P f vs.toArray W (λe w'=>∃xs,Fin xs/\aD W enc m t xs v e w'))(k:∀(xs:List α) (r:Rw),Fin xs->r.Fr G L->r.Fit m xs->OJ C ops Q l ((d,v (r.val xs.length))::E) D G L (r.hp enc t xs++H)):OJ C ops Q (⟨some d,.call ⟨.value (.func f),xo.toArray,eo⟩,ty,pos,aC,g⟩::l) E D G L H:=
 nI rfl hw rfl ha zJ az λa W iW hD hF hS=>(hc W hS).mono (by
  rintro ed W' ⟨xs,dK,r,rfl,hb,jw,bN,fj⟩;refine k xs r dK ?_ bN (a.put (some d) (v (r.val xs.length))) W' z7 z5 (hF.put _ z6) ?_
  ·cases r with
   |nil=>trivial
   |row b cap sp=>exact Fr.up hS jw
  cases r with
  |nil=>exact hS.step hb
  |row b cap sp=>exact(hS.step hb).adopt fj (C5 hS jw) (λhv=>by have:=hS.vlt _ hv;have:W.heap.size<=b:=jw;omega))
theorem n7i{γ:Type}{o:Obj}{v:γ->Value}{ob:γ->Obj}{Φ:γ->Prop}{x:Operand}{first cap:List Value}(hi:H[i]? =some (b,o))(hx:Px.ev E x=some (.func (.func f) first.toArray cap.toArray))(az:eg C.P f)(hw:nl ops E g=some true)(hN:Nat.blt d C.N=true)(ha:iV E xo=some vs)(hc:∀W,St G L H W->W.heap[b]? =some o->Calls C.P f (first++vs++cap).toArray W (λe w'=>∃y,e= .returned (v y)/\aH (· =b) W w'/\Φ y/\w'.heap[b]? =some (ob y)))(k:∀y,Φ y->OJ C ops Q l ((d,v y)::E) D G L (H.set i (b,ob y))):OJ C ops Q (⟨some d,.call ⟨.value x,xo.toArray,eo⟩,ty,pos,aC,g⟩::l) E D G L H:=
 nI rfl hw hx ha zJ az λa W iW hD hF hS=>(hc W hS (hS.own _ (cP hi))).mono (by
  rintro ed W' ⟨y,rfl,hk,hP,fj⟩;exact k y hP (a.put (some d) (v y)) W' z7 z5 (hF.put _ z6) (hS.put hi hk fj))
variable {n:Nat} {a:Option Addr}
theorem ai.blk{α:Type}{enc:α->Array Value}{N N':Nat}{w':World}{xs:List α}(h:ai enc n N w a xs)(hw:∀b off,a=some ⟨b,off,none⟩->b<N->b<N'/\w'.heap[b]? =w.heap[b]?):ai enc n N' w' a xs:=by
 rcases h with h|⟨b,off,cs,t,fr,h1,h2,h3,h4⟩
 ·exact .inl h
 obtain⟨g1,g2⟩:=hw b off h1 h2;exact .inr ⟨b,off,cs,t,fr,h1,g1,g2.trans h3,h4⟩
def NI {α:Type} (w:World) (ev:β->Value) (kv:List (Int×β)) (enc:α->List Value) (n:Nat) (ds:List α) (v:Value->Value->Value):Ending->World->Prop:=λe w'=>
 ∃(b:Nat) (m:Mp) (a:Option Addr) (cp:Nat),e= .returned (v (.map (some b)) (.slice a ds.length cp))/\Below w.heap.size w w'/\w.heap.size<=b/\m.Ok kv/\w'.heap[b]? =some (m.obj ev kv)/\ai (λx=>(enc x).toArray) n w'.heap.size w' a ds/\∀q,a=some q->w.heap.size<=q.block/\q.block≠b
theorem nhi{α:Type}{enc:α->List Value}{ds:List α}{v:Value->Value->Value}(az:eg C.P f)(hw:nl ops E g=some true)(hN:Nat.blt d C.N=true)(ha:iV E xo=some vs)(hc:∀W,St G L H W->Calls C.P f vs.toArray W (NI W ev kv enc n ds v))(k:∀(b:Nat) (m:Mp) (a:Option Addr) (cp:Nat) (W w1:World),St G L H W->Below W.heap.size W w1->W.heap.size<=b->b<w1.heap.size->ae L b->aY H b->m.Ok kv->ai (λx=>(enc x).toArray) n w1.heap.size w1 a ds->(∀q,a=some q->W.heap.size<=q.block/\q.block≠b)->OJ C ops Q l ((d,v (.map (some b)) (.slice a ds.length cp))::E) D G (w1::L) ((b,m.obj ev kv)::H)):OJ C ops Q (⟨some d,.call ⟨.value (.func f),xo.toArray,eo⟩,ty,pos,aC,g⟩::l) E D G L H:=
 nI rfl hw rfl ha zJ az λac W iW hD hF hS=>(hc W hS).mono (by
  rintro ed W' ⟨b,m,a,cp,rfl,hb,jw,hm,fj,aJ,hne⟩;refine k b m a cp W W' hS hb jw (aT.1 fj).1 (CZ hS jw) (C5 hS jw) hm aJ hne (ac.put (some d) (v (.map (some b)) (.slice a ds.length cp))) W' z7 z5 (hF.put _ z6) ?_;exact((hS.step hb).snap.adopt fj (C5 hS jw) (λhv=>by have:=hS.vlt _ hv;omega)))
theorem OJ.perm{H':ad}(hp:H.Perm H')(k:OJ C ops Q l E D G L H'):OJ C ops Q l E D G L H:=λa W hN hD hF hS=>k a W hN hD hF (hS.perm hp)
theorem PJ.perm{H':ad}(hp:H.Perm H')(k:PJ C Q e E D G L H'):PJ C Q e E D G L H:=λa W hN hD hF hS=>k a W hN hD hF (hS.perm hp)
theorem UE{α:Type}{enc:α->List Value}{m:Nat}{xs:List α}{fv:Operand}{first cap:List Value}(hx:Px.ev E fv=some (.func (.func f) first.toArray cap.toArray))(az:eg C.P f)(hw:nl ops E g=some true)(hN:Nat.blt d C.N=true)(ha:iV E xo=some vs)(hc:∀W,St G L H W->Calls C.P f (first++vs++cap).toArray W (aD W enc m t xs v))(k:∀r:Rw,r.Fr G L->r.Fit m xs->OJ C ops Q l ((d,v (r.val xs.length))::E) D G L (H++(r.hp enc t xs++[]))):OJ C ops Q (⟨some d,.call ⟨.value fv,xo.toArray,eo⟩,ty,pos,aC,g⟩::l) E D G L H:=
 Iv hx az hw hN ha hc λr h1 h2=>OJ.perm Yl (k r h1 h2)
end
/-! ### loops whose rounds lay marks; ranges inside of iterators -/
section
variable {C:Cx} {Q:aZ} {E:Env} {D:List Deferred} {G:Gh} {L:List World} {H:ad}
def H8 {α:Type} (C:Cx) (Di:α->List Deferred) (Ei:α->Env) (Hi:α->ad) (Li:α->List World) (Gi:α->Gh) (ok:α->Prop) (μ:α->Nat) (x:α):Act->World->Prop:=λa W=>
 ∃x',ok x'/\μ x'<μ x/\a.tmps.size=C.N/\a.defers=Di x'/\Fits (Ei x') a/\St (Gi x') (Li x') (Hi x') W
variable {c:Code}
theorem CJ.loopD{α:Type}(Di:α->List Deferred)(Ei:α->Env)(Hi:α->ad)(Li:α->List World)(Gi:α->Gh)(ok:α->Prop)(μ:α->Nat)(x0:α)(h0:ok x0)(hE:Sub (Ei x0) E)(hH:Hi x0=H)(hG:Gi x0=G)(hL:∀w∈Li x0,w∈L)(hDi:Di x0=D)(round:∀x,ok x->CJ C c (Exit.then (H8 C Di Ei Hi Li Gi ok μ x) Q) (Ei x) (Di x) (Gi x) (Li x) (Hi x)):CJ C (.loop c) Q E D G L H:=by
 intro a W hN hD hF hS;subst hH;subst hG;subst hDi
 let Inv:Act->World->Nat->Prop:=λa W m=>∃x,μ x=m/\ok x/\a.tmps.size=C.N/\a.defers=Di x/\Fits (Ei x) a/\St (Gi x) (Li x) (Hi x) W
 refine wpIn_loop (λa W=>∃m,Inv a W m) (λa W=>TN (Inv a W)) ⟨_,x0,rfl,h0,hN,hD,hE.fits hF,hS.lessL hL⟩ ?_;exact z7f
theorem nXo{α:Type}{Di:α->List Deferred}{Ei:α->Env}{Hi:α->ad}{Li:α->List World}{Gi:α->Gh}{ok:α->Prop}{μ:α->Nat}{x:α}(x':α)(h0:ok x')(hlt:μ x'<μ x)(hE:Sub (Ei x') E)(hH:Hi x'=H)(hG:Gi x'=G)(hL:∀w∈Li x',w∈L)(hDi:Di x'=D):PJ C (Exit.then (H8 C Di Ei Hi Li Gi ok μ x) Q) .normal E D G L H:=by
 intro a W hN hD hF hS;subst hH;subst hG;subst hDi;exact⟨x',h0,hlt,hN,hD,hE.fits hF,hS.lessL hL⟩
abbrev Mk:=Nat×Loop×Nat
def sH (ms:List Mk):ad:=ms.flatMap λq=>[(q.1,.loop q.2.1),(q.2.2,.deferred (some []))]
def mkD (ms:List Mk):List Deferred:=ms.map λq=>kN q.2.2
theorem nnm(l Dk:Nat)(rec:Loop)(ms:List Mk)(H:ad):(book (H++sH ms) l rec (fq Dk)).Perm (H++sH ((l,rec,Dk)::ms)):=by
 simp only[book,sH,Uu,iP];refine List.Perm.append_left H ?_;exact List.perm_append_comm
variable {ms:List Mk}
theorem M5:∀k∈ms.map (·.2.2),(k,.deferred (some []))∈sH ms:=by
 intro k hk;obtain⟨q,hq,rfl⟩:=bY.1 hk;exact Tc.2 ⟨q,hq,by simp⟩
theorem Ua(ms:List Mk):mkD ms=(ms.map (·.2.2)).map kN:=by simp[mkD]
def BO (n:Nat) (ms:List Mk):Prop:=∀q∈ms,n<=q.1/\n<=q.2.2
variable {n:Nat}
theorem XN(h:BO n ms):∀p∈sH ms,n<=p.1:=by
 intro p hp;obtain⟨q,hq,hp⟩:=Tc.1 hp;have:=h q hq;all_goals grind
theorem nzn{k:Nat}(h:BO n ms)(hk:k<n):aY (sH ms) k:=aY.of_mem λhm=>by
 obtain⟨p,hp,e⟩:=bY.1 hm;have:=XN h p hp;omega
variable {W:World}
theorem nsp{H:ad}(hS:St G L (H++sH ms) W):(ms.map (·.2.2)).Nodup:=by
 have h:=(nX _).1 hS.nodup;rw[gb,List.nodup_append]at h;have h2:=h.2.1;clear h hS;induction ms with
 |nil=>simp
 |cons q ms ih=>
  simp only[sH,Uu,gi,ef,dt,List.nodup_cons]at h2 ⊢;refine⟨λhm=>?_,ih h2.2.2⟩;obtain⟨q',hq',e⟩:=bY.1 hm;refine h2.2.1 (bY.2 ⟨(q'.2.2,.deferred (some [])),Tc.2 ⟨q',hq',by simp⟩,e⟩)
variable {e:Exit} {fn:Func} {I:World->Prop}
theorem XL{W0:World}{MI RO M:aE}{hM:∀k,M k->k<W0.heap.size/\¬MI k/\¬RO k}{V:aE}{hI:eX (λk=>(k<W0.heap.size/\¬MI k)\/V k) I}{α:Type}{Fin:List α->Prop}{I':List α->aE->World->Prop}{X:aE->World->Prop}{H0:ad}(he:e= .ret\/e= .normal)(hr:fn.results=#[])(hw:W0∈L)(hV:∀k,V k->W0.heap.size<=k)(hH:∀k,k<W0.heap.size->k∈(H0++sH ms).map (·.1)->MI k)(h:∀A,I A->(∃xs,Fin xs/\I' xs V A)\/X V A):PJ C (bodyPostM (FW none) 0 C.P fn (λe W'=>(∃v,e= .returned v)/\aH (λk=>M k\/MI k) W0 W'/\∃V,(∃xs,Fin xs/\I' xs V W')\/X V W')) e E (mkD ms) (dh hM V hI) L (H0++sH ms):=by
 intro a W hN hD hF hS;have key:LeavesInM (FW none) 0 C.P fn a.tmps (λe W'=>(∃v,e= .returned v)/\aH (λk=>M k\/MI k) W0 W'/\∃V,(∃xs,Fin xs/\I' xs V W')\/X V W') a.defers .returning W:=
  nLg (Ds:=ms.map (·.2.2)) (by rw[hD,Ua]) hS (λk hk=>bA.2 (.inr (M5 k hk))) (nsp hS) (λW' H' gF _ aQ=>by
   refine⟨_,results_none hr _ _ _,⟨_,rfl⟩,(gF.links W0 hw).mono λk hk hx=>?_,V,h W' gF.ghost⟩;rcases hx with(hx|hx)|hx
   ·exact .inl hx
   ·have:=hV k hx;omega
   rw[aQ]at hx;exact .inr (hH k hk hx))
 exact zHh
end
section
variable {C:Cx} {Q:aZ} {E:Env} {D:List Deferred} {L:List World} {H:ad} {ops:Array Oper} {l:List Oper}
variable {d ty:Nat} {pos:String} {aC:Array Edge} {g:Option (Nat×Bool)} {x:Operand} {xs:List Operand} {vs:List Value} {eo:Array Nat}
variable {W0:World} {MI RO M:aE} {hM:∀k,M k->k<W0.heap.size/\¬MI k/\¬RO k}
variable {I1 X1:aE->World->Prop} {I:World->Prop}
theorem XO{y:Nat}(Z:aE)(T:Gh->Gh)(hT:∀G,(T G).M=G.M/\(T G).V=G.V/\(T G).R=G.R/\(T G).X=λk=>G.X k\/Z k){V:aE}{hI:eX (λk=>(k<W0.heap.size/\¬MI k)\/V k) I}(kO:∀V,eX (λk=>(k<W0.heap.size/\¬MI k)\/V k) (I1 V))(fE:∀V,eX (λk=>(k<W0.heap.size/\¬MI k)\/V k) (X1 V))(hV:∀k,V k->W0.heap.size<=k)(hw:nl ops E g=some true)(hN:Nat.blt d C.N=true)(hx:ev E x=some (yv y))(ha:iV E xs=some vs)(hy:∀W1,(∀k,V k->W0.heap.size<=k/\k<W1.heap.size)->I W1->Oo C.P y vs.toArray W1 (λb W2=>aH (λk=>M k\/V k) W1 W2/\(if b then I1 (qA V W1 W2) W2 else X1 (qA V W1 W2) W2)))(k1:∀V2,(∀k,V k->V2 k)->(∀w∈L,∀k,V2 k->V k\/w.heap.size<=k)->OJ C ops Q l ((d,.bool true)::E) D (T (dh hM V2 (kO V2))) L H)(k2:∀V2,(∀k,V k->V2 k)->(∀w∈L,∀k,V2 k->V k\/w.heap.size<=k)->OJ C ops Q l ((d,.bool false)::E) D (T (dh hM V2 (fE V2))) L H):OJ C ops Q (⟨some d,.call ⟨.value x,xs.toArray,eo⟩,ty,pos,aC,g⟩::l) E D (T (dh hM V hI)) L H:=by
 refine T7 (λG'=>∃V2,(∀k,V k->V2 k)/\(∀w∈L,∀k,V2 k->V k\/w.heap.size<=k)/\G'=T (dh hM V2 (kO V2))) (λG'=>∃V2,(∀k,V k->V2 k)/\(∀w∈L,∀k,V2 k->V k\/w.heap.size<=k)/\G'=T (dh hM V2 (fE V2))) hw hN hx ha (λW1 hS=>?_) (by rintro _ ⟨V2,h2,h3,rfl⟩;exact k1 V2 h2 h3) (by rintro _ ⟨V2,h2,h3,rfl⟩;exact k2 V2 h2 h3);have hxl:∀k,V k->k<W1.heap.size:=λk hk=>hS.xlt k (by rw[(hT _).2.2.2];exact .inl (.inr hk));have hgh:I W1:=by have:=hS.ghost;rw[(hT _).2.2.1]at this;exact this
 obtain⟨fn,tmps,assign,body,fK,kM⟩:=hy W1 (λk hk=>⟨hV k hk,hxl k hk⟩) hgh;exact zZf
theorem Ya(G:Gh):(id G).M=G.M/\(id G).V=G.V/\(id G).R=G.R/\(id G).X=λk=>G.X k\/(λ_=>False) k:=⟨rfl,rfl,rfl,by funext k;simp⟩
theorem XP(Z:aE)(G:Gh):(G.ext Z).M=G.M/\(G.ext Z).V=G.V/\(G.ext Z).R=G.R/\(G.ext Z).X=λk=>G.X k\/Z k:=⟨rfl,rfl,rfl,rfl⟩
end
/-! ### blocks that stay as_ they are, from here to the end -/
def dI (F:ad):Gh where
 M:=λ_=>False
 V:=λk=>k∈F.map (·.1)
 R:=λW=>∀p∈F,W.heap[p.1]? =some p.2
 X:=λ_=>False
 sub:=λ_ h=>h.elim
 subX:=λ_ h=>h
 stab:=λA B h _ _ _ _ _ hv p hp=>(hv p.1 (bY.2 ⟨p,hp,rfl⟩)).trans (h p hp)
section
variable {L:List World} {H:ad} {W:World} {F:ad}
theorem St.fz0(h:St Gh.no L H W):St (dI []) L H W:=
 {ghost:=λp hp=>by simp at hp,vlt:=λk hk=>by simp[dI]at hk,xlt:=λk hk=>hk.elim,links:=h.links,own:=h.own,nodup:=h.nodup,apart:=λp _ hv=>by simp[dI]at hv}
theorem St.unfz(h:St (dI F) L H W):St Gh.no L H W:=
 {ghost:=trivial,vlt:=λk hk=>hk.elim,xlt:=λk hk=>hk.elim,links:=h.links,own:=h.own,nodup:=h.nodup,apart:=λp _ hv=>hv.elim}
theorem St.fzAt(h:St (dI F) L H W):∀p∈F,W.heap[p.1]? =some p.2:=h.ghost
theorem N0(w:World):St (dI []) [w] [] w:=(Jg w).fz0
theorem St.fz{A:ad}(h:St (dI F) L (A++H) W)(ha:∀p∈A,ae L p.1):St (dI (A++F)) L H W:=by
 have hd:=(nX _).1 h.nodup;rw[gb,List.nodup_append]at hd;refine⟨λp hp=>?_,λk hk=>?_,λk hk=>hk.elim,λw hw=>?_,λp hp=>h.own p (bA.2 (.inr hp)),(nX _).2 hd.2.1,λp hp hv=>?_⟩
 ·rcases bA.1 hp with hp|hp
  ·exact h.own p (bA.2 (.inl hp))
  exact h.ghost p hp
 ·obtain⟨p,hp,rfl⟩:=bY.1 hk;rcases bA.1 hp with hp|hp
  ·exact h.lt p (bA.2 (.inl hp))
  exact h.vlt p.1 (bY.2 ⟨p,hp,rfl⟩)
 ·refine(h.links w hw).mono λk hk hx=>?_;rcases hx with hx|hx
  ·exact hx.elim
  rw[gb]at hx;rcases bA.1 hx with hx|hx
  ·obtain⟨p,hp,rfl⟩:=bY.1 hx;have:=(ha p hp).mem w hw;omega
  exact .inr hx
 obtain⟨q,hq,e⟩:=bY.1 hv;rcases bA.1 hq with hq|hq
 ·exact hd.2.2 q.1 (bY.2 ⟨q,hq,rfl⟩) p.1 (bY.2 ⟨p,hp,rfl⟩) e
 exact h.apart p (bA.2 (.inr hp)) (bY.2 ⟨q,hq,e⟩)
end
section
variable {C:Cx} {Q:aZ} {E:Env} {D:List Deferred} {L:List World} {H H' F:ad} {ops:Array Oper} {l:List Oper}
theorem OJ.fz(A:ad)(hp:H.Perm (A++H'))(ha:∀p∈A,ae L p.1)(k:OJ C ops Q l E D (dI (A++F)) L H'):OJ C ops Q l E D (dI F) L H:=λa W hN hD hF hS=>k a W hN hD hF ((hS.perm hp).fz ha)
variable {c:Code}
theorem CJ.fz(A:ad)(hp:H.Perm (A++H'))(ha:∀p∈A,ae L p.1)(k:CJ C c Q E D (dI (A++F)) L H'):CJ C c Q E D (dI F) L H:=λa W hN hD hF hS=>k a W hN hD hF ((hS.perm hp).fz ha)
variable {e:Exit}
theorem PJ.fz(A:ad)(hp:H.Perm (A++H'))(ha:∀p∈A,ae L p.1)(k:PJ C Q e E D (dI (A++F)) L H'):PJ C Q e E D (dI F) L H:=λa W hN hD hF hS=>k a W hN hD hF ((hS.perm hp).fz ha)
variable {t:Nat}
theorem Rw.fz_above{α:Type}{enc:α->List Value}{xs:List α}{r:Rw}(h:r.Fr (dI F) L):∀p∈r.hp enc t xs,ae L p.1:=by
 intro p hp;cases r with
 |nil=>simp[Rw.hp]at hp
 |row b cap sp=>
  simp[Rw.hp]at hp;subst hp;exact h.elim (λh=>h.elim) id
variable {w:World}
theorem Rw.ge_fz{r:Rw}(h:r.Fr (dI F) L)(hw:w∈L):r.ge w.heap.size:=by
 cases r with
 |nil=>trivial
 |row b cap sp=>exact(h.elim (λh=>h.elim) id:ae L b).mem w hw
theorem Rw.row_of{α:Type}{m:Nat}{xs:List α}{r:Rw}(h:r.Fit m xs)(hx:0<xs.length):∃b cap sp,r= .row b cap sp:=by
 cases r with
 |nil=>have:xs=[]:=h;subst this;simp at hx
 |row b cap sp=>exact⟨b,cap,sp,rfl⟩
variable {b:Nat}
theorem ae.not(h:ae L b)(hw:w∈L):w.heap.size<=b:=h.mem w hw
end
section
variable {C:Cx} {Q:aZ} {E:Env} {D:List Deferred} {G:Gh} {L:List World} {H H0 H1:ad} {ops:Array Oper} {l:List Oper}
variable {d ty:Nat} {pos:String} {aC:Array Edge} {g:Option (Nat×Bool)} {x y:Operand} {α:Type} {enc:α->List Value} {m:Nat}
variable {a:Option Addr}
theorem Rd.zero{size c:Nat}:Rd C G L H size 0 (.slice a 0 c) []:=λW _=>by
 cases a with
 |none=>rfl
 |some a=>simp[Builtin.firstCells,loadCells,loadCellsFrom]
theorem nUf{cs:Array Value}{off:Nat}:∀(xs:List α),(∀x,(enc x).length=m)->(∀i (h:i<xs.length),off+i*m+m<=cs.size/\cut cs (off+i*m) m=(enc xs[i]).toArray)->(cs.toList.drop off).take (xs.length*m)=gN enc xs
 | [],_,_=>by simp[gN]
 |x::xs,hm,h=>by
  have ih:=nUf (cs:=cs) (off:=off+m) xs hm (λi hi=>by
   have:=h (i+1) (by simpa using hi);rw[show off+(i+1)*m=off+m+i*m by rw[pE];omega]at this;simpa using this)
  obtain⟨h1,h2⟩:=h 0 zJ;simp only[Nat.zero_mul,Nat.add_zero,List.getElem_cons_zero]at h1 h2;have h3:(cs.toList.drop off).take m=enc x:=by
   unfold cut at h2;have:=congrArg Array.toList h2;simpa using this
  have e:(x::xs).length*m=m+xs.length*m:=by rw[dC,pE];omega
  rw[e,List.take_add,List.drop_drop,h3,ih];rfl
variable {w:World}
theorem bO.sl{tx e' N c:Nat}{xs:List α}(hm:∀x,(enc x).length=m)(h1:∀x,∀u∈enc x,u.oneCell'=true)(hU:C.P.underlying tx=some (.slice e'))(hw:w∈L)(h:ai (λx=>(enc x).toArray) m N w a xs)(ho:∀b,b<N->¬G.X b/\aY H b):bO C G L H enc m tx (.slice a xs.length c) xs:=by
 rcases h with h|⟨b,off,cs,t,fr,e1,e2,e3,e4⟩
 ·subst h;exact zhh
 subst e1;have hl:off+xs.length*m<=cs.size\/xs=[]:=by
  exact zDg
 rcases hl with hl|h0
 ·exact bO.at hm h1 hU (bB.old hw e3 (ho b e2).1 (ho b e2).2) hl (nUf xs hm e4)
 subst h0;exact zhh
variable {sp:List Value} {b t:Nat}
theorem CP{cap:Nat}{e tx:Nat}{sv:Value}{xs zs:List α}(hH:H=H0++((b,aO enc e xs sp)::H1))(hT:iR C.P t e m)(hm:∀x,(enc x).length=m)(hw:nl ops E g=some true)(hN:Nat.blt d C.N=true)(hx:ev E x=some (.slice (some ⟨b,0,none⟩) xs.length cap))(hy:ev E y=some sv)(hs:bO C G L H enc m tx sv zs)(hr:(Rw.row b cap sp).Fit m xs)(hf:Fr G L b)(iO:xs.length+zs.length<=2000000)(k:∀(b' aR:Nat) (bU:List Value),(b=b'\/ae L b')->(Rw.row b' aR bU).Fit m (xs++zs)->OJ C ops Q l ((d,.slice (some ⟨b',0,none⟩) (xs++zs).length aR)::E) D G L (H0++((b',aO enc e (xs++zs) bU)::H1))):OJ C ops Q (⟨some d,.call ⟨.builtin .append,#[x,y],#[t,tx]⟩,ty,pos,aC,g⟩::l) E D G L H:=
 qB zJ hw hN λa W hF hS=>by
  obtain⟨ti,z,qm,hz,kP,AA,qx⟩:=hT.info;have hl:(xs++zs).length=xs.length+zs.length:=ck;have hB:(xs.length+zs.length)*ti.bytes<=140737488355328:=dG (Nat.mul_le_mul iO qx) zB;obtain⟨hc,vG⟩:=hr;have hi:H[H0.length]? =some (b,.cells (gN enc xs++sp).toArray e (0,0)):=by rw[hH];simp[aO]
  obtain⟨b',aR,bU,W',fK,gF,ew,Ah,jQ⟩:=hS.app (P:=C.P) (ty:=ty) hi hT.und qm hz kP AA (hs.src hS) (nW hm xs) vG hc hf aa hB;refine⟨.slice (some ⟨b',0,none⟩) (xs.length+zs.length) aR,W',L,_,?_,gF,?_⟩
  ·simp[execOp,hF.ev hx,hF.ev hy,resolve,invoke,Deferred.ofValue,builtin,fK]
  have:=k b' aR bU (ew.imp Eq.symm (λh=>CZ hS h)) ⟨by rw[hl];exact Ah,by rw[hl];exact jQ⟩;rw[hl]at this;rw[hH];simpa[aO,NC]using this
variable {P:Program}
theorem M6{T e:Nat}(hU:P.underlying T=some (.slice e))(q:Addr)(n c d:Nat)(W:World):(Op.equalIn (d+1) T (.slice (some q) n c) (.slice none 0 0)).run P W= .ok false W:=by
 simp[Op.equalIn,run_underlying hU]
variable {n:Nat}
theorem uM{T U e c:Nat}{q:Addr}(hU:C.P.underlying T=some (.slice e))(hx:ev E x=some (.slice (some q) n c))(hy:ev E y=some (.slice none 0 0)):RV C G L H E (.binOp .eql T x y U) (.bool false):=λd ty pos aC g a W hF _=>by
 have h1:(eqGuard .eql T x y (.slice (some q) n c) (.slice none 0 0)).run C.P W= .ok () W:=by simp[eqGuard]
 have h2:(binOp .eql T (.slice (some q) n c) (.slice none 0 0)).run C.P W= .ok (.bool false) W:=by
  have e:binOp .eql T (.slice (some q) n c) (.slice none 0 0)=(do pure (.bool (<-Op.equalIn (9999+1) T (.slice (some q) n c) (.slice none 0 0)))):=rfl;rw[e,Sem.run_bind,M6 hU];rfl
 exact zfh
theorem uL{T U e c:Nat}(hU:C.P.underlying T=some (.slice e))(hx:ev E x=some (.slice none n c))(hy:ev E y=some (.slice none 0 0)):RV C G L H E (.binOp .eql T x y U) (.bool true):=λd ty pos aC g a W hF _=>by
 have h1:(eqGuard .eql T x y (.slice none n c) (.slice none 0 0)).run C.P W= .ok () W:=by simp[eqGuard]
 have h2:(binOp .eql T (.slice none n c) (.slice none 0 0)).run C.P W= .ok (.bool true) W:=by
  have e:binOp .eql T (.slice none n c) (.slice none 0 0)=(do pure (.bool (<-Op.equalIn (9999+1) T (.slice none n c) (.slice none 0 0)))):=rfl;rw[e,Sem.run_bind,nKn hU];rfl
 exact zfh
end
theorem nel(pre old EK new:List Value)(h:old.length=new.length):setCells (pre++(old++EK)).toArray pre.length new=(pre++(new++EK)).toArray:=by grind [nU,nxd]
section
variable {C:Cx} {Q:aZ} {E:Env} {D:List Deferred} {G:Gh} {L:List World} {H H0 H1:ad} {ops:Array Oper} {l:List Oper}
variable {d T ty:Nat} {pos:String} {aC:Array Edge} {g:Option (Nat×Bool)} {x y:Operand} {α:Type} {enc:α->List Value} {m:Nat}
theorem M7{cur:List α}{z:α}{j:Nat}(hm:∀x,(enc x).length=m)(hj:j<cur.length)(sp:List Value):setCells (gN enc cur++sp).toArray (j*m) (enc z)=(gN enc (cur.set j z)++sp).toArray:=by
 have e:cur=cur.take j++(cur[j]::cur.drop (j+1)):=by rw[List.getElem_cons_drop,AH]
 all_goals grind [gN,NC,nW,nel]
variable {sp:List Value} {b i t:Nat}
theorem KH{off j:Nat}{cur:List α}{z:α}{v:Value}(hi:H[i]? =some (b,aO enc t cur sp))(hm:∀x,(enc x).length=m)(h1:∀x,∀u∈enc x,u.oneCell'=true)(hZ:nJ C.P T m)(hw:nl ops E g=some true)(hx:ev E x=some (ptr b off))(hy:ev E y=some v)(ho:off=j*m)(hj:j<cur.length)(hv:v.cells=(enc z).toArray)(h1c:aV (enc z)=true)(k:OJ C ops Q l E D G L (H.set i (b,aO enc t (cur.set j z) sp))):OJ C ops Q (⟨none,.store T x y,ty,pos,aC,g⟩::l) E D G L H:=by
 subst ho;refine jP (off:=j*m) hi hZ hw hx hy (by rw[hv];simp[hm]) ?_ (by rw[hv];exact h1c) ?_
 ·have h2:(j+1)*m<=cur.length*m:=wo _ hj;rw[pE]at h2;simp only[qq,ck,nW hm];omega
 rw[hv];rw[M7 hm hj];exact k
variable {zv:Value}
theorem AI{tx off c':Nat}{ys zs:List α}(hi:H[i]? =some (b,aO enc t (ys++zs) sp))(hm:∀x,(enc x).length=m)(hU:C.P.underlying tx=some (.slice T))(hZ:Af C.P T zv)(tB:zv.cells.size=m)(gA:aV (Builtin.zeroCells zv.cells zs.length).toList=true)(hw:nl ops E g=some true)(hx:ev E x=some (.slice (some ⟨b,off,none⟩) zs.length c'))(ho:zs=[]\/off=ys.length*m)(k:∀bU:List Value,bU.length=zs.length*m+sp.length->OJ C ops Q l E D G L (H.set i (b,aO enc t ys bU))):OJ C ops Q (⟨none,.call ⟨.builtin .clear,#[x],#[tx]⟩,ty,pos,aC,g⟩::l) E D G L H:=by
 by_cases h0:zs=[]
 ·subst h0;have hk:=k sp zJ;rw[dV]at hi;have hH:H.set i (b,aO enc t ys sp)=H:=by
   apply Cy;intro n;by_cases e:i=n
   ·subst e;rw[aXp (gX.1 hi).1,hi]
   rw[TJ e]
  rw[hH]at hk;exact ML rfl zJ hw (λa W hF hS=>⟨.value (.tuple #[]),W,.inr ⟨_,rfl⟩,by simp[execOp,hF.ev hx,resolve,invoke,builtin,Builtin.clear_,run_underlying hU],hS⟩) hk
 have xh:=ho.resolve_left h0;subst xh;have BM:(Builtin.zeroCells zv.cells zs.length).toList.length=zs.length*m:=by simp[Builtin.zeroCells,tB]
 have f1:gN enc (ys++zs)++sp=gN enc ys++(gN enc zs++sp):=by rw[NC,iP]
 have hl:(gN enc ys).length=ys.length*m:=nW hm ys;refine ML (H':=H.set i (b,aO enc t ys ((Builtin.zeroCells zv.cells zs.length).toList++sp))) rfl zJ hw (λa W hF hS=>?_) (k _ (by rw[ck,BM]));have hb:=hS.own _ (cP hi);obtain⟨W',hr,hk,ew⟩:=nJc (P:=C.P) (off:=ys.length*m) (Builtin.zeroCells zv.cells zs.length).toList 0 _ W hb (by
  rw[BM];simp only[qq,ck,nW hm,NC];omega) gA
 rw[Nat.add_zero,f1,<-hl,nel _ _ _ _ (by rw[BM,nW hm])]at ew;refine⟨.value (.tuple #[]),W',.inr ⟨_,rfl⟩,?_,hS.put hi hk ew⟩;obtain⟨q,hq⟩:∃q,zs.length=q+1:=⟨zs.length-1,by have:=Z2.2 h0;omega⟩;rw[hq]at hx hr;simp[execOp,hF.ev hx,resolve,invoke,builtin,Builtin.clear_,run_underlying hU,hZ W,hr]
end
end Px

namespace Px
open Go Go.RowKit
/-! ### maps from keys of any type to values -/
/-- keys that are arrays or structs -/
structure wB {K:Type} [DecidableEq K] (P:Program) (kt:Nat) (ek:K->Value):Prop where
 und:∃kd,P.underlying kt=some kd/\∀k v,Instr.sameNow kd (ek k) v=none
 chk:∀(b:Bool) (k:K) {W:World},(Instr.checkKey b 10000 kt (ek k)).run P W= .ok () W
 eq:∀(k k':K) {W:World},(Op.equal kt (ek k) (ek k')).run P W= .ok (decide (k=k')) W
 bits:∀k,Instr.sameBits 10000 (ek k) (ek k)=true
section
variable {K:Type} [DecidableEq K] {ek:K->Value} {β:Type}
def eI (k:K):List (K×β)->Nat->Option (Nat×β)
 | [],_=>none
 |p::l,i=>if p.1=k then some (i,p.2)else eI k l (i+1)
def gk (l:List (K×β)) (k:K):Option β:=(eI k l 0).map (·.2)
def fu (l:List (K×β)) (k:K) (v:β):List (K×β):=match eI k l 0 with|some (i,_)=>l.set i (k,v)|none=>l++[(k,v)]
theorem nni(k:K):∀(l:List (K×β)) (i j:Nat),eI k l (i+j)=(eI k l i).map λp=>(p.1+j,p.2)
 | [],_,_=>rfl
 |p::l,i,j=>by
  unfold eI;split
  ·rfl
  rw[show i+j+1=i+1+j by omega];exact nni k l (i+1) j
theorem n3g(k:K)(l:List (K×β)):eI k l 1=(eI k l 0).map λp=>(p.1+1,p.2):=by
 have:=nni k l 0 1;simpa using this
theorem U8{k:K}:∀{l:List (K×β)} {i:Nat} {v:β},eI k l 0=some (i,v)->l[i]? =some (k,v)
 | [],_,_,h=>by simp[eI]at h
 |p::l,i,v,h=>by
  unfold eI at h;split at h
  ·rename_i e;simp at h;obtain⟨rfl,rfl⟩:=h;subst e;simp
  rw[n3g]at h;obtain⟨q,hq,e⟩:=AK.1 h;obtain⟨j,u⟩:=q;simp at e;obtain⟨rfl,rfl⟩:=e;simpa using U8 hq
theorem n5e{k:K}:∀{l:List (K×β)} {i:Nat},eI k l i=none↔k∉l.map (·.1):=
 by intro x;induction x<;>(intros;grind [eI])
theorem nFg{l:List (K×β)}{k:K}:gk l k=none↔k∉l.map (·.1):=by
 unfold gk;rw[Option.map_eq_none_iff];exact n5e
theorem VN(p:K×β)(l:List (K×β))(k:K):gk (p::l) k=if p.1=k then some p.2 else gk l k:=by
 unfold gk;conv=>lhs;rw[eI]
 split
 ·rfl
 rw[n3g];cases eI k l 0<;>rfl
theorem H9(l l':List (K×β))(k:K):gk (l++l') k=(gk l k).or (gk l' k):=by induction l<;>grind [gk,eI,VN]
theorem GG(l:List (K×β))(k:K)(v:β)(j:K):gk (fu l k v) j=if j=k then some v else gk l j:=by
 unfold fu;cases hi:eI k l 0 with
 |none=>
  simp only;rw[H9,VN];have h1:=n5e.1 hi;by_cases e:j=k
  ·subst e;rw[nFg.2 h1];simp
  rw[if_neg e,if_neg (λx=>e x.symm)];cases gk l j<;>simp[gk,eI]
 |some q=>
  obtain⟨i,u⟩:=q;simp only;induction l generalizing i with
  |nil=>simp[eI]at hi
  |cons p l ih=>
   unfold eI at hi;split at hi
   ·rename_i e;simp at hi;obtain⟨rfl,rfl⟩:=hi;simp only[cW];rw[VN,VN,e];exact zSh
   rename_i e;rw[n3g]at hi;obtain⟨q,hq,e3⟩:=AK.1 hi;obtain⟨j',u'⟩:=q;simp at e3;obtain⟨rfl,rfl⟩:=e3;simp only[dB];rw[VN,VN,ih j' hq];by_cases e2:j=k
   ·simp[e2,e]
   simp[e2]
theorem ndk(l:List (K×β))(k:K)(v:β):(fu l k v).map (·.1)=if k∈l.map (·.1)then l.map (·.1)else l.map (·.1)++[k]:=by
 unfold fu;cases hi:eI k l 0 with
 |none=>rw[if_neg (n5e.1 hi)];simp
 |some q=>
  obtain⟨i,u⟩:=q;have h1:=U8 hi;exact zOg
theorem nfg{l:List (K×β)}{k:K}{v:β}(h:(l.map (·.1)).Nodup):((fu l k v).map (·.1)).Nodup:=by grind [ndk]
structure Mq where
 bs:List Nat
 c:Nat
def mf (ek:K->Value) (ev:β->Value) (l:List (K×β)) (bs:List Nat):List MapEntry:=(l.zip bs).map λp=>{key:=ek p.1.1,val:=ev p.1.2,born:=p.2}
def Mq.obj (ek:K->Value) (ev:β->Value) (l:List (K×β)) (m:Mq):Obj:=.map (mf ek ev l m.bs).toArray m.c
structure Mq.Ok (l:List (K×β)) (m:Mq):Prop where
 len:m.bs.length=l.length
 lt:∀b∈m.bs,b<m.c
 nd:m.bs.Nodup
 keys:(l.map (·.1)).Nodup
variable {bs:List Nat}
theorem M8{ev:β->Value}{l:List (K×β)}(h:bs.length=l.length):(mf ek ev l bs).length=l.length:=by simp[mf,h]
theorem Ub{ev:β->Value}{l:List (K×β)}(h:bs.length=l.length)(i:Nat):(mf ek ev l bs)[i]? =(l[i]?).map λp=>{key:=ek p.1,val:=ev p.2,born:=bs.getD i 0}:=by grind [mf]
theorem nii{P:Program}{kt:Nat}(hK:wB P kt ek)(ev:β->Value)(k:K)(W:World):∀(l:List (K×β)) (bs:List Nat) (i:Nat),bs.length=l.length->(Instr.findAsking kt (ek k) (mf ek ev l bs) i).run P W= .ok ((eI k l i).map λp=>(p.1,ev p.2)) W
 | [],_,_,_=>by simp[mf,Instr.findAsking,eI]
 |p::l,[],_,h=>by simp at h
 |p::l,b::bs,i,h=>by
  have ih:=nii hK ev k W l bs (i+1) Bp;simp only[mf,List.zip_cons_cons,dt,Instr.findAsking,Sem.run_bind,hK.eq,Result.andThen]at ih ⊢;unfold eI;by_cases e:p.1=k
  ·rw[if_pos e,if_pos (by simp[e])];simp
  rw[if_neg e,if_neg (by simp;exact λx=>e x.symm)];exact ih
variable {kt:Nat} {P:Program} {W:World}
theorem npi(hK:wB P kt ek)(ev:β->Value)(k:K){l:List (K×β)}(h:bs.length=l.length):(Instr.findKey kt (ek k) (mf ek ev l bs)).run P W= .ok ((eI k l 0).map λp=>(p.1,ev p.2)) W:=by
 obtain⟨kd,hU,hn⟩:=hK.und;cases l with
 |nil=>simp[Instr.findKey,run_underlying hU,mf,Instr.findNow,eI]
 |cons p l=>
  cases bs with
  |nil=>simp at h
  |cons b bs=>
   have h1:=nii hK ev k W (p::l) (b::bs) 0 h;have h2:Instr.findNow kd (ek k) (mf ek ev (p::l) (b::bs)) 0=none:=by
    simp only[mf,List.zip_cons_cons,dt,Instr.findNow,hn]
   simp only[Instr.findKey,Sem.run_bind,run_underlying hU,Result.andThen,h2,h1]
end
section
variable {C:Cx} {Q:aZ} {E:Env} {D:List Deferred} {G:Gh} {L:List World} {H:ad} {ops:Array Oper} {l:List Oper}
variable {d T ty:Nat} {pos:String} {aC:Array Edge} {g:Option (Nat×Bool)} {x y z:Operand}
variable {K:Type} [DecidableEq K] {ek:K->Value} {β:Type} {ev:β->Value} {kv:List (K×β)} {m:Mq}
theorem Mq.nil:(Mq.mk [] 0).Ok ([]:List (K×β)):=⟨rfl,by simp,by simp,by simp⟩
theorem Mq.nil_obj:(Mq.mk [] 0).obj ek ev []= .map #[] 0:=rfl
variable {b et kt:Nat} {P:Program} {zv:Value} {W:World}
theorem nen{k:K}(c:Bool)(hU:P.underlying T=some (.map kt et))(hK:wB P kt ek)(hz:Af P et zv)(hm:m.Ok kv)(hb:W.heap[b]? =some (m.obj ek ev kv)):(Instr.lookup T (.map (some b)) (ek k) c).run P W= .ok (if c then .tuple #[((gk kv k).map ev).getD zv,.bool (gk kv k).isSome]else((gk kv k).map ev).getD zv) W:=by
 have ew:W.heap[b]? =some (.map (mf ek ev kv m.bs).toArray m.c):=hb;have h1:=npi (P:=P) (W:=W) hK ev k hm.len;have e:gk kv k=(eI k kv 0).map (·.2):=rfl;cases hi:eI k kv 0 with
 |none=>
  rw[hi]at h1;have e1:gk kv k=none:=by rw[e,hi];rfl
  cases c<;>simp[Instr.lookup,run_underlying hU,H4 ew,hK.chk,h1,hz W,e1]
 |some q=>
  rw[hi]at h1;have e1:gk kv k=some q.2:=by rw[e,hi];rfl
  cases c<;>simp[Instr.lookup,run_underlying hU,H4 ew,hK.chk,h1,e1]
theorem qy{k:K}(hU:C.P.underlying T=some (.map kt et))(hK:wB C.P kt ek)(hz:Af C.P et zv)(hm:m.Ok kv)(hb:bB G L H b (m.obj ek ev kv))(hx:Px.ev E x=some (.map (some b)))(hy:Px.ev E y=some (ek k)):RV C G L H E (.lookup T x y false) (((gk kv k).map ev).getD zv):=λd ty pos aC g a W hF hS=>by
 have:=nen (W:=W) (k:=k) false hU hK hz hm (hb W hS);simp[execOp,hF.ev hx,hF.ev hy,this]
variable {t:Nat}
theorem AU(hU:C.P.underlying t=some (.map kt et))(hm:m.Ok kv)(hb:bB G L H b (m.obj ek ev kv))(hx:Px.ev E x=some (.map (some b))):RV C G L H E (.call ⟨.builtin .len,#[x],#[t]⟩) (.int .i64 (kv.length:Int)):=λd ty pos aC g a W hF hS=>by
 have ew:W.heap[b]? =some (.map (mf ek ev kv m.bs).toArray m.c):=hb W hS;simp[execOp,hF.ev hx,resolve,invoke,Deferred.ofValue,builtin,Builtin.len_,run_underlying hU,goInt,H4 ew,M8 hm.len]
variable {i:Nat}
theorem YU{k:K}{v:β}(hi:H[i]? =some (b,m.obj ek ev kv))(hm:m.Ok kv)(hU:C.P.underlying T=some (.map kt et))(hK:wB C.P kt ek)(hw:nl ops E g=some true)(hx:Px.ev E x=some (.map (some b)))(hy:Px.ev E y=some (ek k))(hz:Px.ev E z=some (ev v))(kk:∀m':Mq,m'.Ok (fu kv k v)->OJ C ops Q l E D G L (H.set i (b,m'.obj ek ev (fu kv k v)))):OJ C ops Q (⟨none,.mapUpdate T x y z,ty,pos,aC,g⟩::l) E D G L H:=by
 have h1:=λW:World=>npi (P:=C.P) (W:=W) hK ev k hm.len;cases hk:eI k kv 0 with
 |none=>
  have e:fu kv k v=kv++[(k,v)]:=by unfold fu;rw[hk]
  have iu:(Mq.mk (m.bs++[m.c]) (m.c+1)).Ok (fu kv k v):=by
   refine⟨by rw[e];simp[hm.len],λb hb=>?_,?_,nfg hm.keys⟩
   ·exact zFh
   exact zqh
  refine ML rfl zJ hw (λa W hF hS=>?_) (kk _ iu);have hb:=hS.own _ (cP hi);have hlt:b<W.heap.size:=(aT.1 hb).1;have ew:W.heap[b]? =some (.map (mf ek ev kv m.bs).toArray m.c):=hb;refine⟨.skip,_,.inl rfl,?_,hS.put hi (I8 W b _) (World.putObj_heap_same hlt)⟩;have h2:=h1 W;rw[hk]at h2;have e2:((mf ek ev kv m.bs).toArray.push {key:=ek k,val:=ev v,born:=m.c})=(mf ek ev (fu kv k v) (m.bs++[m.c])).toArray:=by
   rw[e];apply Array.ext';simp only[mf,Array.toList_push];rw[List.zip_append hm.len.symm];simp
  simp[execOp,hF.ev hx,hF.ev hy,hF.ev hz,Instr.mapUpdate,run_underlying hU,H4 ew,hK.chk,h2,VL _ ew,e2,Mq.obj]
 |some q=>
  obtain⟨j,u⟩:=q;have e:fu kv k v=kv.set j (k,v):=by unfold fu;rw[hk]
  have iu:m.Ok (fu kv k v):=⟨by rw[e];simp[hm.len],hm.lt,hm.nd,nfg hm.keys⟩;refine ML rfl zJ hw (λa W hF hS=>?_) (kk _ iu);have hb:=hS.own _ (cP hi);have hlt:b<W.heap.size:=(aT.1 hb).1;have ew:W.heap[b]? =some (.map (mf ek ev kv m.bs).toArray m.c):=hb;refine⟨.skip,_,.inl rfl,?_,hS.put hi (I8 W b _) (World.putObj_heap_same hlt)⟩;have h2:=h1 W;rw[hk]at h2;have h3:=U8 hk;have h4:=Ub (ek:=ek) (ev:=ev) hm.len j;rw[h3]at h4;have MQ:((((mf ek ev kv m.bs).toArray[j]?).map (·.key)).getD (ek k))=ek k:=by simp[h4]
  have hs:Instr.sameBits 10000 (ek k) (ek k)=true:=hK.bits k;have e2:((mf ek ev kv m.bs).toArray.modify j λen=>{en with key:=ek k,val:=ev v})=(mf ek ev (fu kv k v) m.bs).toArray:=by
   rw[e];apply Array.ext';apply Cy;intro i';simp only[Array.toList_modify,List.getElem?_modify];rw[Ub hm.len,Ub (by simp[hm.len]),a5q];exact zTh
  simp only[execOp,hF.ev hx,hF.ev hy,hF.ev hz,Instr.mapUpdate,Sem.run_bind,run_underlying hU,Result.andThen,H4 ew,hK.chk,h2,JP,MQ,Instr.keyThatStays,hs,if_true,Sem.run_pure,VL _ ew,e2];rfl
theorem KU(ek:K->Value)(ev:β->Value)(hw:nl ops E g=some true)(hN:Nat.blt d C.N=true)(k:∀(b:Nat),ae L b->aY H b->OJ C ops Q l ((d,.map (some b))::E) D G L ((b,(Mq.mk [] 0).obj ek ev [])::H)):OJ C ops Q (⟨some d,.makeMap T none,ty,pos,aC,g⟩::l) E D G L H:=
 qB zJ hw hN λa W _ hS=>⟨.map (some W.heap.size),W.alloc ((Mq.mk [] 0).obj ek ev []),_,_,by simp[execOp,Instr.makeMap,Mq.nil_obj],hS.alloc _,k W.heap.size hS.sizes hS.offNew⟩
end
/-! ### digests, as_ keys of maps -/
abbrev Dk:={l:List Int // l.length=32}
def uP (k:Dk):Value:=.agg (k.1.map (Value.int .u8)).toArray
theorem U6:∀kL bs:List Int,kL.length=bs.length->oi (kL.map (Value.int .u8)) (bs.map (Value.int .u8))=decide (kL=bs)
 | [],[],_=>rfl
 |a::kL,b::bs,h=>by
  simp only[dt,oi,PY,U6 kL bs Bp];by_cases h1:a=b<;>by_cases h2:kL=bs<;>simp[h1,h2]
 | [],_::_,h=>by simp at h
 |_::_,[],h=>by simp at h
theorem nSf:∀(n:Nat) (kL bs:List Int),kL.length=n->bs.length=n->jW (lM n [.i]) (kL.map (Value.int .u8)) (bs.map (Value.int .u8))=true
 |0,[],[],_,_=>rfl
 |n+1,a::kL,b::bs,h,h'=>by
  have:=nSf n kL bs Bp (by simpa using h');simp only[lM,gi,ef,dt,jW,O1,this];simp
 |0,_::_,_,h,_=>by simp at h
 |0,[],_::_,_,h=>by simp at h
 |n+1,[],_,h,_=>by simp at h
 |n+1,_::_,[],_,h=>by simp at h
variable {t:Nat} {P:Program}
theorem M9{len e:Nat}{k:IntKind}(hU:P.underlying t=some (.array len e))(hE:P.underlying e=some (.int k))(hZ:nJ P e 1)(hA:ey P e false)(em:Bool)(cs:List Value)(hl:cs.length=len)(W:World):(Instr.checkKey em 10000 t (.agg cs.toArray)).run P W= .ok () W:=by
 show(Instr.checkKey em (9998+1+1) t (.agg cs.toArray)).run P W= .ok () W;generalize 9998=n;exact z5f
theorem ngk(n:Nat):∀kL:List Int,((kL.map (Value.int .u8)).zip (kL.map (Value.int .u8))).all (λp=>Instr.sameBits n p.1 p.2)=true
 | []=>rfl
 |a::kL=>by
  have:=ngk n kL;simp only[dt,List.zip_cons_cons,List.all_cons,this,Bool.and_true];cases n<;>simp[Instr.sameBits]
theorem YT{e:Nat}(hU:P.underlying t=some (.array 32 e))(hE:P.underlying e=some (.int .u8))(hZ:nJ P e 1)(hA:ey P e false):wB P t uP where
 und:=⟨_,hU,λk v=>by cases v<;>rfl⟩
 chk:=λb k W=>M9 hU hE hZ hA b _ (by simp[k.2]) W
 eq:=λk k' W=>by
  have h:=um.array hU hZ (ks:=[.i]) rfl (kY.int hE hA) 9998 (k.1.map (Value.int .u8)) (k'.1.map (Value.int .u8)) W (nSf 32 _ _ k.2 k'.2);have e:decide (k=k')=decide (k.1=k'.1):=by simp only[Subtype.ext_iff]
  rw[e,<-U6 _ _ (by rw[k.2,k'.2])];exact h
 bits:=λk=>by
  show Instr.sameBits (9999+1) (uP k) (uP k)=true;generalize 9999=n;simp only[uP,Instr.sameBits,beq_self_eq_true,Bool.true_and];exact ngk n k.1
/-! ### slices whose blocks are frozen -/
def ll {α:Type} (enc:α->Array Value) (n:Nat) (F:ad) (a:Option Addr) (xs:List α):Prop:=
 xs=[]\/∃b off cs t fr,a=some ⟨b,off,none⟩/\(b,Obj.cells cs t fr)∈F/\∀i (h:i<xs.length),off+i*n+n<=cs.size/\cut cs (off+i*n) n=enc xs[i]
section
variable {α:Type} {enc:α->Array Value} {n N K:Nat} {w W:World} {a:Option Addr} {xs:List α} {F F':ad} {L:List World} {H:ad}
theorem ll.mono(h:ll enc n F a xs)(hF:∀p∈F,p∈F'):ll enc n F' a xs:=by
 rcases h with h|⟨b,off,cs,t,fr,h1,h2,h3⟩
 ·exact .inl h
 exact .inr ⟨b,off,cs,t,fr,h1,hF _ h2,h3⟩
theorem ll.at(h:ll enc n F a xs)(hW:∀p∈F,p.1<N/\W.heap[p.1]? =some p.2):ai enc n N W a xs:=by
 rcases h with h|⟨b,off,cs,t,fr,h1,h2,h3⟩
 ·exact .inl h
 exact .inr ⟨b,off,cs,t,fr,h1,(hW _ h2).1,(hW _ h2).2,h3⟩
theorem ai.fs(h:ai enc n N w a xs)(hn:∀q,a=some q->K<=q.block):∃F,(∀p∈F,K<=p.1/\w.heap[p.1]? =some p.2)/\ll enc n F a xs:=by
 rcases h with h|⟨b,off,cs,t,fr,h1,h2,h3,h4⟩
 ·exact⟨[],by simp,.inl h⟩
 refine⟨[(b,.cells cs t fr)],λp hp=>?_,.inr ⟨b,off,cs,t,fr,h1,by simp,h4⟩⟩;simp only[kf]at hp;subst hp;exact⟨hn _ h1,h3⟩
theorem ll.ge(h:ll enc n F a xs)(hF:∀p∈F,K<=p.1):∀q,a=some q->xs=[]\/K<=q.block:=by
 intro q hq;rcases h with h|⟨b,off,cs,t,fr,h1,h2,h3⟩;all_goals grind
theorem St.fzLies(h:St (dI F) L H W):∀p∈F,p.1<W.heap.size/\W.heap[p.1]? =some p.2:=λp hp=>⟨(aT.1 (h.ghost p hp)).1,h.ghost p hp⟩
theorem St.fzAdd{W':World}(h:St (dI F) L H W)(hb:Below W.heap.size W W')(hF:∀p∈F',W.heap.size<=p.1/\W'.heap[p.1]? =some p.2):St (dI (F'++F)) L H W':=by
 have h1:=h.step hb;refine⟨λp hp=>?_,λk hk=>?_,λk hk=>hk.elim,h1.links,h1.own,h1.nodup,λp hp hv=>?_⟩
 ·rcases bA.1 hp with hp|hp
  ·exact(hF p hp).2
  exact h1.ghost p hp
 ·obtain⟨p,hp,rfl⟩:=bY.1 hk;rcases bA.1 hp with hp|hp
  ·exact(aT.1 (hF p hp).2).1
  exact h1.vlt p.1 (bY.2 ⟨p,hp,rfl⟩)
 obtain⟨q,hq,e⟩:=bY.1 hv;rcases bA.1 hq with hq|hq
 ·have:=(hF q hq).1;have:=h.lt p hp;omega
 exact h1.apart p hp (bY.2 ⟨q,hq,e⟩)
end
section
variable {C:Cx} {Q:aZ} {E:Env} {D:List Deferred} {L:List World} {H F:ad} {ops:Array Oper} {l:List Oper}
variable {d ty f:Nat} {pos:String} {aC:Array Edge} {g:Option (Nat×Bool)} {xo:List Operand} {vs:List Value} {eo:Array Nat}
theorem Vb{γ:Type}{v:γ->Value}{Φ:ad->γ->Prop}(az:eg C.P f)(hw:nl ops E g=some true)(hN:Nat.blt d C.N=true)(ha:iV E xo=some vs)(hc:∀W,St (dI F) L H W->Calls C.P f vs.toArray W (λe w'=>∃x F',e= .returned (v x)/\Below W.heap.size W w'/\(∀p∈F',W.heap.size<=p.1/\w'.heap[p.1]? =some p.2)/\Φ F' x))(k:∀x F',Φ F' x->(∀p∈F',ae L p.1)->OJ C ops Q l ((d,v x)::E) D (dI (F'++F)) L H):OJ C ops Q (⟨some d,.call ⟨.value (.func f),xo.toArray,eo⟩,ty,pos,aC,g⟩::l) E D (dI F) L H:=
 nI rfl hw rfl ha zJ az λa W iW hD hF hS=>(hc W hS).mono (by
  rintro ed W' ⟨x,F',rfl,hb,vD,hx⟩;exact k x F' hx (λp hp=>CZ hS (vD p hp).1) (a.put (some d) (v x)) W' z7 z5 (hF.put _ z6) (hS.fzAdd hb vD))
variable {G:Gh} {v:Value->Value}
theorem LO{α:Type}{enc:α->List Value}{m:Nat}{Φ:World->World->List α->Prop}(az:eg C.P f)(hw:nl ops E g=some true)(hN:Nat.blt d C.N=true)(ha:iV E xo=some vs)(hm:∀x,(enc x).length=m)(hc:∀W,St G L H W->Calls C.P f vs.toArray W (λe w'=>∃xs,Φ W w' xs/\aD W enc m t xs v e w'))(k:∀W (xs:List α) a cp w1,St G L H W->Below W.heap.size W w1->Φ W w1 xs->ai (λx=>(enc x).toArray) m w1.heap.size w1 a xs->(∀b,a=some b->W.heap.size<=b.block)->OJ C ops Q l ((d,v (.slice a xs.length cp))::E) D G (w1::L) H):OJ C ops Q (⟨some d,.call ⟨.value (.func f),xo.toArray,eo⟩,ty,pos,aC,g⟩::l) E D G L H:=
 nI rfl hw rfl ha zJ az λac W iW hD hF hS=>(hc W hS).mono (by
  rintro ed W' ⟨xs,hΦ,r,rfl,hb,jw,bN,fj⟩;obtain⟨a,cp,he,aJ⟩:=r.sl hm bN fj (ak _);have:=k W xs a cp W' hS hb hΦ aJ (by
   intro b tI;cases r with
   |nil=>simp only[Rw.val,Value.slice.injEq]at he;rw[<-he.1]at tI;cases tI
   |row b' cap sp=>simp only[Rw.val,Value.slice.injEq]at he;rw[<-he.1]at tI;cases tI;exact jw) (ac.put (some d) (v (.slice a xs.length cp))) W' z7 z5 (hF.put _ z6) (hS.step hb).snap
  rw[he];exact this)
end
/-! ### walks that say the world exactly -/
section
variable (C:Cx)
def PX (Q:aZ) (e:Exit) (E:Env) (T:World->Prop):Prop:=∀a W,a.tmps.size=C.N->a.defers=[]->Fits E a->T W->Q e a W
def CX (c:Code) (Q:aZ) (E:Env) (T:World->Prop):Prop:=∀a W,a.tmps.size=C.N->a.defers=[]->Fits E a->T W->c.wpIn (FW C.r) 0 C.P Q a W
def OX (ops:Array Oper) (Q:aZ) (l:List Oper) (E:Env) (T:World->Prop):Prop:=∀a W,a.tmps.size=C.N->a.defers=[]->Fits E a->T W->wpListIn (FW C.r) 0 C.P ops Q l a W
end
section
variable {C:Cx} {Q:aZ} {E E':Env} {T:World->Prop} {ops:Array Oper} {l:List Oper}
theorem CX.region{id:Nat}(h:OX C l.toArray Q l E T):CX C (.region id l.toArray false) Q E T:=λa W hN hD hF hS=>wpIn_region_lit (h a W hN hD hF hS)
theorem CX.seq{x y:Code}(h:CX C x (Exit.then (y.wpIn (FW C.r) 0 C.P Q) Q) E T):CX C (.seq x y) Q E T:=λa W hN hD hF hS=>wpIn_seq (h a W hN hD hF hS)
variable {c:Code}
theorem CX.block{id:Nat}(h:CX C c (Exit.inBlock id Q) E T):CX C (.block id c) Q E T:=λa W hN hD hF hS=>wpIn_block (h a W hN hD hF hS)
theorem CX.skip(h:PX C Q .normal E T):CX C .skip Q E T:=λa W hN hD hF hS=>wpIn_skip (h a W hN hD hF hS)
theorem CX.ret(h:PX C Q .ret E T):CX C .ret Q E T:=λa W hN hD hF hS=>wpIn_ret (h a W hN hD hF hS)
theorem CX.exit{id:Nat}(h:PX C Q (.exit id) E T):CX C (.exit id) Q E T:=λa W hN hD hF hS=>wpIn_exit (h a W hN hD hF hS)
theorem PX.next{y:Code}(h:CX C y Q E T):PX C (Exit.then (y.wpIn (FW C.r) 0 C.P Q) Q) .normal E T:=h
theorem OX.done(h:PX C Q .normal E T):OX C ops Q [] E T:=h
theorem CX.condT{c:Operand}{x y:Code}(hc:ev E c=some (.bool true))(h:CX C x Q E T):CX C (.cond c x y) Q E T:=λa W hN hD hF hS=>wpIn_cond_true (hF.ev hc) (h a W hN hD hF hS)
theorem CX.condF{c:Operand}{x y:Code}(hc:ev E c=some (.bool false))(h:CX C y Q E T):CX C (.cond c x y) Q E T:=λa W hN hD hF hS=>wpIn_cond_false (hF.ev hc) (h a W hN hD hF hS)
theorem PX.retThen{R:Act->World->Prop}(h:PX C Q .ret E T):PX C (Exit.then R Q) .ret E T:=h
theorem PX.exThen{R:Act->World->Prop}{id:Nat}(h:PX C Q (.exit id) E T):PX C (Exit.then R Q) (.exit id) E T:=h
theorem PX.retBlock{id:Nat}(h:PX C Q .ret E T):PX C (Exit.inBlock id Q) .ret E T:=h
theorem PX.norBlock{id:Nat}(h:PX C Q .normal E T):PX C (Exit.inBlock id Q) .normal E T:=h
theorem PX.exHit{id:Nat}(h:PX C Q .normal E T):PX C (Exit.inBlock id Q) (.exit id) E T:=λa W hN hD hF hS=>by
 simp only[Exit.inBlock];have:=h a W hN hD hF hS;simpa using this
theorem OX.fix(h:∀W1,T W1->OX C ops Q l E (· =W1)):OX C ops Q l E T:=λa W hN hD hF hS=>h W hS a W hN hD hF rfl
variable {aC:Array Edge} {L:List World} {g:Option (Nat×Bool)} {pos:String}
theorem pH{o:Op}{d ty:Nat}{v:Value}(hT:∀W,T W->St Gh.no L [] W)(hnd:MM o=true)(hw:nl ops E g=some true)(hN:Nat.blt d C.N=true)(h:RV C Gh.no L [] E o v)(k:OX C ops Q l ((d,v)::E) T):OX C ops Q (⟨some d,o,ty,pos,aC,g⟩::l) E T:=by
 intro a W iW hD hF hS;have hr:=h d ty pos aC g a W hF (hT W hS);unfold wpListIn;rw[if_pos (Bg hF hw)];refine⟨λ_ _=>trivial,?_⟩;rw[Oper.semAt_eq _ _ _ (HM hnd),hr,Oper.uponIn_value];exact k (a.put (some d) v) W z7 z5 (hF.put _ z6) hS
theorem Y4{d ty:Nat}{x:Operand}{v:Value}(hw:nl ops E g=some true)(hN:Nat.blt d C.N=true)(hx:ev E x=some v)(k:∀W,T W->OX C ops Q l ((d,ptr W.heap.size 0)::E) (· =W.alloc (.cells v.cells t (0,0)))):OX C ops Q (⟨some d,.box t x,ty,pos,aC,g⟩::l) E T:=by
 intro a W iW hD hF hS;have hr:(execOp a.eval ⟨some d,.box t x,ty,pos,aC,g⟩).run C.P W= .ok (.value (ptr W.heap.size 0)) (W.alloc (.cells v.cells t (0,0))):=nAj (hF.ev hx);unfold wpListIn;rw[if_pos (Bg hF hw)];refine⟨λ_ _=>trivial,?_⟩;rw[Oper.semAt_eq _ _ _ zJ,hr,Oper.uponIn_value];exact k W hS (a.put (some d) (ptr W.heap.size 0)) _ z7 z5 (hF.put _ z6) rfl
theorem Rq{d f ty:Nat}{x:Operand}{xs:List Operand}{vs first cap:List Value}{eo:Array Nat}{v:Value}{T':World->Prop}(hx:ev E x=some (.func (.func f) first.toArray cap.toArray))(az:eg C.P f)(hw:nl ops E g=some true)(hN:Nat.blt d C.N=true)(ha:iV E xs=some vs)(hc:∀W,T W->Calls C.P f (first++vs++cap).toArray W (λe w'=>e= .returned v/\T' w'))(k:OX C ops Q l ((d,v)::E) T'):OX C ops Q (⟨some d,.call ⟨.value x,xs.toArray,eo⟩,ty,pos,aC,g⟩::l) E T:=by
 intro a W iW hD hF hS;unfold wpListIn;rw[if_pos (Bg hF hw)];refine⟨λ_ _=>trivial,?_⟩;have hr:(execOp a.eval ⟨some d,.call ⟨.value x,xs.toArray,eo⟩,ty,pos,aC,g⟩).run C.P W= .ok (.enter f (first++vs++cap).toArray) W:=by
  have h2:(xs.toArray).map a.eval=vs.toArray:=by rw[C8,MN hF xs vs ha]
  simp only[execOp,resolve,hF.ev hx,Deferred.ofValue,h2];have h3:=az (first++vs++cap).toArray W;simp only[iP]at h3 ⊢;simp[invoke,h3]
 rw[Oper.semAt_eq _ _ _ zJ,hr,Oper.uponIn_enter];refine⟨by simp,I7.2 ((hc W hS).mono ?_)⟩;rintro e W' ⟨rfl,h⟩;exact k (a.put (some d) v) W' z7 z5 (hF.put _ z6) h
def O3 {α:Type} (C:Cx) (Ei:α->Env) (Ti:α->World->Prop) (ok:α->Prop) (μ:α->Nat) (x:α):Act->World->Prop:=λa W=>
 ∃x',ok x'/\μ x'<μ x/\a.tmps.size=C.N/\a.defers=[]/\Fits (Ei x') a/\Ti x' W
theorem CX.loop{α:Type}(Ei:α->Env)(Ti:α->World->Prop)(ok:α->Prop)(μ:α->Nat)(x0:α)(h0:ok x0)(hE:Sub (Ei x0) E)(hT:∀W,T W->Ti x0 W)(round:∀x,ok x->CX C c (Exit.then (O3 C Ei Ti ok μ x) Q) (Ei x) (Ti x)):CX C (.loop c) Q E T:=by
 intro a W hN hD hF hS
 let Inv:Act->World->Nat->Prop:=λa W m=>∃x,μ x=m/\ok x/\a.tmps.size=C.N/\a.defers=[]/\Fits (Ei x) a/\Ti x W
 refine wpIn_loop (λa W=>∃m,Inv a W m) (λa W=>TN (Inv a W)) ⟨_,x0,rfl,h0,hN,hD,hE.fits hF,hT W hS⟩ ?_;exact z7f
theorem PX.again{α:Type}{Ei:α->Env}{Ti:α->World->Prop}{ok:α->Prop}{μ:α->Nat}{x:α}(x':α)(h0:ok x')(hlt:μ x'<μ x)(hE:Sub (Ei x') E)(hT:∀W,T W->Ti x' W):PX C (Exit.then (O3 C Ei Ti ok μ x) Q) .normal E T:=λa W hN hD hF hS=>⟨x',h0,hlt,hN,hD,hE.fits hF,hT W hS⟩
variable {R:Ending->World->Prop} {e:Exit} {fn:Func}
theorem AM{v:Value}(he:e= .ret\/e= .normal)(hr:fn.results=#[.tmp t])(hv:look E t=some v)(h:∀W,T W->R (.returned v) W):PX C (bodyPost C.P fn R) e E T:=by
 intro a W hN hD hF hS;have:bodyPost C.P fn R .ret a W:=⟨hD,v,by rw[results_tmp hr];exact congrArg (λu=>Result.ok u W) (hF t v hv),h W hS⟩;rcases he with rfl|rfl<;>exact this
end
variable {c:Code} {R:Ending->World->Prop} {fn:Func} {w:World}
theorem Fl{f N:Nat}{vs:List Value}(hf:P.funcs[f]? =some fn)(hb:fn.body=some c)(hN:fn.ntmps=N)(hl:Nat.ble vs.length N=true)(h:CX ⟨P,none,N⟩ c (bodyPost P fn R) (zy 0 vs) (· =w)):Calls P f vs.toArray w R:=by
 rw[<-I7 (r:=none) (n:=0)];refine callsIn_of_wp hf hb trivial (h _ w ?_ rfl ?_ rfl)
 ·have:=dO hl;simp[hN];omega
 exact nmc vs _
def Gz (w0:World) (W:World):Prop:=∃q os,W=Sort.grow (w0.drewN q) os
theorem Gz.refl(w:World):Gz w w:=⟨0,#[],by simp[Sort.grow,World.drewN]⟩
theorem Gz.trans{a b c:World}(h:Gz a b)(k:Gz b c):Gz a c:=by
 obtain⟨q,os,rfl⟩:=h;obtain⟨q',zc,rfl⟩:=k;exact⟨q+q',os++zc,by simp[Sort.grow,World.drewN,Nat.add_assoc]⟩
theorem Gz.alloc(w:World)(o:Obj):Gz w (w.alloc o):=⟨0,#[o],by rw[Sort.alloc_eq_grow];simp[Sort.grow,World.drewN]⟩
variable {W:World}
theorem Gz.below(h:Gz w W):Below w.heap.size w W:=by
 obtain⟨q,os,rfl⟩:=h;refine⟨rfl,rfl,rfl,by simp[Sort.grow,World.drewN],?_,λk hk=>?_⟩
 ·simp[Sort.grow,World.drewN]
 simp only[Sort.grow,World.drewN];rw[Vh hk]
variable {L:List World}
theorem N8(h:∀w∈L,Below w.heap.size w W):St Gh.no L [] W:=
 ⟨trivial,λ_ h=>h.elim,λ_ h=>h.elim,λw' hw=>(aH.of_below (X:=λk=>Gh.no.X k\/k∈([]:ad).map (·.1)) (h w' hw)),λ_ h=>by simp at h,λ_ _ _ _ h=>by simp at h,λ_ h=>by simp at h⟩
end Px

namespace Px
open Go Go.RowKit
/-! ### ranging over maps with any keys -/
section
variable {C:Cx} {Q:aZ} {E:Env} {D:List Deferred} {G:Gh} {L:List World} {H:ad} {ops:Array Oper} {l:List Oper}
variable {d T ty:Nat} {pos:String} {aC:Array Edge} {g:Option (Nat×Bool)} {x y z:Operand}
variable {K:Type} [DecidableEq K] {ek:K->Value} {β:Type} {ev:β->Value} {kv:List (K×β)} {m:Mq}
def Mq.it (b:Nat) (m:Mq) (js:List Nat):Obj:=.mapIter (some b) m.c (js.map λj=>m.bs.getD j 0).toArray m.c
variable {b et kt:Nat}
theorem aij(hU:C.P.underlying T=some (.map kt et))(hb:bB G L H b (m.obj ek ev kv))(hw:nl ops E g=some true)(hN:Nat.blt d C.N=true)(hx:Px.ev E x=some (.map (some b)))(k:∀rb:Nat,ae L rb->aY H rb->OJ C ops Q l ((d,ptr rb 0)::E) D G L ((rb,m.it b [])::H)):OJ C ops Q (⟨some d,.range T x,ty,pos,aC,g⟩::l) E D G L H:=
 qB zJ hw hN λa W hF hS=>by
  have ew:W.heap[b]? =some (.map (mf ek ev kv m.bs).toArray m.c):=hb W hS;refine⟨_,_,_,_,?_,hS.alloc (m.it b []),k W.heap.size hS.sizes hS.offNew⟩;have:=run_range_map (P:=C.P) W T kt et b _ _ hU ew;simp[execOp,hF.ev hx,this,Mq.it]
variable {js:List Nat} {i:Nat}
theorem Zn{rb:Nat}(hi:H[i]? =some (rb,m.it b js))(hm:m.Ok kv)(hb:bB G L H b (m.obj ek ev kv))(pC:∀j∈js,j<kv.length)(hw:nl ops E g=some true)(hN:Nat.blt d C.N=true)(hx:Px.ev E x=some (ptr rb 0))(k1:(∀j,j<kv.length->j∈js)->OJ C ops Q l ((d,.tuple #[.bool false])::E) D G L H)(k2:∀(j:Nat) (p:K×β),kv[j]? =some p->j∉js->OJ C ops Q l ((d,.tuple #[.bool true,ek p.1,ev p.2])::E) D G L (H.set i (rb,m.it b (js++[j])))):OJ C ops Q (⟨some d,.next x false,ty,pos,aC,g⟩::l) E D G L H:=
 qB zJ hw hN λa W hF hS=>by
  have hr:W.heap[rb]? =some (.mapIter (some b) m.c (js.map λj=>m.bs.getD j 0).toArray m.c):=hS.own _ (cP hi);have ew:W.heap[b]? =some (.map (mf ek ev kv m.bs).toArray m.c):=hb W hS;have hlt:rb<W.heap.size:=(aT.1 hr).1;have H7:∀e∈(mf ek ev kv m.bs).toArray.toList,e.born<m.c:=by
   intro e he;obtain⟨j,hj⟩:=kA.1 he;simp only at hj;rw[Ub hm.len]at hj;exact z4g
  have VM:∀j,j<kv.length->((js.map λj=>m.bs.getD j 0).toArray.contains (m.bs.getD j 0)=true↔j∈js):=by
   exact zjg
  have hex:∀{v W'},(Instr.next (.pointer (some ⟨rb,0,none⟩)) false ty).run C.P W= .ok v W'->(execOp a.eval ⟨some d,.next x false,ty,pos,aC,g⟩).run C.P W= .ok (.value v) W':=by
   intro v W' hh;simp[execOp,hF.ev hx,hh]
  rcases run_next_at (P:=C.P) W ty rb b m.c m.c _ _ m.c hr ew H7 (ak _)with⟨h0,fK⟩|⟨e,he,W1,O2,fK⟩
  ·refine⟨_,W,L,H,hex fK,hS,k1 λj hj=>?_⟩;apply(VM j hj).1;apply Decidable.byContradiction;intro hn;have fj:=Ub (ek:=ek) (ev:=ev) hm.len j;rw[kx hj]at fj;have jU:=cP fj;have:(leftOf (mf ek ev kv m.bs).toArray (js.map λj=>m.bs.getD j 0).toArray)=#[]:=Array.eq_empty_of_size_eq_zero h0;exact zWg
  unfold leftOf at he;rw[Array.toList_filter,wD]at he;obtain⟨cF,bW⟩:=he;obtain⟨j,hj⟩:=kA.1 cF;simp only at hj;rw[Ub hm.len]at hj;obtain⟨p,hp,rfl⟩:=AK.1 hj;have Cw:=(gX.1 hp).1;have hn:j∉js:=λh=>by
   exact z8g
  have lG:St G L H W1:=by
   rcases O2 with rfl|rfl
   ·exact hS
   exact hS.step (D9 W _)
  have HQ:rb<W1.heap.size:=(aT.1 (lG.own _ (cP hi))).1;have Co:=lG.put hi (I8 W1 rb (m.it b (js++[j]))) (World.putObj_heap_same HQ);refine⟨_,_,L,_,hex fK,?_,k2 j p hp hn⟩;have e1:ChangeMaps.setBlock W1 rb (.mapIter (some b) m.c ((js.map λj=>m.bs.getD j 0).toArray.push (m.bs.getD j 0)) m.c)=W1.putObj rb (m.it b (js++[j])):=by
   simp[ChangeMaps.setBlock,World.putObj,Mq.it]
  rw[e1];exact Co
theorem RK{rb j:Nat}{p:K×β}(hi:H[i]? =some (rb,m.it b (js++[j])))(hm:m.Ok kv)(hb:bB G L H b (m.obj ek ev kv))(hp:kv[j]? =some p)(hx:Px.ev E x=some (ptr rb 0)):RV C G L H E (.entry x) (.tuple #[ek p.1,ev p.2]):=λd ty pos aC g a W hF hS=>by
 have hr:W.heap[rb]? =some (.mapIter (some b) m.c (((js++[j]).map λj=>m.bs.getD j 0).toArray) m.c):=hS.own _ (cP hi);have ew:W.heap[b]? =some (.map (mf ek ev kv m.bs).toArray m.c):=hb W hS;have fj:=Ub (ek:=ek) (ev:=ev) hm.len j;rw[hp]at fj;have hnd:((mf ek ev kv m.bs).toArray.toList.map (·.born)).Nodup:=by
  have:(mf ek ev kv m.bs).toArray.toList.map (·.born)=m.bs:=by
   simp only[mf,List.map_map];rw[show((λx:MapEntry=>x.born)∘λp:(K×β)×Nat=>({key:=ek p.1.1,val:=ev p.1.2,born:=p.2}:MapEntry))=Prod.snd from rfl];rw[List.map_snd_zip];exact Nat.le_of_eq hm.len
  rw[this];exact hm.nd
 exact zbh
end
variable {n t:Nat} {P:Program}
/-! ### keys of maps that are structs -/
theorem FD{len e:Nat}{k:IntKind}(hU:P.underlying t=some (.array len e))(hE:P.underlying e=some (.int k))(hZ:nJ P e 1)(hA:ey P e false)(em:Bool)(cs:List Value)(hl:cs.length=len)(W:World):(Instr.checkKey em (n+1+1) t (.agg cs.toArray)).run P W= .ok () W:=by
 exact z5f
variable {cs:Array Value} {W:World}
theorem RB{fs:List Field}{em:Bool}(hU:P.underlying t=some (.struct fs.toArray))(h:∀f∈fs,f.name≠ "_"/\∃v,(part f.type cs f.offset).run P W= .ok v W/\(Instr.checkKey em n f.type v).run P W= .ok () W):(Instr.checkKey em (n+1) t (.agg cs)).run P W= .ok () W:=by
 rw[Instr.checkKey];simp only[Sem.run_bind,run_underlying hU,Result.andThen_ok];rw[<-Array.forIn_toList,show fs.toArray.toList=fs by simp];clear hU;induction fs with
 |nil=>simp
 |cons f L ih=>
  obtain⟨hn,v,p1,p2⟩:=h f zJ;simp only[List.forIn_cons,Sem.run_bind,hn,ne_eq,not_false_eq_true,if_true,Result.andThen_ok,p1,p2,Sem.run_pure];exact ih (λy hy=>h y (by simp[hy]))
theorem n5j{k:IntKind}{em:Bool}{v:Value}(hU:P.underlying t=some (.int k)):(Instr.checkKey em (n+1) t v).run P W= .ok () W:=by simp[Instr.checkKey,run_underlying hU]
theorem nDl{off:Nat}{v:Value}(hA:ey P t false)(hv:cs[off]? =some v):(part t cs off).run P W= .ok v W:=by
 obtain⟨h1,h2⟩:=aT.1 hv;simp[part,hA W,h1,h2]
theorem RC{off:Nat}(hA:ey P t true)(hZ:nJ P t n):(part t cs off).run P W= .ok (.agg (cut cs off n)) W:=by
 simp only[part,Sem.run_bind,hA W,hZ W,Result.andThen,if_true,Sem.run_pure,ngf]
theorem FE(n:Nat)(k:IntKind)(a:Int):Instr.sameBits n (.int k a) (.int k a)=true:=by cases n<;>simp[Instr.sameBits]
/-! ### append behind a part of a row that is given up (a queue) -/
section
variable {G:Gh} {L:List World} {H:ad} {W:World}
variable {sp:List Value} {b i:Nat}
theorem St.appO{e len cap m tx ty:Nat}{ti:TypeInfo}{z sv:Value}{pre ys news:List Value}(hS:St G L H W)(hi:H[i]? =some (b,.cells (pre++(ys++sp)).toArray e (0,0)))(hU:P.underlying t=some (.slice e))(qm:P.info? e=some ti)(hz:ti.zero=some z)(hm:ti.size=m)(tB:z.cells.size=m)(qn:Src P m tx sv n news W)(hlen:ys.length=len*m)(vG:sp.length=(cap-len)*m)(Ip:len<=cap)(ha:Fr G L b)(h63:len+n<=9223372036854775807)(lW:(len+n)*ti.bytes<=140737488355328):∃b' aR Cq bU W',(Builtin.append_ #[t,tx] ty #[.slice (some ⟨b,pre.length,none⟩) len cap,sv]).run P W= .ok (.slice (some ⟨b',Cq.length,none⟩) (len+n) aR) W'/\St G L (H.set i (b',.cells (Cq++(ys++news++bU)).toArray e (0,0))) W'/\((b'=b/\Cq=pre)\/(W.heap.size<=b'/\Cq=[]))/\len+n<=aR/\bU.length=(aR-(len+n))*m:=by
 subst hm;have hb:=hS.own _ (cP hi);have wh:=qn.newsLen;by_cases ig:len+n<=cap
 ·have hle:(len+n)*ti.size<=cap*ti.size:=wo _ ig;have kP:(pre++(ys++sp)).toArray.size=pre.length+cap*ti.size:=by
   simp only[qq,ck,hlen,vG];rw[<-pE];congr 2;omega
  rw[pE]at hle;have hr:=run_append_room_src (P:=P) W t tx ty e ti hU qm b pre.length len cap sv n news qn ig
   (λj hj=>by rw[KB hb];rw[aJq aa];rfl)
   (λj hj=>by simp[World.frozen?,hb])
  obtain⟨h1,h2⟩:=nZc b news (pre.length+len*ti.size) W _ _ hb;have jQ:(sp.drop (n*ti.size)).length=(cap-(len+n))*ti.size:=by
   rw[BN,vG,<-Nat.sub_mul];congr 1;omega
  have hc:setCells (pre++(ys++sp)).toArray (pre.length+len*ti.size) news=(pre++(ys++news++sp.drop (n*ti.size))).toArray:=by
   apply Array.ext';rw[nU,<-hlen,<-ck];show jm (pre++(ys++sp)) (pre++ys).length news=_;have amA:n*ti.size<=sp.length:=by rw[vG,<-wh,wh];exact wo _ aa
   conv=>lhs;rw[<-iP,<-AH (n*ti.size) sp]
   rw[nxd _ _ _ _ (by rw[kQ];omega)];simp[iP]
  rw[hc]at h2;exact⟨_,_,_,_,_,hr,hS.put hi h1 h2,.inl ⟨rfl,rfl⟩,ig,jQ⟩
 have hold:(Builtin.firstCells ti.size len (.slice (some ⟨b,pre.length,none⟩) len cap)).run P W.drew= .ok ys.toArray W.drew:=by
  have ew:W.drew.heap[b]? =some (.cells (pre++(ys++sp)).toArray e (0,0)):=hb;rw[nrh ew (by simp only[qq,ck,hlen];omega)];unfold cut;rw[List.drop_left' rfl,<-hlen,PU rfl]
 have hr:=run_append_grow_src (P:=P) W t tx ty e ti z hU qm hz (some ⟨b,pre.length,none⟩) len cap ys hold sv n news qn aa aa (growslice_fits aa lW);have hg:=grownCap_ge W (len+n) cap e;have gF:=(hS.step (D9 W (W.drawn+1))).renewF (.cells ((ys++news).toArray++Builtin.zeroCells z.cells (grownCap W (len+n) cap e-(len+n))) e (0,0)) hi ha;have BM:(Builtin.zeroCells z.cells (grownCap W (len+n) cap e-(len+n))).toList.length=(grownCap W (len+n) cap e-(len+n))*ti.size:=by
  simp[Builtin.zeroCells,tB]
 have hc:(ys++news).toArray++Builtin.zeroCells z.cells (grownCap W (len+n) cap e-(len+n))=([]++(ys++news++(Builtin.zeroCells z.cells (grownCap W (len+n) cap e-(len+n))).toList)).toArray:=by
  apply Array.ext';simp
 rw[hc]at gF hr;exact⟨_,_,[],_,_,hr,gF,.inr ⟨ak _,rfl⟩,hg,BM⟩
end
section
variable {C:Cx} {Q:aZ} {E:Env} {D:List Deferred} {G:Gh} {L:List World} {H H0 H1:ad} {ops:Array Oper} {l:List Oper}
variable {d ty:Nat} {pos:String} {aC:Array Edge} {g:Option (Nat×Bool)} {x y:Operand} {α:Type} {enc:α->List Value} {m:Nat}
variable {sp:List Value} {b:Nat}
theorem apO{cap off:Nat}{e tx:Nat}{sv:Value}{ps xs zs:List α}(hH:H=H0++((b,aO enc e (ps++xs) sp)::H1))(hT:iR C.P t e m)(hm:∀x,(enc x).length=m)(hw:nl ops E g=some true)(hN:Nat.blt d C.N=true)(hx:ev E x=some (.slice (some ⟨b,off,none⟩) xs.length cap))(ho:off=ps.length*m)(hy:ev E y=some sv)(hs:bO C G L H enc m tx sv zs)(hc:xs.length<=cap)(vG:sp.length=(cap-xs.length)*m)(hf:Fr G L b)(iO:xs.length+zs.length<=1000000)(k:∀(b' aR:Nat) (O4:List α) (bU:List Value),(b=b'\/ae L b')->(xs++zs).length<=aR->bU.length=(aR-(xs++zs).length)*m->OJ C ops Q l ((d,.slice (some ⟨b',O4.length*m,none⟩) (xs++zs).length aR)::E) D G L (H0++((b',aO enc e (O4++(xs++zs)) bU)::H1))):OJ C ops Q (⟨some d,.call ⟨.builtin .append,#[x,y],#[t,tx]⟩,ty,pos,aC,g⟩::l) E D G L H:=
 qB zJ hw hN λa W hF hS=>by
  obtain⟨ti,z,qm,hz,kP,AA,qx⟩:=hT.info;have hl:(xs++zs).length=xs.length+zs.length:=ck;have hB:(xs.length+zs.length)*ti.bytes<=140737488355328:=dG (Nat.mul_le_mul iO qx) zB;have hp:(gN enc ps).length=ps.length*m:=nW hm ps;have hi:H[H0.length]? =some (b,.cells (gN enc ps++(gN enc xs++sp)).toArray e (0,0)):=by rw[hH];simp[aO,NC]
  obtain⟨b',aR,Cq,bU,W',fK,gF,ew,Ah,jQ⟩:=hS.appO (P:=C.P) (ty:=ty) hi hT.und qm hz kP AA (hs.src hS) (nW hm xs) vG hc hf aa hB;subst ho;rw[hp]at fK;obtain⟨O4,rfl⟩:∃O4:List α,Cq=gN enc O4:=by
   rcases ew with⟨_,e1⟩|⟨_,e1⟩
   ·exact⟨ps,e1⟩
   exact⟨[],e1⟩
  rw[nW hm O4]at fK;refine⟨.slice (some ⟨b',O4.length*m,none⟩) (xs.length+zs.length) aR,W',L,_,?_,gF,?_⟩
  ·simp[execOp,hF.ev hx,hF.ev hy,resolve,invoke,Deferred.ofValue,builtin,fK]
  have:=k b' aR O4 bU (ew.imp (λh=>h.1.symm) (λh=>CZ hS h.1)) (by rw[hl];exact Ah) (by rw[hl];exact jQ);rw[hl]at this;rw[hH];simpa[aO,NC]using this
end
section
variable {C:Cx} {Q:aZ} {E:Env} {D:List Deferred} {L:List World} {H:ad} {ops:Array Oper} {l:List Oper}
variable {d ty:Nat} {pos:String} {aC:Array Edge} {g:Option (Nat×Bool)} {x:Operand} {xs:List Operand} {vs:List Value} {eo:Array Nat}
variable {W0:World} {MI RO M:aE} {hM:∀k,M k->k<W0.heap.size/\¬MI k/\¬RO k}
variable {I1 X1:aE->World->Prop} {I:World->Prop}
theorem Zz{y:Nat}(Z:aE)(T:Gh->Gh)(hT:∀G,(T G).M=G.M/\(T G).V=G.V/\(T G).R=G.R/\(T G).X=λk=>G.X k\/Z k){V:aE}{hI:eX (λk=>(k<W0.heap.size/\¬MI k)\/V k) I}(kO:∀V,eX (λk=>(k<W0.heap.size/\¬MI k)\/V k) (I1 V))(fE:∀V,eX (λk=>(k<W0.heap.size/\¬MI k)\/V k) (X1 V))(hV:∀k,V k->W0.heap.size<=k)(hw:nl ops E g=some true)(hN:Nat.blt d C.N=true)(hx:ev E x=some (yv y))(ha:iV E xs=some vs)(hy:∀W1,St (T (dh hM V hI)) L H W1->(∀k,V k->W0.heap.size<=k/\k<W1.heap.size)->I W1->Oo C.P y vs.toArray W1 (λb W2=>aH (λk=>M k\/V k) W1 W2/\(if b then I1 (qA V W1 W2) W2 else X1 (qA V W1 W2) W2)))(k1:∀V2,(∀k,V k->V2 k)->(∀w∈L,∀k,V2 k->V k\/w.heap.size<=k)->OJ C ops Q l ((d,.bool true)::E) D (T (dh hM V2 (kO V2))) L H)(k2:∀V2,(∀k,V k->V2 k)->(∀w∈L,∀k,V2 k->V k\/w.heap.size<=k)->OJ C ops Q l ((d,.bool false)::E) D (T (dh hM V2 (fE V2))) L H):OJ C ops Q (⟨some d,.call ⟨.value x,xs.toArray,eo⟩,ty,pos,aC,g⟩::l) E D (T (dh hM V hI)) L H:=by
 refine T7 (λG'=>∃V2,(∀k,V k->V2 k)/\(∀w∈L,∀k,V2 k->V k\/w.heap.size<=k)/\G'=T (dh hM V2 (kO V2))) (λG'=>∃V2,(∀k,V k->V2 k)/\(∀w∈L,∀k,V2 k->V k\/w.heap.size<=k)/\G'=T (dh hM V2 (fE V2))) hw hN hx ha (λW1 hS=>?_) (by rintro _ ⟨V2,h2,h3,rfl⟩;exact k1 V2 h2 h3) (by rintro _ ⟨V2,h2,h3,rfl⟩;exact k2 V2 h2 h3);have hxl:∀k,V k->k<W1.heap.size:=λk hk=>hS.xlt k (by rw[(hT _).2.2.2];exact .inl (.inr hk));have hgh:I W1:=by have:=hS.ghost;rw[(hT _).2.2.1]at this;exact this
 obtain⟨fn,tmps,assign,body,fK,kM⟩:=hy W1 hS (λk hk=>⟨hV k hk,hxl k hk⟩) hgh;exact zZf
variable {e:Exit} {fn:Func}
theorem ZE{V:aE}{hI:eX (λk=>(k<W0.heap.size/\¬MI k)\/V k) I}{α:Type}{Fin:List α->aE->World->Prop}{I':List α->aE->World->Prop}{X:aE->World->Prop}(he:e= .ret\/e= .normal)(hr:fn.results=#[])(hw:W0∈L)(hV:∀k,V k->W0.heap.size<=k)(hH:∀k,k<W0.heap.size->k∈H.map (·.1)->MI k)(h:∀A,St (dh hM V hI) L H A->I A->(∃xs,Fin xs (λk=>M k\/V k) A/\I' xs V A)\/X V A):PJ C (bodyPost C.P fn (λe W'=>(∃v,e= .returned v)/\aH (λk=>M k\/MI k) W0 W'/\∃V,(∃xs,Fin xs (λk=>M k\/V k) W'/\I' xs V W')\/X V W')) e E [] (dh hM V hI) L H:=by
 intro a W' _ hD _ hS;have key:bodyPost C.P fn (λe W'=>(∃v,e= .returned v)/\aH (λk=>M k\/MI k) W0 W'/\∃V,(∃xs,Fin xs (λk=>M k\/V k) W'/\I' xs V W')\/X V W') .normal a W':=by
  refine⟨hD,.tuple #[],results_none hr _ _ _,⟨_,rfl⟩,(hS.links W0 hw).mono λk hk hx=>?_,V,h W' hS hS.ghost⟩;exact zLh
 exact zHh
end
section
variable {α:Type}
end
end Px


namespace Px
open Go Go.RowKit
/-! ### yield is called in another function -/
/-- what a function leaves that calls yield once -/
def YR (M V:aE) (I1 X1:aE->World->Prop) (W:World):Ending->World->Prop:=λe W2=>
 ∃(b:Bool) (V2:aE),e= .returned (.bool b)/\(∀k,V k->V2 k)/\(∀k,V2 k->V k\/(W.heap.size<=k/\k<W2.heap.size))/\aH (λk=>M k\/V k) W W2/\(if b then I1 V2 W2 else X1 V2 W2)
section
variable {C:Cx} {Q:aZ} {E:Env} {D:List Deferred} {L:List World} {H:ad} {ops:Array Oper} {l:List Oper}
variable {d ty f:Nat} {pos:String} {aC:Array Edge} {g:Option (Nat×Bool)} {x:Operand} {xs:List Operand} {vs first cap:List Value} {eo:Array Nat}
variable {W0:World} {MI RO M:aE} {hM:∀k,M k->k<W0.heap.size/\¬MI k/\¬RO k}
variable {I1 X1:aE->World->Prop} {I:World->Prop}
theorem R5{V:aE}{hI:eX (λk=>(k<W0.heap.size/\¬MI k)\/V k) I}(kO:∀V,eX (λk=>(k<W0.heap.size/\¬MI k)\/V k) (I1 V))(fE:∀V,eX (λk=>(k<W0.heap.size/\¬MI k)\/V k) (X1 V))(hx:ev E x=some (.func (.func f) first.toArray cap.toArray))(az:eg C.P f)(hw:nl ops E g=some true)(hN:Nat.blt d C.N=true)(ha:iV E xs=some vs)(hc:∀W,St (dh hM V hI) L H W->Calls C.P f (first++vs++cap).toArray W (YR M V I1 X1 W))(k1:∀V2,(∀k,V k->V2 k)->(∀w∈L,∀k,V2 k->V k\/w.heap.size<=k)->OJ C ops Q l ((d,.bool true)::E) D (dh hM V2 (kO V2)) L H)(k2:∀V2,(∀k,V k->V2 k)->(∀w∈L,∀k,V2 k->V k\/w.heap.size<=k)->OJ C ops Q l ((d,.bool false)::E) D (dh hM V2 (fE V2)) L H):OJ C ops Q (⟨some d,.call ⟨.value x,xs.toArray,eo⟩,ty,pos,aC,g⟩::l) E D (dh hM V hI) L H:=
 nI rfl hw hx ha zJ az λa W iW hD hF hS=>(hc W hS).mono (by
  rintro e W2 ⟨b,V2,rfl,h1,h2,hk,hb⟩;have h3:∀w∈L,∀k,V2 k->V k\/w.heap.size<=k:=λw hw k hk=>(h2 k hk).imp id λh=>by have:=(hS.links w hw).size;omega
  have nx:∀{R:World->Prop} (hR:eX (λk=>(k<W0.heap.size/\¬MI k)\/V2 k) R),R W2->Next (dh hM V hI) W W2 (dh hM V2 hR):=λ{R} hR hr=>
   ⟨λk h=>h.imp id (h1 k),λk h=>h.elim (λh=>.inl (.inl h)) (λh=>(h2 k h).imp .inr id),λk h=>h.elim (λh=>.inl (.inl h)) (λh=>(h2 k h).imp .inr id),hr⟩
  have bN:=λv=>hF.put (d:=d) v z6;cases b with
  |true=>exact k1 V2 h1 h3 (a.put (some d) (.bool true)) W2 z7 z5 (bN _) (hS.yield2 hk (nx (kO V2) hb).x (nx (kO V2) hb).x' (nx (kO V2) hb).v hb)
  |false=>exact k2 V2 h1 h3 (a.put (some d) (.bool false)) W2 z7 z5 (bN _) (hS.yield2 hk (nx (fE V2) hb).x (nx (fE V2) hb).x' (nx (fE V2) hb).v hb))
variable {G:Gh} {W:World}
theorem St.alone(h:St G L H W):St G [W] [] W:=
 ⟨h.ghost,h.vlt,h.xlt,λw hw=>by rw[kf.1 hw];exact aH.refl _ _,λp hp=>by simp at hp,λi j p q hi=>by simp at hi,λp hp=>by simp at hp⟩
variable {e:Exit} {L':List World} {b i:Nat}
theorem PJ.resnap{o:Obj}(hi:H[i]? =some (b,o))(hb:ae L' b)(hs:∀w∈L',w∈L)(k:∀W,St G L H W->PJ C Q e E D G (W::L') (H.eraseIdx i)):PJ C Q e E D G L H:=
 λa W hN hD hF hS=>k W hS a W hN hD hF ((hS.lessL hs).dropAt hi hb).snap
theorem PJ.resnap0(hs:∀w∈L',w∈L)(k:∀W,St G L H W->PJ C Q e E D G (W::L') H):PJ C Q e E D G L H:=
 λa W hN hD hF hS=>k W hS a W hN hD hF (hS.lessL hs).snap
variable {c:Code}
theorem CJ.resnap0(hs:∀w∈L',w∈L)(k:∀W,St G L H W->CJ C c Q E D G (W::L') H):CJ C c Q E D G L H:=
 λa W hN hD hF hS=>k W hS a W hN hD hF (hS.lessL hs).snap
end
end Px
