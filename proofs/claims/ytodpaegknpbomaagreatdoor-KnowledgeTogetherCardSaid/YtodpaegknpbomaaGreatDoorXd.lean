/- Memory, operations, iterators, slices, maps. No condition beyond those stated. -/
import Derived.Test.YtodpaegknpbomaaGreatDoorXc
import Derived.Maps.RangeRun
import Derived.WideKeyRuns
import Derived.Sort.Grow
import Derived.Deep.Draws
set_option linter.unusedSimpArgs false
set_option linter.unusedVariables false
set_option linter.unusedSectionVars false
set_option linter.unnecessarySimpa false
set_option maxRecDepth 20000
set_option maxHeartbeats 8000000
namespace Px
open Go Go.RowKit
/-! ### maps from numbers to values -/
section
variable {β:Type}
variable {aC:Array Edge} {cs:Array Value} {c:Code} {R:Ending->World->Prop} {e:Exit} {I1 X1:aE->World->Prop} {fn:Func} {G:Gh} {k:Int} {bs js:List Nat} {sp:List Value} {L L':List World} {b et i kt n t:Nat} {g:Option (Nat×Bool)} {a:Option Addr} {P:Program} {pos:String} {zv:Value} {v:Value->Value} {W w:World} {I:World->Prop}
theorem ngk{l:List Nat}(h:l.Nodup){j:Nat}(hi:i<l.length)(hj:j<l.length)(e:l[i]=l[j]):i=j:=by grind [List.Nodup,List.pairwise_iff_getElem]
def fO (k:Int):List (Int×β)->Nat->Option (Nat×β)
 | [],_=>none
 |p::l,i=>if p.1=k then some (i,p.2)else fO k l (i+1)
def bU (l:List (Int×β)) (k:Int):Option β:=(fO k l 0).map (·.2)
def dD (l:List (Int×β)) (k:Int) (v:β):List (Int×β):=match fO k l 0 with|some (i,_)=>l.set i (k,v)|none=>l++[(k,v)]
def jq (l:List (Int×β)) (k:Int):List (Int×β):=match fO k l 0 with|some (i,_)=>l.eraseIdx i|none=>l
theorem nDi(k:Int):∀(l:List (Int×β)) (i j:Nat),fO k l (i+j)=(fO k l i).map λp=>(p.1+j,p.2)
 | [],_,_=>rfl
 |p::l,i,j=>by
  unfold fO;split
  ·rfl
  rw[show i+j+1=i+1+j by omega];exact nDi k l (i+1) j
theorem nJg(k:Int)(l:List (Int×β)):fO k l 1=(fO k l 0).map λp=>(p.1+1,p.2):=by
 have:=nDi k l 0 1;simpa using this
theorem n5e{k:Int}:∀{l:List (Int×β)} {i:Nat} {v:β},fO k l 0=some (i,v)->l[i]? =some (k,v)
 | [],_,_,h=>by simp[fO]at h
 |p::l,i,v,h=>by
  unfold fO at h;split at h
  ·rename_i e;simp at h;obtain⟨rfl,rfl⟩:=h;subst e;simp
  rw[nJg]at h;obtain⟨q,hq,e⟩:=AF.1 h;obtain⟨j,u⟩:=q;simp at e;obtain⟨rfl,rfl⟩:=e;simpa using n5e hq
theorem nCg:∀{l:List (Int×β)} {i:Nat},fO k l i=none↔k∉l.map (·.1):=
 by intro x;induction x<;>(intros;grind [fO])
theorem nEk{l:List (Int×β)}:bU l k=none↔k∉l.map (·.1):=by
 unfold bU;rw[Option.map_eq_none_iff];exact nCg
theorem LX(p:Int×β)(l:List (Int×β))(k:Int):bU (p::l) k=if p.1=k then some p.2 else bU l k:=by
 unfold bU;conv=>lhs;rw[fO]
 split
 ·rfl
 rw[nJg];cases fO k l 0<;>rfl
theorem HZ(l l':List (Int×β))(k:Int):bU (l++l') k=(bU l k).or (bU l' k):=by induction l<;>grind [bU,fO,LX]
theorem G1(l:List (Int×β))(k:Int)(v:β)(j:Int):bU (dD l k v) j=if j=k then some v else bU l j:=by
 unfold dD;cases hi:fO k l 0 with
 |none=>
  simp only;rw[HZ,LX];have h1:=nCg.1 hi;by_cases e:j=k
  ·subst e;rw[nEk.2 h1];simp
  rw[if_neg e,if_neg (λx=>e x.symm)];cases bU l j<;>simp[bU,fO]
 |some q=>
  obtain⟨i,u⟩:=q;simp only;induction l generalizing i with
  |nil=>simp[fO]at hi
  |cons p l ih=>
   unfold fO at hi;split at hi
   ·rename_i e;simp at hi;obtain⟨rfl,rfl⟩:=hi;simp only[dm];rw[LX,LX,e];exact zRh
   rename_i e;rw[nJg]at hi;obtain⟨q,hq,e3⟩:=AF.1 hi;obtain⟨j',u'⟩:=q;simp at e3;obtain⟨rfl,rfl⟩:=e3;simp only[dX];rw[LX,LX,ih j' hq];by_cases e2:j=k
   ·simp[e2,e]
   simp[e2]
theorem nHp(l:List (Int×β))(k:Int)(v:β):(dD l k v).map (·.1)=if k∈l.map (·.1)then l.map (·.1)else l.map (·.1)++[k]:=by
 unfold dD;cases hi:fO k l 0 with
 |none=>rw[if_neg (nCg.1 hi)];simp
 |some q=>
  obtain⟨i,u⟩:=q;have h1:=n5e hi;exact zOg
theorem nvi{l:List (Int×β)}{v:β}(h:(l.map (·.1)).Nodup):((dD l k v).map (·.1)).Nodup:=by grind [nHp]
theorem nOh(l:List (Int×β))(k:Int):(jq l k).Sublist l:=by grind [jq]
theorem nxo{l:List (Int×β)}(h:(l.map (·.1)).Nodup):((jq l k).map (·.1)).Nodup:=(((nOh l k).map (·.1)).nodup h)
structure Mp where
 bs:List Nat
 c:Nat
def oJ (ev:β->Value) (l:List (Int×β)) (bs:List Nat):List MapEntry:=(l.zip bs).map λp=>{key:=.int .i64 p.1.1,val:=ev p.1.2,born:=p.2}
def Mp.obj (ev:β->Value) (l:List (Int×β)) (m:Mp):Obj:=.map (oJ ev l m.bs).toArray m.c
structure Mp.Ok (l:List (Int×β)) (m:Mp):Prop where
 len:m.bs.length=l.length
 lt:∀b∈m.bs,b<m.c
 nd:m.bs.Nodup
 keys:(l.map (·.1)).Nodup
theorem T9{ev:β->Value}{l:List (Int×β)}(h:bs.length=l.length)(i:Nat):(oJ ev l bs)[i]? =(l[i]?).map λp=>{key:=.int .i64 p.1,val:=ev p.2,born:=bs.getD i 0}:=by grind [oJ]
theorem nui(ev:β->Value)(k:Int):∀(l:List (Int×β)) (bs:List Nat) (i:Nat),bs.length=l.length->Instr.findNow (.int .i64) (.int .i64 k) (oJ ev l bs) i=some ((fO k l i).map λp=>(p.1,ev p.2))
 | [],_,_,_=>rfl
 |p::l,[],_,h=>by simp at h
 |p::l,b::bs,i,h=>by
  have ih:=nui ev k l bs (i+1) Bj;simp only[oJ,List.zip_cons_cons,dy,Instr.findNow,Instr.sameNow,if_true]at ih ⊢;unfold fO;by_cases e:p.1=k
  ·rw[if_pos e,show(k==p.1)=true by simp[e]];rfl
  rw[if_neg e,show(k==p.1)=false by simp;exact λx=>e x.symm];exact ih
theorem nOf(hK:P.underlying kt=some (.int .i64))(ev:β->Value)(k:Int){l:List (Int×β)}(h:bs.length=l.length):(Instr.findKey kt (.int .i64 k) (oJ ev l bs)).run P W= .ok ((fO k l 0).map λp=>(p.1,ev p.2)) W:=by
 simp[Instr.findKey,run_underlying hK,nui ev k l bs 0 h]
end
section
variable {C:Cx} {Q:aY} {E:Env} {D:List Deferred} {G:Gh} {L:List World} {H:ad} {ops:Array Oper} {l:List Oper}
variable {d T ty:Nat} {pos:String} {aC:Array Edge} {g:Option (Nat×Bool)} {x y z:Operand}
variable {β:Type} {ev:β->Value} {kv:List (Int×β)} {m:Mp}
theorem Mp.nil:(Mp.mk [] 0).Ok ([]:List (Int×β)):=⟨rfl,by simp,by simp,by simp⟩
theorem Mp.nil_obj:(Mp.mk [] 0).obj ev []= .map #[] 0:=rfl
variable {k:Int} {b et kt:Nat} {P:Program} {zv:Value} {W:World}
theorem nwi(c:Bool)(hU:P.underlying T=some (.map kt et))(hK:P.underlying kt=some (.int .i64))(hz:Ab P et zv)(hm:m.Ok kv)(hb:W.heap[b]? =some (m.obj ev kv)):(Instr.lookup T (.map (some b)) (.int .i64 k) c).run P W= .ok (if c then .tuple #[((bU kv k).map ev).getD zv,.bool (bU kv k).isSome]else((bU kv k).map ev).getD zv) W:=by
 have eH:W.heap[b]? =some (.map (oJ ev kv m.bs).toArray m.c):=hb;have h1:=nOf (P:=P) (W:=W) hK ev k hm.len;have e:bU kv k=(fO k kv 0).map (·.2):=rfl;cases hi:fO k kv 0 with
 |none=>
  rw[hi]at h1;have e1:bU kv k=none:=by rw[e,hi];rfl
  cases c<;>simp[Instr.lookup,run_underlying hU,HX eH,VO hK,h1,hz W,e1]
 |some q=>
  rw[hi]at h1;have e1:bU kv k=some q.2:=by rw[e,hi];rfl
  cases c<;>simp[Instr.lookup,run_underlying hU,HX eH,VO hK,h1,e1]
theorem qz(hU:C.P.underlying T=some (.map kt et))(hK:C.P.underlying kt=some (.int .i64))(hz:Ab C.P et zv)(hm:m.Ok kv)(hb:bB G L H b (m.obj ev kv))(hx:Px.ev E x=some (.map (some b)))(hy:Px.ev E y=some (.int .i64 k)):RV C G L H E (.lookup T x y true) (.tuple #[((bU kv k).map ev).getD zv,.bool (bU kv k).isSome]):=λd ty pos aC g a W hF hS=>by
 have:=nwi (W:=W) (k:=k) true hU hK hz hm (hb W hS);simp[execOp,hF.ev hx,hF.ev hy,this]
theorem mF(hU:C.P.underlying T=some (.map kt et))(hK:C.P.underlying kt=some (.int .i64))(hz:Ab C.P et zv)(hm:m.Ok kv)(hb:bB G L H b (m.obj ev kv))(hx:Px.ev E x=some (.map (some b)))(hy:Px.ev E y=some (.int .i64 k)):RV C G L H E (.lookup T x y false) (((bU kv k).map ev).getD zv):=λd ty pos aC g a W hF hS=>by
 have:=nwi (W:=W) (k:=k) false hU hK hz hm (hb W hS);simp[execOp,hF.ev hx,hF.ev hy,this]
variable {i:Nat}
theorem Ny{v:β}(hi:H[i]? =some (b,m.obj ev kv))(hm:m.Ok kv)(hU:C.P.underlying T=some (.map kt et))(hK:C.P.underlying kt=some (.int .i64))(hw:nl ops E g=some true)(hx:Px.ev E x=some (.map (some b)))(hy:Px.ev E y=some (.int .i64 k))(hz:Px.ev E z=some (ev v))(kk:∀m':Mp,m'.Ok (dD kv k v)->OJ C ops Q l E D G L (H.set i (b,m'.obj ev (dD kv k v)))):OJ C ops Q (⟨none,.mapUpdate T x y z,ty,pos,aC,g⟩::l) E D G L H:=by
 have h1:=λW:World=>nOf (P:=C.P) (W:=W) hK ev k hm.len;cases hk:fO k kv 0 with
 |none=>
  have e:dD kv k v=kv++[(k,v)]:=by unfold dD;rw[hk]
  have iF:(Mp.mk (m.bs++[m.c]) (m.c+1)).Ok (dD kv k v):=by
   refine⟨by rw[e];simp[hm.len],λb hb=>?_,?_,nvi hm.keys⟩
   ·exact zEh
   exact zqh
  refine MD rfl zI hw (λa W hF hS=>?_) (kk _ iF);have hb:=hS.own _ (cO hi);have hlt:b<W.heap.size:=(aT.1 hb).1;have eH:W.heap[b]? =some (.map (oJ ev kv m.bs).toArray m.c):=hb;refine⟨.skip,_,.inl rfl,?_,hS.put hi (I6 W b _) (World.putObj_heap_same hlt)⟩;have h2:=h1 W;rw[hk]at h2;have e2:((oJ ev kv m.bs).toArray.push {key:=.int .i64 k,val:=ev v,born:=m.c})=(oJ ev (dD kv k v) (m.bs++[m.c])).toArray:=by
   rw[e];apply Array.ext';simp only[oJ,Array.toList_push];rw[List.zip_append hm.len.symm];simp
  simp[execOp,hF.ev hx,hF.ev hy,hF.ev hz,Instr.mapUpdate,run_underlying hU,HX eH,VO hK,h2,VP _ eH,e2,Mp.obj]
 |some q=>
  obtain⟨j,u⟩:=q;have e:dD kv k v=kv.set j (k,v):=by unfold dD;rw[hk]
  have iF:m.Ok (dD kv k v):=⟨by rw[e];simp[hm.len],hm.lt,hm.nd,nvi hm.keys⟩;refine MD rfl zI hw (λa W hF hS=>?_) (kk _ iF);have hb:=hS.own _ (cO hi);have hlt:b<W.heap.size:=(aT.1 hb).1;have eH:W.heap[b]? =some (.map (oJ ev kv m.bs).toArray m.c):=hb;refine⟨.skip,_,.inl rfl,?_,hS.put hi (I6 W b _) (World.putObj_heap_same hlt)⟩;have h2:=h1 W;rw[hk]at h2;have h3:=n5e hk;have h4:=T9 (ev:=ev) hm.len j;rw[h3]at h4;have MJ:((((oJ ev kv m.bs).toArray[j]?).map (·.key)).getD (.int .i64 k))= .int .i64 k:=by simp[h4]
  have hs:Instr.sameBits 10000 (.int .i64 k) (.int .i64 k)=true:=by
   show Instr.sameBits (9999+1) _ _=true;generalize 9999=n;simp[Instr.sameBits]
  have e2:((oJ ev kv m.bs).toArray.modify j λen=>{en with key:=.int .i64 k,val:=ev v})=(oJ ev (dD kv k v) m.bs).toArray:=by
   rw[e];apply Array.ext';apply Co;intro i';simp only[Array.toList_modify,List.getElem?_modify];rw[T9 hm.len,T9 (by simp[hm.len]),a1q];exact zSh
  simp only[execOp,hF.ev hx,hF.ev hy,hF.ev hz,Instr.mapUpdate,Sem.run_bind,run_underlying hU,Result.andThen,HX eH,VO hK,h2,JP,MJ,Instr.keyThatStays,hs,if_true,Sem.run_pure,VP _ eH,e2];rfl
theorem Xx{kt':Nat}{d:Option Nat}(hd:d=none)(hi:H[i]? =some (b,m.obj ev kv))(hm:m.Ok kv)(hU:C.P.underlying T=some (.map kt et))(hK:C.P.underlying kt=some (.int .i64))(hw:nl ops E g=some true)(hx:Px.ev E x=some (.map (some b)))(hy:Px.ev E y=some (.int .i64 k))(kk:∀m':Mp,m'.Ok (jq kv k)->OJ C ops Q l E D G L (H.set i (b,m'.obj ev (jq kv k)))):OJ C ops Q (⟨d,.call ⟨.builtin .delete,#[x,y],#[T,kt']⟩,ty,pos,aC,g⟩::l) E D G L H:=by
 subst hd;have h1:=λW:World=>nOf (P:=C.P) (W:=W) hK ev k hm.len;cases hk:fO k kv 0 with
 |none=>
  have e:jq kv k=kv:=by unfold jq;rw[hk]
  have iF:m.Ok (jq kv k):=by rw[e];exact hm
  refine MD rfl zI hw (λa W hF hS=>?_) (kk _ iF);have hb:=hS.own _ (cO hi);have hlt:b<W.heap.size:=(aT.1 hb).1;have eH:W.heap[b]? =some (.map (oJ ev kv m.bs).toArray m.c):=hb;refine⟨.value (.tuple #[]),_,.inr ⟨_,rfl⟩,?_,hS.put hi (I6 W b _) (World.putObj_heap_same hlt)⟩;have h2:=h1 W;rw[hk]at h2;simp[execOp,hF.ev hx,hF.ev hy,resolve,invoke,Deferred.ofValue,builtin,Builtin.delete_,run_underlying hU,HX eH,VO hK,h2,VP _ eH,e,Mp.obj]
 |some q=>
  obtain⟨j,u⟩:=q;have e:jq kv k=kv.eraseIdx j:=by unfold jq;rw[hk]
  have hj:=(iv.1 (n5e hk)).1;have iF:(Mp.mk (m.bs.eraseIdx j) m.c).Ok (jq kv k):=by
   refine⟨by rw[e,List.length_eraseIdx_of_lt hj,List.length_eraseIdx_of_lt (by rw[hm.len];exact hj),hm.len],λb hb=>hm.lt b (List.mem_of_mem_eraseIdx hb),(List.eraseIdx_sublist _ _).nodup hm.nd,nxo hm.keys⟩
  refine MD rfl zI hw (λa W hF hS=>?_) (kk _ iF);have hb:=hS.own _ (cO hi);have hlt:b<W.heap.size:=(aT.1 hb).1;have eH:W.heap[b]? =some (.map (oJ ev kv m.bs).toArray m.c):=hb;refine⟨.value (.tuple #[]),_,.inr ⟨_,rfl⟩,?_,hS.put hi (I6 W b _) (World.putObj_heap_same hlt)⟩;have h2:=h1 W;rw[hk]at h2;have hz:∀(l:List (Int×β)) (bs:List Nat) (j:Nat),(l.zip bs).eraseIdx j=(l.eraseIdx j).zip (bs.eraseIdx j):=by
   intro l;induction l with
   |nil=>intro bs j;simp
   |cons p l ih=>
    intro bs j;cases bs with
    |nil=>simp
    |cons b bs=>cases j with
     |zero=>simp
     |succ j=>simp[ih]
  have e2:(oJ ev kv m.bs).eraseIdx j=oJ ev (jq kv k) (m.bs.eraseIdx j):=by
   rw[e];simp only[oJ];rw[<-hz,ChangeMaps.map_eraseIdx]
  simp[execOp,hF.ev hx,hF.ev hy,resolve,invoke,Deferred.ofValue,builtin,Builtin.delete_,run_underlying hU,HX eH,VO hK,h2,VP _ eH,e2,Mp.obj]
def Mp.it (b:Nat) (m:Mp) (js:List Nat):Obj:=.mapIter (some b) m.c (js.map λj=>m.bs.getD j 0).toArray m.c
theorem afV(hU:C.P.underlying T=some (.map kt et))(hb:bB G L H b (m.obj ev kv))(hw:nl ops E g=some true)(hN:Nat.blt d C.N=true)(hx:Px.ev E x=some (.map (some b)))(k:∀rb:Nat,ae L rb->bA H rb->OJ C ops Q l ((d,ptr rb 0)::E) D G L ((rb,m.it b [])::H)):OJ C ops Q (⟨some d,.range T x,ty,pos,aC,g⟩::l) E D G L H:=
 qH zI hw hN λa W hF hS=>by
  have eH:W.heap[b]? =some (.map (oJ ev kv m.bs).toArray m.c):=hb W hS;refine⟨_,_,_,_,?_,hS.alloc (m.it b []),k W.heap.size hS.sizes hS.offNew⟩;have:=run_range_map (P:=C.P) W T kt et b _ _ hU eH;simp[execOp,hF.ev hx,this,Mp.it]
theorem XB(hU:C.P.underlying T=some (.map kt et))(hw:nl ops E g=some true)(hN:Nat.blt d C.N=true)(hx:Px.ev E x=some (.map none))(k:∀rb:Nat,ae L rb->bA H rb->OJ C ops Q l ((d,ptr rb 0)::E) D G L ((rb,.mapIter none 0 #[] 0)::H)):OJ C ops Q (⟨some d,.range T x,ty,pos,aC,g⟩::l) E D G L H:=
 qH zI hw hN λa W hF hS=>by
  refine⟨_,_,_,_,?_,hS.alloc (.mapIter none 0 #[] 0),k W.heap.size hS.sizes hS.offNew⟩;have:=run_range_nilMap (P:=C.P) W T kt et hU;simp[execOp,hF.ev hx,this]
theorem P5{rb:Nat}(hi:H[i]? =some (rb,.mapIter none 0 #[] 0))(hw:nl ops E g=some true)(hN:Nat.blt d C.N=true)(hx:Px.ev E x=some (ptr rb 0))(k:OJ C ops Q l ((d,.tuple #[.bool false])::E) D G L H):OJ C ops Q (⟨some d,.next x false,ty,pos,aC,g⟩::l) E D G L H:=
 qH zI hw hN λa W hF hS=>by
  have hr:=hS.own _ (cO hi);refine⟨_,W,L,H,?_,hS,k⟩;simp[execOp,hF.ev hx,Instr.next,getObj,Sem.run,hr]
variable {js:List Nat}
theorem XA{rb:Nat}(hi:H[i]? =some (rb,m.it b js))(hm:m.Ok kv)(hb:bB G L H b (m.obj ev kv))(pI:∀j∈js,j<kv.length)(hw:nl ops E g=some true)(hN:Nat.blt d C.N=true)(hx:Px.ev E x=some (ptr rb 0))(k1:(∀j,j<kv.length->j∈js)->OJ C ops Q l ((d,.tuple #[.bool false])::E) D G L H)(k2:∀(j:Nat) (p:Int×β),kv[j]? =some p->j∉js->OJ C ops Q l ((d,.tuple #[.bool true,.int .i64 p.1,ev p.2])::E) D G L (H.set i (rb,m.it b (js++[j])))):OJ C ops Q (⟨some d,.next x false,ty,pos,aC,g⟩::l) E D G L H:=
 qH zI hw hN λa W hF hS=>by
  have hr:W.heap[rb]? =some (.mapIter (some b) m.c (js.map λj=>m.bs.getD j 0).toArray m.c):=hS.own _ (cO hi);have eH:W.heap[b]? =some (.map (oJ ev kv m.bs).toArray m.c):=hb W hS;have hlt:rb<W.heap.size:=(aT.1 hr).1;have H2:∀e∈(oJ ev kv m.bs).toArray.toList,e.born<m.c:=by
   intro e he;obtain⟨j,hj⟩:=kA.1 he;simp only at hj;rw[T9 hm.len]at hj;exact z4g
  have VQ:∀j,j<kv.length->((js.map λj=>m.bs.getD j 0).toArray.contains (m.bs.getD j 0)=true↔j∈js):=by
   exact zjg
  have hex:∀{v W'},(Instr.next (.pointer (some ⟨rb,0,none⟩)) false ty).run C.P W= .ok v W'->(execOp a.eval ⟨some d,.next x false,ty,pos,aC,g⟩).run C.P W= .ok (.value v) W':=by
   intro v W' hh;simp[execOp,hF.ev hx,hh]
  rcases run_next_at (P:=C.P) W ty rb b m.c m.c _ _ m.c hr eH H2 (ak _)with⟨h0,fY⟩|⟨e,he,W1,OY,fY⟩
  ·refine⟨_,W,L,H,hex fY,hS,k1 λj hj=>?_⟩;apply(VQ j hj).1;apply Decidable.byContradiction;intro hn;have fB:=T9 (ev:=ev) hm.len j;rw[kK hj]at fB;have ko:=cO fB;have:(leftOf (oJ ev kv m.bs).toArray (js.map λj=>m.bs.getD j 0).toArray)=#[]:=Array.eq_empty_of_size_eq_zero h0;exact zWg
  unfold leftOf at he;rw[Array.toList_filter,uU]at he;obtain⟨cF,bV⟩:=he;obtain⟨j,hj⟩:=kA.1 cF;simp only at hj;rw[T9 hm.len]at hj;obtain⟨p,hp,rfl⟩:=AF.1 hj;have Cn:=(iv.1 hp).1;have hn:j∉js:=λh=>by
   exact z8g
  have lR:St G L H W1:=by
   rcases OY with rfl|rfl
   ·exact hS
   exact hS.step (D2 W _)
  have HL:rb<W1.heap.size:=(aT.1 (lR.own _ (cO hi))).1;have Cc:=lR.put hi (I6 W1 rb (m.it b (js++[j]))) (World.putObj_heap_same HL);refine⟨_,_,L,_,hex fY,?_,k2 j p hp hn⟩;have e1:ChangeMaps.setBlock W1 rb (.mapIter (some b) m.c ((js.map λj=>m.bs.getD j 0).toArray.push (m.bs.getD j 0)) m.c)=W1.putObj rb (m.it b (js++[j])):=by
   simp[ChangeMaps.setBlock,World.putObj,Mp.it]
  rw[e1];exact Cc
theorem P4{rb j:Nat}{p:Int×β}(hi:H[i]? =some (rb,m.it b (js++[j])))(hm:m.Ok kv)(hb:bB G L H b (m.obj ev kv))(hp:kv[j]? =some p)(hx:Px.ev E x=some (ptr rb 0)):RV C G L H E (.entry x) (.tuple #[.int .i64 p.1,ev p.2]):=λd ty pos aC g a W hF hS=>by
 have hr:W.heap[rb]? =some (.mapIter (some b) m.c (((js++[j]).map λj=>m.bs.getD j 0).toArray) m.c):=hS.own _ (cO hi);have eH:W.heap[b]? =some (.map (oJ ev kv m.bs).toArray m.c):=hb W hS;have fB:=T9 (ev:=ev) hm.len j;rw[hp]at fB;have hnd:((oJ ev kv m.bs).toArray.toList.map (·.born)).Nodup:=by
  have:(oJ ev kv m.bs).toArray.toList.map (·.born)=m.bs:=by
   simp only[oJ,List.map_map];rw[show((λx:MapEntry=>x.born)∘λp:(Int×β)×Nat=>({key:=.int .i64 p.1.1,val:=ev p.1.2,born:=p.2}:MapEntry))=Prod.snd from rfl];rw[List.map_snd_zip];exact Nat.le_of_eq hm.len
  rw[this];exact hm.nd
 exact zbh
theorem J4(ev:β->Value)(hw:nl ops E g=some true)(hN:Nat.blt d C.N=true)(k:∀(b:Nat),ae L b->bA H b->OJ C ops Q l ((d,.map (some b))::E) D G L ((b,(Mp.mk [] 0).obj ev [])::H)):OJ C ops Q (⟨some d,.makeMap T none,ty,pos,aC,g⟩::l) E D G L H:=
 qH zI hw hN λa W _ hS=>⟨.map (some W.heap.size),W.alloc ((Mp.mk [] 0).obj ev []),_,_,by simp[execOp,Instr.makeMap,Mp.nil_obj],hS.alloc _,k W.heap.size hS.sizes hS.offNew⟩
end
section
variable {C:Cx} {Q:aY} {E:Env} {D:List Deferred} {G:Gh} {L:List World} {H H0 H1:ad} {ops:Array Oper} {l:List Oper}
variable {d ty f:Nat} {pos:String} {aC:Array Edge} {g:Option (Nat×Bool)} {xo:List Operand} {vs:List Value} {eC:Array Nat}
variable {β:Type} {ev:β->Value} {kv:List (Int×β)}
def D9 (w:World) (ev:β->Value) (kv:List (Int×β)) (v:Value->Value):Ending->World->Prop:=λe w'=>
 ∃(b:Nat) (m:Mp),e= .returned (v (.map (some b)))/\Below w.heap.size w w'/\w.heap.size<=b/\m.Ok kv/\w'.heap[b]? =some (m.obj ev kv)
variable {v:Value->Value}
theorem nti(az:ew C.P f)(hw:nl ops E g=some true)(hN:Nat.blt d C.N=true)(ha:ja E xo=some vs)(hc:∀W,St G L H W->Calls C.P f vs.toArray W (D9 W ev kv v))(k:∀(b:Nat) (m:Mp),ae L b->bA H b->m.Ok kv->OJ C ops Q l ((d,v (.map (some b)))::E) D G L ((b,m.obj ev kv)::H)):OJ C ops Q (⟨some d,.call ⟨.value (.func f),xo.toArray,eC⟩,ty,pos,aC,g⟩::l) E D G L H:=
 nI rfl hw rfl ha zI az λa W jb hD hF hS=>(hc W hS).mono (by
  rintro ed W' ⟨b,m,rfl,hb,jE,hm,fB⟩;exact k b m (CP hS jE) (CW hS jE) hm (a.put (some d) (v (.map (some b)))) W' z6 z4 (hF.put _ z5) ((hS.step hb).adopt fB (CW hS jE) (λhv=>by have:=hS.vlt _ hv;omega)))
variable {e:Exit} {fn:Func} {b i:Nat} {w:World}
theorem Xv{rs:List ResultVar}{us:List Value}{m:Mp}(he:e= .ret\/e= .normal)(hr:fn.results=rs.toArray)(h:RS C Gh.no L H E rs us)(hw:w∈L)(ho:Over w.heap.size H)(hv:Ma us=v (.map (some b)))(hm:m.Ok kv)(hi:H[i]? =some (b,m.obj ev kv)):PJ C (bodyPost C.P fn (D9 w ev kv v)) e E [] Gh.no L H:=
 bK he hr h λW hS=>⟨b,m,by rw[hv],hS.base hw ho,ho.mem _ (cO hi),hm,hS.own _ (cO hi)⟩
variable {t:Nat}
theorem UG{α:Type}{enc:α->List Value}{m:Nat}{Fin:List α->Prop}(az:ew C.P f)(hw:nl ops E g=some true)(hN:Nat.blt d C.N=true)(ha:ja E xo=some vs)(hc:∀W,St G L H W->Calls C.P f vs.toArray W (λe w'=>∃xs,Fin xs/\aD W enc m t xs v e w'))(k:∀(xs:List α) (r:Rw),Fin xs->r.Fr G L->r.Fit m xs->OJ C ops Q l ((d,v (r.val xs.length))::E) D G L (r.hp enc t xs++H)):OJ C ops Q (⟨some d,.call ⟨.value (.func f),xo.toArray,eC⟩,ty,pos,aC,g⟩::l) E D G L H:=
 nI rfl hw rfl ha zI az λa W jb hD hF hS=>(hc W hS).mono (by
  rintro ed W' ⟨xs,dO,r,rfl,hb,jE,bM,fB⟩;refine k xs r dO ?_ bM (a.put (some d) (v (r.val xs.length))) W' z6 z4 (hF.put _ z5) ?_
  ·cases r with
   |nil=>trivial
   |row b cap sp=>exact Fr.up hS jE
  cases r with
  |nil=>exact hS.step hb
  |row b cap sp=>exact(hS.step hb).adopt fB (CW hS jE) (λhv=>by have:=hS.vlt _ hv;have:W.heap.size<=b:=jE;omega))
theorem n1i{γ:Type}{o:Obj}{v:γ->Value}{ob:γ->Obj}{Φ:γ->Prop}{x:Operand}{first cap:List Value}(hi:H[i]? =some (b,o))(hx:Px.ev E x=some (.func (.func f) first.toArray cap.toArray))(az:ew C.P f)(hw:nl ops E g=some true)(hN:Nat.blt d C.N=true)(ha:ja E xo=some vs)(hc:∀W,St G L H W->W.heap[b]? =some o->Calls C.P f (first++vs++cap).toArray W (λe w'=>∃y,e= .returned (v y)/\aH (· =b) W w'/\Φ y/\w'.heap[b]? =some (ob y)))(k:∀y,Φ y->OJ C ops Q l ((d,v y)::E) D G L (H.set i (b,ob y))):OJ C ops Q (⟨some d,.call ⟨.value x,xo.toArray,eC⟩,ty,pos,aC,g⟩::l) E D G L H:=
 nI rfl hw hx ha zI az λa W jb hD hF hS=>(hc W hS (hS.own _ (cO hi))).mono (by
  rintro ed W' ⟨y,rfl,hk,hP,fB⟩;exact k y hP (a.put (some d) (v y)) W' z6 z4 (hF.put _ z5) (hS.put hi hk fB))
variable {n:Nat} {a:Option Addr}
theorem ai.blk{α:Type}{enc:α->Array Value}{N N':Nat}{w':World}{xs:List α}(h:ai enc n N w a xs)(hw:∀b off,a=some ⟨b,off,none⟩->b<N->b<N'/\w'.heap[b]? =w.heap[b]?):ai enc n N' w' a xs:=by
 rcases h with h|⟨b,off,cs,t,fr,h1,h2,h3,h4⟩
 ·exact .inl h
 obtain⟨g1,g2⟩:=hw b off h1 h2;exact .inr ⟨b,off,cs,t,fr,h1,g1,g2.trans h3,h4⟩
def NB {α:Type} (w:World) (ev:β->Value) (kv:List (Int×β)) (enc:α->List Value) (n:Nat) (ds:List α) (v:Value->Value->Value):Ending->World->Prop:=λe w'=>
 ∃(b:Nat) (m:Mp) (a:Option Addr) (cp:Nat),e= .returned (v (.map (some b)) (.slice a ds.length cp))/\Below w.heap.size w w'/\w.heap.size<=b/\m.Ok kv/\w'.heap[b]? =some (m.obj ev kv)/\ai (λx=>(enc x).toArray) n w'.heap.size w' a ds/\∀q,a=some q->w.heap.size<=q.block/\q.block≠b
theorem nai{α:Type}{enc:α->List Value}{ds:List α}{v:Value->Value->Value}(az:ew C.P f)(hw:nl ops E g=some true)(hN:Nat.blt d C.N=true)(ha:ja E xo=some vs)(hc:∀W,St G L H W->Calls C.P f vs.toArray W (NB W ev kv enc n ds v))(k:∀(b:Nat) (m:Mp) (a:Option Addr) (cp:Nat) (W w1:World),St G L H W->Below W.heap.size W w1->W.heap.size<=b->b<w1.heap.size->ae L b->bA H b->m.Ok kv->ai (λx=>(enc x).toArray) n w1.heap.size w1 a ds->(∀q,a=some q->W.heap.size<=q.block/\q.block≠b)->OJ C ops Q l ((d,v (.map (some b)) (.slice a ds.length cp))::E) D G (w1::L) ((b,m.obj ev kv)::H)):OJ C ops Q (⟨some d,.call ⟨.value (.func f),xo.toArray,eC⟩,ty,pos,aC,g⟩::l) E D G L H:=
 nI rfl hw rfl ha zI az λac W jb hD hF hS=>(hc W hS).mono (by
  rintro ed W' ⟨b,m,a,cp,rfl,hb,jE,hm,fB,aJ,hne⟩;refine k b m a cp W W' hS hb jE (aT.1 fB).1 (CP hS jE) (CW hS jE) hm aJ hne (ac.put (some d) (v (.map (some b)) (.slice a ds.length cp))) W' z6 z4 (hF.put _ z5) ?_;exact((hS.step hb).snap.adopt fB (CW hS jE) (λhv=>by have:=hS.vlt _ hv;omega)))
theorem OJ.perm{H':ad}(hp:H.Perm H')(k:OJ C ops Q l E D G L H'):OJ C ops Q l E D G L H:=λa W hN hD hF hS=>k a W hN hD hF (hS.perm hp)
theorem PJ.perm{H':ad}(hp:H.Perm H')(k:PJ C Q e E D G L H'):PJ C Q e E D G L H:=λa W hN hD hF hS=>k a W hN hD hF (hS.perm hp)
theorem UI{α:Type}{enc:α->List Value}{m:Nat}{xs:List α}{fv:Operand}{first cap:List Value}(hx:Px.ev E fv=some (.func (.func f) first.toArray cap.toArray))(az:ew C.P f)(hw:nl ops E g=some true)(hN:Nat.blt d C.N=true)(ha:ja E xo=some vs)(hc:∀W,St G L H W->Calls C.P f (first++vs++cap).toArray W (aD W enc m t xs v))(k:∀r:Rw,r.Fr G L->r.Fit m xs->OJ C ops Q l ((d,v (r.val xs.length))::E) D G L (H++(r.hp enc t xs++[]))):OJ C ops Q (⟨some d,.call ⟨.value fv,xo.toArray,eC⟩,ty,pos,aC,g⟩::l) E D G L H:=
 It hx az hw hN ha hc λr h1 h2=>OJ.perm Yr (k r h1 h2)
end
/-! ### loops whose rounds lay marks; ranges inside of iterators -/
section
variable {C:Cx} {Q:aY} {E:Env} {D:List Deferred} {G:Gh} {L:List World} {H:ad}
def H3 {α:Type} (C:Cx) (Di:α->List Deferred) (Ei:α->Env) (Hi:α->ad) (Li:α->List World) (Gi:α->Gh) (ok:α->Prop) (μ:α->Nat) (x:α):Act->World->Prop:=λa W=>
 ∃x',ok x'/\μ x'<μ x/\a.tmps.size=C.N/\a.defers=Di x'/\Fits (Ei x') a/\St (Gi x') (Li x') (Hi x') W
variable {c:Code}
theorem CJ.loopD{α:Type}(Di:α->List Deferred)(Ei:α->Env)(Hi:α->ad)(Li:α->List World)(Gi:α->Gh)(ok:α->Prop)(μ:α->Nat)(x0:α)(h0:ok x0)(hE:Sub (Ei x0) E)(hH:Hi x0=H)(hG:Gi x0=G)(hL:∀w∈Li x0,w∈L)(hDi:Di x0=D)(round:∀x,ok x->CJ C c (Exit.then (H3 C Di Ei Hi Li Gi ok μ x) Q) (Ei x) (Di x) (Gi x) (Li x) (Hi x)):CJ C (.loop c) Q E D G L H:=by
 intro a W hN hD hF hS;subst hH;subst hG;subst hDi
 let Inv:Act->World->Nat->Prop:=λa W m=>∃x,μ x=m/\ok x/\a.tmps.size=C.N/\a.defers=Di x/\Fits (Ei x) a/\St (Gi x) (Li x) (Hi x) W
 refine wpIn_loop (λa W=>∃m,Inv a W m) (λa W=>TN (Inv a W)) ⟨_,x0,rfl,h0,hN,hD,hE.fits hF,hS.lessL hL⟩ ?_;exact z7f
theorem nUo{α:Type}{Di:α->List Deferred}{Ei:α->Env}{Hi:α->ad}{Li:α->List World}{Gi:α->Gh}{ok:α->Prop}{μ:α->Nat}{x:α}(x':α)(h0:ok x')(hlt:μ x'<μ x)(hE:Sub (Ei x') E)(hH:Hi x'=H)(hG:Gi x'=G)(hL:∀w∈Li x',w∈L)(hDi:Di x'=D):PJ C (Exit.then (H3 C Di Ei Hi Li Gi ok μ x) Q) .normal E D G L H:=by
 intro a W hN hD hF hS;subst hH;subst hG;subst hDi;exact⟨x',h0,hlt,hN,hD,hE.fits hF,hS.lessL hL⟩
abbrev Mk:=Nat×Loop×Nat
def sI (ms:List Mk):ad:=ms.flatMap λq=>[(q.1,.loop q.2.1),(q.2.2,.deferred (some []))]
def mkD (ms:List Mk):List Deferred:=ms.map λq=>kW q.2.2
theorem nkm(l Dk:Nat)(rec:Loop)(ms:List Mk)(H:ad):(book (H++sI ms) l rec (fG Dk)).Perm (H++sI ((l,rec,Dk)::ms)):=by
 simp only[book,sI,Uy,iY];refine List.Perm.append_left H ?_;exact List.perm_append_comm
variable {ms:List Mk}
theorem MW:∀k∈ms.map (·.2.2),(k,.deferred (some []))∈sI ms:=by
 intro k hk;obtain⟨q,hq,rfl⟩:=bW.1 hk;exact OC.2 ⟨q,hq,by simp⟩
theorem Ua(ms:List Mk):mkD ms=(ms.map (·.2.2)).map kW:=by simp[mkD]
def BG (n:Nat) (ms:List Mk):Prop:=∀q∈ms,n<=q.1/\n<=q.2.2
variable {n:Nat}
theorem XT(h:BG n ms):∀p∈sI ms,n<=p.1:=by
 intro p hp;obtain⟨q,hq,hp⟩:=OC.1 hp;have:=h q hq;all_goals grind
theorem nwn{k:Nat}(h:BG n ms)(hk:k<n):bA (sI ms) k:=bA.of_mem λhm=>by
 obtain⟨p,hp,e⟩:=bW.1 hm;have:=XT h p hp;omega
variable {W:World}
theorem npp{H:ad}(hS:St G L (H++sI ms) W):(ms.map (·.2.2)).Nodup:=by
 have h:=(nY _).1 hS.nodup;rw[gz,List.nodup_append]at h;have h2:=h.2.1;clear h hS;induction ms with
 |nil=>simp
 |cons q ms ih=>
  simp only[sI,Uy,ig,eL,dy,List.nodup_cons]at h2 ⊢;refine⟨λhm=>?_,ih h2.2.2⟩;obtain⟨q',hq',e⟩:=bW.1 hm;refine h2.2.1 (bW.2 ⟨(q'.2.2,.deferred (some [])),OC.2 ⟨q',hq',by simp⟩,e⟩)
variable {e:Exit} {fn:Func} {I:World->Prop}
theorem XR{W0:World}{MI RO M:aE}{hM:∀k,M k->k<W0.heap.size/\¬MI k/\¬RO k}{V:aE}{hI:fp (λk=>(k<W0.heap.size/\¬MI k)\/V k) I}{α:Type}{Fin:List α->Prop}{I':List α->aE->World->Prop}{X:aE->World->Prop}{H0:ad}(he:e= .ret\/e= .normal)(hr:fn.results=#[])(hw:W0∈L)(hV:∀k,V k->W0.heap.size<=k)(hH:∀k,k<W0.heap.size->k∈(H0++sI ms).map (·.1)->MI k)(h:∀A,I A->(∃xs,Fin xs/\I' xs V A)\/X V A):PJ C (bodyPostM (FW none) 0 C.P fn (λe W'=>(∃v,e= .returned v)/\aH (λk=>M k\/MI k) W0 W'/\∃V,(∃xs,Fin xs/\I' xs V W')\/X V W')) e E (mkD ms) (dt hM V hI) L (H0++sI ms):=by
 intro a W hN hD hF hS;have key:LeavesInM (FW none) 0 C.P fn a.tmps (λe W'=>(∃v,e= .returned v)/\aH (λk=>M k\/MI k) W0 W'/\∃V,(∃xs,Fin xs/\I' xs V W')\/X V W') a.defers .returning W:=
  nFg (Ds:=ms.map (·.2.2)) (by rw[hD,Ua]) hS (λk hk=>bj.2 (.inr (MW k hk))) (npp hS) (λW' H' gQ _ aQ=>by
   refine⟨_,results_none hr _ _ _,⟨_,rfl⟩,(gQ.links W0 hw).mono λk hk hx=>?_,V,h W' gQ.ghost⟩;rcases hx with(hx|hx)|hx
   ·exact .inl hx
   ·have:=hV k hx;omega
   rw[aQ]at hx;exact .inr (hH k hk hx))
 exact zGh
end
section
variable {C:Cx} {Q:aY} {E:Env} {D:List Deferred} {L:List World} {H:ad} {ops:Array Oper} {l:List Oper}
variable {d ty:Nat} {pos:String} {aC:Array Edge} {g:Option (Nat×Bool)} {x:Operand} {xs:List Operand} {vs:List Value} {eC:Array Nat}
variable {W0:World} {MI RO M:aE} {hM:∀k,M k->k<W0.heap.size/\¬MI k/\¬RO k}
variable {I1 X1:aE->World->Prop} {I:World->Prop}
theorem XU{y:Nat}(Z:aE)(T:Gh->Gh)(hT:∀G,(T G).M=G.M/\(T G).V=G.V/\(T G).R=G.R/\(T G).X=λk=>G.X k\/Z k){V:aE}{hI:fp (λk=>(k<W0.heap.size/\¬MI k)\/V k) I}(kX:∀V,fp (λk=>(k<W0.heap.size/\¬MI k)\/V k) (I1 V))(fT:∀V,fp (λk=>(k<W0.heap.size/\¬MI k)\/V k) (X1 V))(hV:∀k,V k->W0.heap.size<=k)(hw:nl ops E g=some true)(hN:Nat.blt d C.N=true)(hx:ev E x=some (yv y))(ha:ja E xs=some vs)(hy:∀W1,(∀k,V k->W0.heap.size<=k/\k<W1.heap.size)->I W1->Oi C.P y vs.toArray W1 (λb W2=>aH (λk=>M k\/V k) W1 W2/\(if b then I1 (qF V W1 W2) W2 else X1 (qF V W1 W2) W2)))(k1:∀V2,(∀k,V k->V2 k)->(∀w∈L,∀k,V2 k->V k\/w.heap.size<=k)->OJ C ops Q l ((d,.bool true)::E) D (T (dt hM V2 (kX V2))) L H)(k2:∀V2,(∀k,V k->V2 k)->(∀w∈L,∀k,V2 k->V k\/w.heap.size<=k)->OJ C ops Q l ((d,.bool false)::E) D (T (dt hM V2 (fT V2))) L H):OJ C ops Q (⟨some d,.call ⟨.value x,xs.toArray,eC⟩,ty,pos,aC,g⟩::l) E D (T (dt hM V hI)) L H:=by
 refine T7 (λG'=>∃V2,(∀k,V k->V2 k)/\(∀w∈L,∀k,V2 k->V k\/w.heap.size<=k)/\G'=T (dt hM V2 (kX V2))) (λG'=>∃V2,(∀k,V k->V2 k)/\(∀w∈L,∀k,V2 k->V k\/w.heap.size<=k)/\G'=T (dt hM V2 (fT V2))) hw hN hx ha (λW1 hS=>?_) (by rintro _ ⟨V2,h2,h3,rfl⟩;exact k1 V2 h2 h3) (by rintro _ ⟨V2,h2,h3,rfl⟩;exact k2 V2 h2 h3);have hxl:∀k,V k->k<W1.heap.size:=λk hk=>hS.xlt k (by rw[(hT _).2.2.2];exact .inl (.inr hk));have hgh:I W1:=by have:=hS.ghost;rw[(hT _).2.2.1]at this;exact this
 obtain⟨fn,tmps,assign,body,fY,kV⟩:=hy W1 (λk hk=>⟨hV k hk,hxl k hk⟩) hgh;exact zZf
theorem Yg(G:Gh):(id G).M=G.M/\(id G).V=G.V/\(id G).R=G.R/\(id G).X=λk=>G.X k\/(λ_=>False) k:=⟨rfl,rfl,rfl,by funext k;simp⟩
theorem XV(Z:aE)(G:Gh):(G.ext Z).M=G.M/\(G.ext Z).V=G.V/\(G.ext Z).R=G.R/\(G.ext Z).X=λk=>G.X k\/Z k:=⟨rfl,rfl,rfl,rfl⟩
end
/-! ### blocks that stay as_ they are, from here to the end -/
def dL (F:ad):Gh where
 M:=λ_=>False
 V:=λk=>k∈F.map (·.1)
 R:=λW=>∀p∈F,W.heap[p.1]? =some p.2
 X:=λ_=>False
 sub:=λ_ h=>h.elim
 subX:=λ_ h=>h
 stab:=λA B h _ _ _ _ _ hv p hp=>(hv p.1 (bW.2 ⟨p,hp,rfl⟩)).trans (h p hp)
section
variable {L:List World} {H:ad} {W:World} {F:ad}
theorem St.fz0(h:St Gh.no L H W):St (dL []) L H W:=
 {ghost:=λp hp=>by simp at hp,vlt:=λk hk=>by simp[dL]at hk,xlt:=λk hk=>hk.elim,links:=h.links,own:=h.own,nodup:=h.nodup,apart:=λp _ hv=>by simp[dL]at hv}
theorem St.unfz(h:St (dL F) L H W):St Gh.no L H W:=
 {ghost:=trivial,vlt:=λk hk=>hk.elim,xlt:=λk hk=>hk.elim,links:=h.links,own:=h.own,nodup:=h.nodup,apart:=λp _ hv=>hv.elim}
theorem St.fzAt(h:St (dL F) L H W):∀p∈F,W.heap[p.1]? =some p.2:=h.ghost
theorem NU(w:World):St (dL []) [w] [] w:=(Je w).fz0
theorem St.fz{A:ad}(h:St (dL F) L (A++H) W)(ha:∀p∈A,ae L p.1):St (dL (A++F)) L H W:=by
 have hd:=(nY _).1 h.nodup;rw[gz,List.nodup_append]at hd;refine⟨λp hp=>?_,λk hk=>?_,λk hk=>hk.elim,λw hw=>?_,λp hp=>h.own p (bj.2 (.inr hp)),(nY _).2 hd.2.1,λp hp hv=>?_⟩
 ·rcases bj.1 hp with hp|hp
  ·exact h.own p (bj.2 (.inl hp))
  exact h.ghost p hp
 ·obtain⟨p,hp,rfl⟩:=bW.1 hk;rcases bj.1 hp with hp|hp
  ·exact h.lt p (bj.2 (.inl hp))
  exact h.vlt p.1 (bW.2 ⟨p,hp,rfl⟩)
 ·refine(h.links w hw).mono λk hk hx=>?_;rcases hx with hx|hx
  ·exact hx.elim
  rw[gz]at hx;rcases bj.1 hx with hx|hx
  ·obtain⟨p,hp,rfl⟩:=bW.1 hx;have:=(ha p hp).mem w hw;omega
  exact .inr hx
 obtain⟨q,hq,e⟩:=bW.1 hv;rcases bj.1 hq with hq|hq
 ·exact hd.2.2 q.1 (bW.2 ⟨q,hq,rfl⟩) p.1 (bW.2 ⟨p,hp,rfl⟩) e
 exact h.apart p (bj.2 (.inr hp)) (bW.2 ⟨q,hq,e⟩)
end
section
variable {C:Cx} {Q:aY} {E:Env} {D:List Deferred} {L:List World} {H H' F:ad} {ops:Array Oper} {l:List Oper}
theorem OJ.fz(A:ad)(hp:H.Perm (A++H'))(ha:∀p∈A,ae L p.1)(k:OJ C ops Q l E D (dL (A++F)) L H'):OJ C ops Q l E D (dL F) L H:=λa W hN hD hF hS=>k a W hN hD hF ((hS.perm hp).fz ha)
variable {c:Code}
theorem CJ.fz(A:ad)(hp:H.Perm (A++H'))(ha:∀p∈A,ae L p.1)(k:CJ C c Q E D (dL (A++F)) L H'):CJ C c Q E D (dL F) L H:=λa W hN hD hF hS=>k a W hN hD hF ((hS.perm hp).fz ha)
variable {e:Exit}
theorem PJ.fz(A:ad)(hp:H.Perm (A++H'))(ha:∀p∈A,ae L p.1)(k:PJ C Q e E D (dL (A++F)) L H'):PJ C Q e E D (dL F) L H:=λa W hN hD hF hS=>k a W hN hD hF ((hS.perm hp).fz ha)
variable {t:Nat}
theorem Rw.fz_above{α:Type}{enc:α->List Value}{xs:List α}{r:Rw}(h:r.Fr (dL F) L):∀p∈r.hp enc t xs,ae L p.1:=by
 intro p hp;cases r with
 |nil=>simp[Rw.hp]at hp
 |row b cap sp=>
  simp[Rw.hp]at hp;subst hp;exact h.elim (λh=>h.elim) id
variable {w:World}
theorem Rw.ge_fz{r:Rw}(h:r.Fr (dL F) L)(hw:w∈L):r.ge w.heap.size:=by
 cases r with
 |nil=>trivial
 |row b cap sp=>exact(h.elim (λh=>h.elim) id:ae L b).mem w hw
theorem Rw.row_of{α:Type}{m:Nat}{xs:List α}{r:Rw}(h:r.Fit m xs)(hx:0<xs.length):∃b cap sp,r= .row b cap sp:=by
 cases r with
 |nil=>have:xs=[]:=h;subst this;simp at hx
 |row b cap sp=>exact⟨b,cap,sp,rfl⟩
variable {b:Nat}
theorem ae.not(h:ae L b)(hw:w∈L):w.heap.size<=b:=h.mem w hw
end
section
variable {C:Cx} {Q:aY} {E:Env} {D:List Deferred} {G:Gh} {L:List World} {H H0 H1:ad} {ops:Array Oper} {l:List Oper}
variable {d ty:Nat} {pos:String} {aC:Array Edge} {g:Option (Nat×Bool)} {x y:Operand} {α:Type} {enc:α->List Value} {m:Nat}
variable {a:Option Addr}
theorem Rd.zero{size c:Nat}:Rd C G L H size 0 (.slice a 0 c) []:=λW _=>by
 cases a with
 |none=>rfl
 |some a=>simp[Builtin.firstCells,loadCells,loadCellsFrom]
theorem nPf{cs:Array Value}{off:Nat}:∀(xs:List α),(∀x,(enc x).length=m)->(∀i (h:i<xs.length),off+i*m+m<=cs.size/\cut cs (off+i*m) m=(enc xs[i]).toArray)->(cs.toList.drop off).take (xs.length*m)=gX enc xs
 | [],_,_=>by simp[gX]
 |x::xs,hm,h=>by
  have ih:=nPf (cs:=cs) (off:=off+m) xs hm (λi hi=>by
   have:=h (i+1) (by simpa using hi);rw[show off+(i+1)*m=off+m+i*m by rw[pK];omega]at this;simpa using this)
  obtain⟨h1,h2⟩:=h 0 zI;simp only[Nat.zero_mul,Nat.add_zero,List.getElem_cons_zero]at h1 h2;have h3:(cs.toList.drop off).take m=enc x:=by
   unfold cut at h2;have:=congrArg Array.toList h2;simpa using this
  have e:(x::xs).length*m=m+xs.length*m:=by rw[dF,pK];omega
  rw[e,List.take_add,List.drop_drop,h3,ih];rfl
variable {w:World}
theorem cd.sl{tx e' N c:Nat}{xs:List α}(hm:∀x,(enc x).length=m)(h1:∀x,∀u∈enc x,u.oneCell'=true)(hU:C.P.underlying tx=some (.slice e'))(hw:w∈L)(h:ai (λx=>(enc x).toArray) m N w a xs)(ho:∀b,b<N->¬G.X b/\bA H b):cd C G L H enc m tx (.slice a xs.length c) xs:=by
 rcases h with h|⟨b,off,cs,t,fr,e1,e2,e3,e4⟩
 ·subst h;exact zhh
 subst e1;have hl:off+xs.length*m<=cs.size\/xs=[]:=by
  exact zDg
 rcases hl with hl|h0
 ·exact cd.at hm h1 hU (bB.old hw e3 (ho b e2).1 (ho b e2).2) hl (nPf xs hm e4)
 subst h0;exact zhh
variable {sp:List Value} {b t:Nat}
theorem U4{cap:Nat}{e tx:Nat}{sv:Value}{xs zs:List α}(hH:H=H0++((b,aP enc e xs sp)::H1))(hT:jH C.P t e m)(hm:∀x,(enc x).length=m)(hw:nl ops E g=some true)(hN:Nat.blt d C.N=true)(hx:ev E x=some (.slice (some ⟨b,0,none⟩) xs.length cap))(hy:ev E y=some sv)(hs:cd C G L H enc m tx sv zs)(hr:(Rw.row b cap sp).Fit m xs)(hf:Fr G L b)(iX:xs.length+zs.length<=2000000)(k:∀(b' aR:Nat) (bT:List Value),(b=b'\/ae L b')->(Rw.row b' aR bT).Fit m (xs++zs)->OJ C ops Q l ((d,.slice (some ⟨b',0,none⟩) (xs++zs).length aR)::E) D G L (H0++((b',aP enc e (xs++zs) bT)::H1))):OJ C ops Q (⟨some d,.call ⟨.builtin .append,#[x,y],#[t,tx]⟩,ty,pos,aC,g⟩::l) E D G L H:=
 qH zI hw hN λa W hF hS=>by
  obtain⟨ti,z,qq,hz,kZ,Av,qC⟩:=hT.info;have hl:(xs++zs).length=xs.length+zs.length:=cy;have hB:(xs.length+zs.length)*ti.bytes<=140737488355328:=dR (Nat.mul_le_mul iX qC) zA;obtain⟨hc,vC⟩:=hr;have hi:H[H0.length]? =some (b,.cells (gX enc xs++sp).toArray e (0,0)):=by rw[hH];simp[aP]
  obtain⟨b',aR,bT,W',fY,gQ,eH,Ad,ke⟩:=hS.app (P:=C.P) (ty:=ty) hi hT.und qq hz kZ Av (hs.src hS) (nW hm xs) vC hc hf aa hB;refine⟨.slice (some ⟨b',0,none⟩) (xs.length+zs.length) aR,W',L,_,?_,gQ,?_⟩
  ·simp[execOp,hF.ev hx,hF.ev hy,resolve,invoke,Deferred.ofValue,builtin,fY]
  have:=k b' aR bT (eH.imp Eq.symm (λh=>CP hS h)) ⟨by rw[hl];exact Ad,by rw[hl];exact ke⟩;rw[hl]at this;rw[hH];simpa[aP,Nw]using this
variable {P:Program}
theorem MX{T e:Nat}(hU:P.underlying T=some (.slice e))(q:Addr)(n c d:Nat)(W:World):(Op.equalIn (d+1) T (.slice (some q) n c) (.slice none 0 0)).run P W= .ok false W:=by
 simp[Op.equalIn,run_underlying hU]
variable {n:Nat}
theorem uN{T U e c:Nat}{q:Addr}(hU:C.P.underlying T=some (.slice e))(hx:ev E x=some (.slice (some q) n c))(hy:ev E y=some (.slice none 0 0)):RV C G L H E (.binOp .eql T x y U) (.bool false):=λd ty pos aC g a W hF _=>by
 have h1:(eqGuard .eql T x y (.slice (some q) n c) (.slice none 0 0)).run C.P W= .ok () W:=by simp[eqGuard]
 have h2:(binOp .eql T (.slice (some q) n c) (.slice none 0 0)).run C.P W= .ok (.bool false) W:=by
  have e:binOp .eql T (.slice (some q) n c) (.slice none 0 0)=(do pure (.bool (<-Op.equalIn (9999+1) T (.slice (some q) n c) (.slice none 0 0)))):=rfl;rw[e,Sem.run_bind,MX hU];rfl
 exact zfh
theorem uM{T U e c:Nat}(hU:C.P.underlying T=some (.slice e))(hx:ev E x=some (.slice none n c))(hy:ev E y=some (.slice none 0 0)):RV C G L H E (.binOp .eql T x y U) (.bool true):=λd ty pos aC g a W hF _=>by
 have h1:(eqGuard .eql T x y (.slice none n c) (.slice none 0 0)).run C.P W= .ok () W:=by simp[eqGuard]
 have h2:(binOp .eql T (.slice none n c) (.slice none 0 0)).run C.P W= .ok (.bool true) W:=by
  have e:binOp .eql T (.slice none n c) (.slice none 0 0)=(do pure (.bool (<-Op.equalIn (9999+1) T (.slice none n c) (.slice none 0 0)))):=rfl;rw[e,Sem.run_bind,nIn hU];rfl
 exact zfh
end
theorem ncl(pre old EG new:List Value)(h:old.length=new.length):setCells (pre++(old++EG)).toArray pre.length new=(pre++(new++EG)).toArray:=by grind [nU,nud]
section
variable {C:Cx} {Q:aY} {E:Env} {D:List Deferred} {G:Gh} {L:List World} {H H0 H1:ad} {ops:Array Oper} {l:List Oper}
variable {d T ty:Nat} {pos:String} {aC:Array Edge} {g:Option (Nat×Bool)} {x y:Operand} {α:Type} {enc:α->List Value} {m:Nat}
theorem MY{cur:List α}{z:α}{j:Nat}(hm:∀x,(enc x).length=m)(hj:j<cur.length)(sp:List Value):setCells (gX enc cur++sp).toArray (j*m) (enc z)=(gX enc (cur.set j z)++sp).toArray:=by
 have e:cur=cur.take j++(cur[j]::cur.drop (j+1)):=by rw[List.getElem_cons_drop,AB]
 all_goals grind [gX,Nw,nW,ncl]
variable {sp:List Value} {b i t:Nat}
theorem KI{off j:Nat}{cur:List α}{z:α}{v:Value}(hi:H[i]? =some (b,aP enc t cur sp))(hm:∀x,(enc x).length=m)(h1:∀x,∀u∈enc x,u.oneCell'=true)(hZ:nJ C.P T m)(hw:nl ops E g=some true)(hx:ev E x=some (ptr b off))(hy:ev E y=some v)(ho:off=j*m)(hj:j<cur.length)(hv:v.cells=(enc z).toArray)(h1c:aZ (enc z)=true)(k:OJ C ops Q l E D G L (H.set i (b,aP enc t (cur.set j z) sp))):OJ C ops Q (⟨none,.store T x y,ty,pos,aC,g⟩::l) E D G L H:=by
 subst ho;refine kY (off:=j*m) hi hZ hw hx hy (by rw[hv];simp[hm]) ?_ (by rw[hv];exact h1c) ?_
 ·have h2:(j+1)*m<=cur.length*m:=wg _ hj;rw[pK]at h2;simp only[qx,cy,nW hm];omega
 rw[hv];rw[MY hm hj];exact k
variable {zv:Value}
theorem AD{tx off c':Nat}{ys zs:List α}(hi:H[i]? =some (b,aP enc t (ys++zs) sp))(hm:∀x,(enc x).length=m)(hU:C.P.underlying tx=some (.slice T))(hZ:Ab C.P T zv)(tF:zv.cells.size=m)(gK:aZ (Builtin.zeroCells zv.cells zs.length).toList=true)(hw:nl ops E g=some true)(hx:ev E x=some (.slice (some ⟨b,off,none⟩) zs.length c'))(ho:zs=[]\/off=ys.length*m)(k:∀bT:List Value,bT.length=zs.length*m+sp.length->OJ C ops Q l E D G L (H.set i (b,aP enc t ys bT))):OJ C ops Q (⟨none,.call ⟨.builtin .clear,#[x],#[tx]⟩,ty,pos,aC,g⟩::l) E D G L H:=by
 by_cases h0:zs=[]
 ·subst h0;have hk:=k sp zI;rw[eb]at hi;have hH:H.set i (b,aP enc t ys sp)=H:=by
   apply Co;intro n;by_cases e:i=n
   ·subst e;rw[aTp (iv.1 hi).1,hi]
   rw[TJ e]
  rw[hH]at hk;exact MD rfl zI hw (λa W hF hS=>⟨.value (.tuple #[]),W,.inr ⟨_,rfl⟩,by simp[execOp,hF.ev hx,resolve,invoke,builtin,Builtin.clear_,run_underlying hU],hS⟩) hk
 have w6:=ho.resolve_left h0;subst w6;have BD:(Builtin.zeroCells zv.cells zs.length).toList.length=zs.length*m:=by simp[Builtin.zeroCells,tF]
 have f1:gX enc (ys++zs)++sp=gX enc ys++(gX enc zs++sp):=by rw[Nw,iY]
 have hl:(gX enc ys).length=ys.length*m:=nW hm ys;refine MD (H':=H.set i (b,aP enc t ys ((Builtin.zeroCells zv.cells zs.length).toList++sp))) rfl zI hw (λa W hF hS=>?_) (k _ (by rw[cy,BD]));have hb:=hS.own _ (cO hi);obtain⟨W',hr,hk,eH⟩:=nIc (P:=C.P) (off:=ys.length*m) (Builtin.zeroCells zv.cells zs.length).toList 0 _ W hb (by
  rw[BD];simp only[qx,cy,nW hm,Nw];omega) gK
 rw[Nat.add_zero,f1,<-hl,ncl _ _ _ _ (by rw[BD,nW hm])]at eH;refine⟨.value (.tuple #[]),W',.inr ⟨_,rfl⟩,?_,hS.put hi hk eH⟩;obtain⟨q,hq⟩:∃q,zs.length=q+1:=⟨zs.length-1,by have:=Z7.2 h0;omega⟩;rw[hq]at hx hr;simp[execOp,hF.ev hx,resolve,invoke,builtin,Builtin.clear_,run_underlying hU,hZ W,hr]
end
end Px

namespace Px
open Go Go.RowKit
/-! ### maps from keys of any type to values -/
/-- keys that are arrays or structs -/
structure wv {K:Type} [DecidableEq K] (P:Program) (kt:Nat) (ek:K->Value):Prop where
 und:∃kd,P.underlying kt=some kd/\∀k v,Instr.sameNow kd (ek k) v=none
 chk:∀(b:Bool) (k:K) {W:World},(Instr.checkKey b 10000 kt (ek k)).run P W= .ok () W
 eq:∀(k k':K) {W:World},(Op.equal kt (ek k) (ek k')).run P W= .ok (decide (k=k')) W
 bits:∀k,Instr.sameBits 10000 (ek k) (ek k)=true
section
variable {K:Type} [DecidableEq K] {ek:K->Value} {β:Type}
def eR (k:K):List (K×β)->Nat->Option (Nat×β)
 | [],_=>none
 |p::l,i=>if p.1=k then some (i,p.2)else eR k l (i+1)
def gE (l:List (K×β)) (k:K):Option β:=(eR k l 0).map (·.2)
def fK (l:List (K×β)) (k:K) (v:β):List (K×β):=match eR k l 0 with|some (i,_)=>l.set i (k,v)|none=>l++[(k,v)]
theorem ngi(k:K):∀(l:List (K×β)) (i j:Nat),eR k l (i+j)=(eR k l i).map λp=>(p.1+j,p.2)
 | [],_,_=>rfl
 |p::l,i,j=>by
  unfold eR;split
  ·rfl
  rw[show i+j+1=i+1+j by omega];exact ngi k l (i+1) j
theorem nXg(k:K)(l:List (K×β)):eR k l 1=(eR k l 0).map λp=>(p.1+1,p.2):=by
 have:=ngi k l 0 1;simpa using this
theorem Vd{k:K}:∀{l:List (K×β)} {i:Nat} {v:β},eR k l 0=some (i,v)->l[i]? =some (k,v)
 | [],_,_,h=>by simp[eR]at h
 |p::l,i,v,h=>by
  unfold eR at h;split at h
  ·rename_i e;simp at h;obtain⟨rfl,rfl⟩:=h;subst e;simp
  rw[nXg]at h;obtain⟨q,hq,e⟩:=AF.1 h;obtain⟨j,u⟩:=q;simp at e;obtain⟨rfl,rfl⟩:=e;simpa using Vd hq
theorem n2e{k:K}:∀{l:List (K×β)} {i:Nat},eR k l i=none↔k∉l.map (·.1):=
 by intro x;induction x<;>(intros;grind [eR])
theorem nzg{l:List (K×β)}{k:K}:gE l k=none↔k∉l.map (·.1):=by
 unfold gE;rw[Option.map_eq_none_iff];exact n2e
theorem VR(p:K×β)(l:List (K×β))(k:K):gE (p::l) k=if p.1=k then some p.2 else gE l k:=by
 unfold gE;conv=>lhs;rw[eR]
 split
 ·rfl
 rw[nXg];cases eR k l 0<;>rfl
theorem H4(l l':List (K×β))(k:K):gE (l++l') k=(gE l k).or (gE l' k):=by induction l<;>grind [gE,eR,VR]
theorem Gy(l:List (K×β))(k:K)(v:β)(j:K):gE (fK l k v) j=if j=k then some v else gE l j:=by
 unfold fK;cases hi:eR k l 0 with
 |none=>
  simp only;rw[H4,VR];have h1:=n2e.1 hi;by_cases e:j=k
  ·subst e;rw[nzg.2 h1];simp
  rw[if_neg e,if_neg (λx=>e x.symm)];cases gE l j<;>simp[gE,eR]
 |some q=>
  obtain⟨i,u⟩:=q;simp only;induction l generalizing i with
  |nil=>simp[eR]at hi
  |cons p l ih=>
   unfold eR at hi;split at hi
   ·rename_i e;simp at hi;obtain⟨rfl,rfl⟩:=hi;simp only[dm];rw[VR,VR,e];exact zRh
   rename_i e;rw[nXg]at hi;obtain⟨q,hq,e3⟩:=AF.1 hi;obtain⟨j',u'⟩:=q;simp at e3;obtain⟨rfl,rfl⟩:=e3;simp only[dX];rw[VR,VR,ih j' hq];by_cases e2:j=k
   ·simp[e2,e]
   simp[e2]
theorem n8j(l:List (K×β))(k:K)(v:β):(fK l k v).map (·.1)=if k∈l.map (·.1)then l.map (·.1)else l.map (·.1)++[k]:=by
 unfold fK;cases hi:eR k l 0 with
 |none=>rw[if_neg (n2e.1 hi)];simp
 |some q=>
  obtain⟨i,u⟩:=q;have h1:=Vd hi;exact zOg
theorem n8f{l:List (K×β)}{k:K}{v:β}(h:(l.map (·.1)).Nodup):((fK l k v).map (·.1)).Nodup:=by grind [n8j]
structure Mq where
 bs:List Nat
 c:Nat
def mz (ek:K->Value) (ev:β->Value) (l:List (K×β)) (bs:List Nat):List MapEntry:=(l.zip bs).map λp=>{key:=ek p.1.1,val:=ev p.1.2,born:=p.2}
def Mq.obj (ek:K->Value) (ev:β->Value) (l:List (K×β)) (m:Mq):Obj:=.map (mz ek ev l m.bs).toArray m.c
structure Mq.Ok (l:List (K×β)) (m:Mq):Prop where
 len:m.bs.length=l.length
 lt:∀b∈m.bs,b<m.c
 nd:m.bs.Nodup
 keys:(l.map (·.1)).Nodup
variable {bs:List Nat}
theorem MZ{ev:β->Value}{l:List (K×β)}(h:bs.length=l.length):(mz ek ev l bs).length=l.length:=by simp[mz,h]
theorem Ub{ev:β->Value}{l:List (K×β)}(h:bs.length=l.length)(i:Nat):(mz ek ev l bs)[i]? =(l[i]?).map λp=>{key:=ek p.1,val:=ev p.2,born:=bs.getD i 0}:=by grind [mz]
theorem nbi{P:Program}{kt:Nat}(hK:wv P kt ek)(ev:β->Value)(k:K)(W:World):∀(l:List (K×β)) (bs:List Nat) (i:Nat),bs.length=l.length->(Instr.findAsking kt (ek k) (mz ek ev l bs) i).run P W= .ok ((eR k l i).map λp=>(p.1,ev p.2)) W
 | [],_,_,_=>by simp[mz,Instr.findAsking,eR]
 |p::l,[],_,h=>by simp at h
 |p::l,b::bs,i,h=>by
  have ih:=nbi hK ev k W l bs (i+1) Bj;simp only[mz,List.zip_cons_cons,dy,Instr.findAsking,Sem.run_bind,hK.eq,Result.andThen]at ih ⊢;unfold eR;by_cases e:p.1=k
  ·rw[if_pos e,if_pos (by simp[e])];simp
  rw[if_neg e,if_neg (by simp;exact λx=>e x.symm)];exact ih
variable {kt:Nat} {P:Program} {W:World}
theorem nii(hK:wv P kt ek)(ev:β->Value)(k:K){l:List (K×β)}(h:bs.length=l.length):(Instr.findKey kt (ek k) (mz ek ev l bs)).run P W= .ok ((eR k l 0).map λp=>(p.1,ev p.2)) W:=by
 obtain⟨kd,hU,hn⟩:=hK.und;cases l with
 |nil=>simp[Instr.findKey,run_underlying hU,mz,Instr.findNow,eR]
 |cons p l=>
  cases bs with
  |nil=>simp at h
  |cons b bs=>
   have h1:=nbi hK ev k W (p::l) (b::bs) 0 h;have h2:Instr.findNow kd (ek k) (mz ek ev (p::l) (b::bs)) 0=none:=by
    simp only[mz,List.zip_cons_cons,dy,Instr.findNow,hn]
   simp only[Instr.findKey,Sem.run_bind,run_underlying hU,Result.andThen,h2,h1]
end
section
variable {C:Cx} {Q:aY} {E:Env} {D:List Deferred} {G:Gh} {L:List World} {H:ad} {ops:Array Oper} {l:List Oper}
variable {d T ty:Nat} {pos:String} {aC:Array Edge} {g:Option (Nat×Bool)} {x y z:Operand}
variable {K:Type} [DecidableEq K] {ek:K->Value} {β:Type} {ev:β->Value} {kv:List (K×β)} {m:Mq}
theorem Mq.nil:(Mq.mk [] 0).Ok ([]:List (K×β)):=⟨rfl,by simp,by simp,by simp⟩
theorem Mq.nil_obj:(Mq.mk [] 0).obj ek ev []= .map #[] 0:=rfl
variable {b et kt:Nat} {P:Program} {zv:Value} {W:World}
theorem nbn{k:K}(c:Bool)(hU:P.underlying T=some (.map kt et))(hK:wv P kt ek)(hz:Ab P et zv)(hm:m.Ok kv)(hb:W.heap[b]? =some (m.obj ek ev kv)):(Instr.lookup T (.map (some b)) (ek k) c).run P W= .ok (if c then .tuple #[((gE kv k).map ev).getD zv,.bool (gE kv k).isSome]else((gE kv k).map ev).getD zv) W:=by
 have eH:W.heap[b]? =some (.map (mz ek ev kv m.bs).toArray m.c):=hb;have h1:=nii (P:=P) (W:=W) hK ev k hm.len;have e:gE kv k=(eR k kv 0).map (·.2):=rfl;cases hi:eR k kv 0 with
 |none=>
  rw[hi]at h1;have e1:gE kv k=none:=by rw[e,hi];rfl
  cases c<;>simp[Instr.lookup,run_underlying hU,HX eH,hK.chk,h1,hz W,e1]
 |some q=>
  rw[hi]at h1;have e1:gE kv k=some q.2:=by rw[e,hi];rfl
  cases c<;>simp[Instr.lookup,run_underlying hU,HX eH,hK.chk,h1,e1]
theorem qD{k:K}(hU:C.P.underlying T=some (.map kt et))(hK:wv C.P kt ek)(hz:Ab C.P et zv)(hm:m.Ok kv)(hb:bB G L H b (m.obj ek ev kv))(hx:Px.ev E x=some (.map (some b)))(hy:Px.ev E y=some (ek k)):RV C G L H E (.lookup T x y false) (((gE kv k).map ev).getD zv):=λd ty pos aC g a W hF hS=>by
 have:=nbn (W:=W) (k:=k) false hU hK hz hm (hb W hS);simp[execOp,hF.ev hx,hF.ev hy,this]
variable {t:Nat}
theorem AO(hU:C.P.underlying t=some (.map kt et))(hm:m.Ok kv)(hb:bB G L H b (m.obj ek ev kv))(hx:Px.ev E x=some (.map (some b))):RV C G L H E (.call ⟨.builtin .len,#[x],#[t]⟩) (.int .i64 (kv.length:Int)):=λd ty pos aC g a W hF hS=>by
 have eH:W.heap[b]? =some (.map (mz ek ev kv m.bs).toArray m.c):=hb W hS;simp[execOp,hF.ev hx,resolve,invoke,Deferred.ofValue,builtin,Builtin.len_,run_underlying hU,goInt,HX eH,MZ hm.len]
variable {i:Nat}
theorem Y0{k:K}{v:β}(hi:H[i]? =some (b,m.obj ek ev kv))(hm:m.Ok kv)(hU:C.P.underlying T=some (.map kt et))(hK:wv C.P kt ek)(hw:nl ops E g=some true)(hx:Px.ev E x=some (.map (some b)))(hy:Px.ev E y=some (ek k))(hz:Px.ev E z=some (ev v))(kk:∀m':Mq,m'.Ok (fK kv k v)->OJ C ops Q l E D G L (H.set i (b,m'.obj ek ev (fK kv k v)))):OJ C ops Q (⟨none,.mapUpdate T x y z,ty,pos,aC,g⟩::l) E D G L H:=by
 have h1:=λW:World=>nii (P:=C.P) (W:=W) hK ev k hm.len;cases hk:eR k kv 0 with
 |none=>
  have e:fK kv k v=kv++[(k,v)]:=by unfold fK;rw[hk]
  have iF:(Mq.mk (m.bs++[m.c]) (m.c+1)).Ok (fK kv k v):=by
   refine⟨by rw[e];simp[hm.len],λb hb=>?_,?_,n8f hm.keys⟩
   ·exact zEh
   exact zqh
  refine MD rfl zI hw (λa W hF hS=>?_) (kk _ iF);have hb:=hS.own _ (cO hi);have hlt:b<W.heap.size:=(aT.1 hb).1;have eH:W.heap[b]? =some (.map (mz ek ev kv m.bs).toArray m.c):=hb;refine⟨.skip,_,.inl rfl,?_,hS.put hi (I6 W b _) (World.putObj_heap_same hlt)⟩;have h2:=h1 W;rw[hk]at h2;have e2:((mz ek ev kv m.bs).toArray.push {key:=ek k,val:=ev v,born:=m.c})=(mz ek ev (fK kv k v) (m.bs++[m.c])).toArray:=by
   rw[e];apply Array.ext';simp only[mz,Array.toList_push];rw[List.zip_append hm.len.symm];simp
  simp[execOp,hF.ev hx,hF.ev hy,hF.ev hz,Instr.mapUpdate,run_underlying hU,HX eH,hK.chk,h2,VP _ eH,e2,Mq.obj]
 |some q=>
  obtain⟨j,u⟩:=q;have e:fK kv k v=kv.set j (k,v):=by unfold fK;rw[hk]
  have iF:m.Ok (fK kv k v):=⟨by rw[e];simp[hm.len],hm.lt,hm.nd,n8f hm.keys⟩;refine MD rfl zI hw (λa W hF hS=>?_) (kk _ iF);have hb:=hS.own _ (cO hi);have hlt:b<W.heap.size:=(aT.1 hb).1;have eH:W.heap[b]? =some (.map (mz ek ev kv m.bs).toArray m.c):=hb;refine⟨.skip,_,.inl rfl,?_,hS.put hi (I6 W b _) (World.putObj_heap_same hlt)⟩;have h2:=h1 W;rw[hk]at h2;have h3:=Vd hk;have h4:=Ub (ek:=ek) (ev:=ev) hm.len j;rw[h3]at h4;have MJ:((((mz ek ev kv m.bs).toArray[j]?).map (·.key)).getD (ek k))=ek k:=by simp[h4]
  have hs:Instr.sameBits 10000 (ek k) (ek k)=true:=hK.bits k;have e2:((mz ek ev kv m.bs).toArray.modify j λen=>{en with key:=ek k,val:=ev v})=(mz ek ev (fK kv k v) m.bs).toArray:=by
   rw[e];apply Array.ext';apply Co;intro i';simp only[Array.toList_modify,List.getElem?_modify];rw[Ub hm.len,Ub (by simp[hm.len]),a1q];exact zSh
  simp only[execOp,hF.ev hx,hF.ev hy,hF.ev hz,Instr.mapUpdate,Sem.run_bind,run_underlying hU,Result.andThen,HX eH,hK.chk,h2,JP,MJ,Instr.keyThatStays,hs,if_true,Sem.run_pure,VP _ eH,e2];rfl
theorem KV(ek:K->Value)(ev:β->Value)(hw:nl ops E g=some true)(hN:Nat.blt d C.N=true)(k:∀(b:Nat),ae L b->bA H b->OJ C ops Q l ((d,.map (some b))::E) D G L ((b,(Mq.mk [] 0).obj ek ev [])::H)):OJ C ops Q (⟨some d,.makeMap T none,ty,pos,aC,g⟩::l) E D G L H:=
 qH zI hw hN λa W _ hS=>⟨.map (some W.heap.size),W.alloc ((Mq.mk [] 0).obj ek ev []),_,_,by simp[execOp,Instr.makeMap,Mq.nil_obj],hS.alloc _,k W.heap.size hS.sizes hS.offNew⟩
end
/-! ### digests, as_ keys of maps -/
abbrev Dk:={l:List Int // l.length=32}
def uQ (k:Dk):Value:=.agg (k.1.map (Value.int .u8)).toArray
theorem Vb:∀kU bs:List Int,kU.length=bs.length->oy (kU.map (Value.int .u8)) (bs.map (Value.int .u8))=decide (kU=bs)
 | [],[],_=>rfl
 |a::kU,b::bs,h=>by
  simp only[dy,oy,PT,Vb kU bs Bj];by_cases h1:a=b<;>by_cases h2:kU=bs<;>simp[h1,h2]
 | [],_::_,h=>by simp at h
 |_::_,[],h=>by simp at h
theorem nNf:∀(n:Nat) (kU bs:List Int),kU.length=n->bs.length=n->kq (lV n [.i]) (kU.map (Value.int .u8)) (bs.map (Value.int .u8))=true
 |0,[],[],_,_=>rfl
 |n+1,a::kU,b::bs,h,h'=>by
  have:=nNf n kU bs Bj (by simpa using h');simp only[lV,ig,eL,dy,kq,OW,this];simp
 |0,_::_,_,h,_=>by simp at h
 |0,[],_::_,_,h=>by simp at h
 |n+1,[],_,h,_=>by simp at h
 |n+1,_::_,[],_,h=>by simp at h
variable {t:Nat} {P:Program}
theorem M1{len e:Nat}{k:IntKind}(hU:P.underlying t=some (.array len e))(hE:P.underlying e=some (.int k))(hZ:nJ P e 1)(hA:eI P e false)(em:Bool)(cs:List Value)(hl:cs.length=len)(W:World):(Instr.checkKey em 10000 t (.agg cs.toArray)).run P W= .ok () W:=by
 show(Instr.checkKey em (9998+1+1) t (.agg cs.toArray)).run P W= .ok () W;generalize 9998=n;exact z5f
theorem nbk(n:Nat):∀kU:List Int,((kU.map (Value.int .u8)).zip (kU.map (Value.int .u8))).all (λp=>Instr.sameBits n p.1 p.2)=true
 | []=>rfl
 |a::kU=>by
  have:=nbk n kU;simp only[dy,List.zip_cons_cons,List.all_cons,this,Bool.and_true];cases n<;>simp[Instr.sameBits]
theorem YZ{e:Nat}(hU:P.underlying t=some (.array 32 e))(hE:P.underlying e=some (.int .u8))(hZ:nJ P e 1)(hA:eI P e false):wv P t uQ where
 und:=⟨_,hU,λk v=>by cases v<;>rfl⟩
 chk:=λb k W=>M1 hU hE hZ hA b _ (by simp[k.2]) W
 eq:=λk k' W=>by
  have h:=uo.array hU hZ (ks:=[.i]) rfl (lx.int hE hA) 9998 (k.1.map (Value.int .u8)) (k'.1.map (Value.int .u8)) W (nNf 32 _ _ k.2 k'.2);have e:decide (k=k')=decide (k.1=k'.1):=by simp only[Subtype.ext_iff]
  rw[e,<-Vb _ _ (by rw[k.2,k'.2])];exact h
 bits:=λk=>by
  show Instr.sameBits (9999+1) (uQ k) (uQ k)=true;generalize 9999=n;simp only[uQ,Instr.sameBits,beq_self_eq_true,Bool.true_and];exact nbk n k.1
/-! ### slices whose blocks are frozen -/
def lC {α:Type} (enc:α->Array Value) (n:Nat) (F:ad) (a:Option Addr) (xs:List α):Prop:=
 xs=[]\/∃b off cs t fr,a=some ⟨b,off,none⟩/\(b,Obj.cells cs t fr)∈F/\∀i (h:i<xs.length),off+i*n+n<=cs.size/\cut cs (off+i*n) n=enc xs[i]
section
variable {α:Type} {enc:α->Array Value} {n N K:Nat} {w W:World} {a:Option Addr} {xs:List α} {F F':ad} {L:List World} {H:ad}
theorem lC.mono(h:lC enc n F a xs)(hF:∀p∈F,p∈F'):lC enc n F' a xs:=by
 rcases h with h|⟨b,off,cs,t,fr,h1,h2,h3⟩
 ·exact .inl h
 exact .inr ⟨b,off,cs,t,fr,h1,hF _ h2,h3⟩
theorem lC.at(h:lC enc n F a xs)(hW:∀p∈F,p.1<N/\W.heap[p.1]? =some p.2):ai enc n N W a xs:=by
 rcases h with h|⟨b,off,cs,t,fr,h1,h2,h3⟩
 ·exact .inl h
 exact .inr ⟨b,off,cs,t,fr,h1,(hW _ h2).1,(hW _ h2).2,h3⟩
theorem ai.fs(h:ai enc n N w a xs)(hn:∀q,a=some q->K<=q.block):∃F,(∀p∈F,K<=p.1/\w.heap[p.1]? =some p.2)/\lC enc n F a xs:=by
 rcases h with h|⟨b,off,cs,t,fr,h1,h2,h3,h4⟩
 ·exact⟨[],by simp,.inl h⟩
 refine⟨[(b,.cells cs t fr)],λp hp=>?_,.inr ⟨b,off,cs,t,fr,h1,by simp,h4⟩⟩;simp only[ka]at hp;subst hp;exact⟨hn _ h1,h3⟩
theorem lC.ge(h:lC enc n F a xs)(hF:∀p∈F,K<=p.1):∀q,a=some q->xs=[]\/K<=q.block:=by
 intro q hq;rcases h with h|⟨b,off,cs,t,fr,h1,h2,h3⟩;all_goals grind
theorem St.fzLies(h:St (dL F) L H W):∀p∈F,p.1<W.heap.size/\W.heap[p.1]? =some p.2:=λp hp=>⟨(aT.1 (h.ghost p hp)).1,h.ghost p hp⟩
theorem St.fzAdd{W':World}(h:St (dL F) L H W)(hb:Below W.heap.size W W')(hF:∀p∈F',W.heap.size<=p.1/\W'.heap[p.1]? =some p.2):St (dL (F'++F)) L H W':=by
 have h1:=h.step hb;refine⟨λp hp=>?_,λk hk=>?_,λk hk=>hk.elim,h1.links,h1.own,h1.nodup,λp hp hv=>?_⟩
 ·rcases bj.1 hp with hp|hp
  ·exact(hF p hp).2
  exact h1.ghost p hp
 ·obtain⟨p,hp,rfl⟩:=bW.1 hk;rcases bj.1 hp with hp|hp
  ·exact(aT.1 (hF p hp).2).1
  exact h1.vlt p.1 (bW.2 ⟨p,hp,rfl⟩)
 obtain⟨q,hq,e⟩:=bW.1 hv;rcases bj.1 hq with hq|hq
 ·have:=(hF q hq).1;have:=h.lt p hp;omega
 exact h1.apart p hp (bW.2 ⟨q,hq,e⟩)
end
section
variable {C:Cx} {Q:aY} {E:Env} {D:List Deferred} {L:List World} {H F:ad} {ops:Array Oper} {l:List Oper}
variable {d ty f:Nat} {pos:String} {aC:Array Edge} {g:Option (Nat×Bool)} {xo:List Operand} {vs:List Value} {eC:Array Nat}
theorem Vg{γ:Type}{v:γ->Value}{Φ:ad->γ->Prop}(az:ew C.P f)(hw:nl ops E g=some true)(hN:Nat.blt d C.N=true)(ha:ja E xo=some vs)(hc:∀W,St (dL F) L H W->Calls C.P f vs.toArray W (λe w'=>∃x F',e= .returned (v x)/\Below W.heap.size W w'/\(∀p∈F',W.heap.size<=p.1/\w'.heap[p.1]? =some p.2)/\Φ F' x))(k:∀x F',Φ F' x->(∀p∈F',ae L p.1)->OJ C ops Q l ((d,v x)::E) D (dL (F'++F)) L H):OJ C ops Q (⟨some d,.call ⟨.value (.func f),xo.toArray,eC⟩,ty,pos,aC,g⟩::l) E D (dL F) L H:=
 nI rfl hw rfl ha zI az λa W jb hD hF hS=>(hc W hS).mono (by
  rintro ed W' ⟨x,F',rfl,hb,vz,hx⟩;exact k x F' hx (λp hp=>CP hS (vz p hp).1) (a.put (some d) (v x)) W' z6 z4 (hF.put _ z5) (hS.fzAdd hb vz))
variable {G:Gh} {v:Value->Value}
theorem LN{α:Type}{enc:α->List Value}{m:Nat}{Φ:World->World->List α->Prop}(az:ew C.P f)(hw:nl ops E g=some true)(hN:Nat.blt d C.N=true)(ha:ja E xo=some vs)(hm:∀x,(enc x).length=m)(hc:∀W,St G L H W->Calls C.P f vs.toArray W (λe w'=>∃xs,Φ W w' xs/\aD W enc m t xs v e w'))(k:∀W (xs:List α) a cp w1,St G L H W->Below W.heap.size W w1->Φ W w1 xs->ai (λx=>(enc x).toArray) m w1.heap.size w1 a xs->(∀b,a=some b->W.heap.size<=b.block)->OJ C ops Q l ((d,v (.slice a xs.length cp))::E) D G (w1::L) H):OJ C ops Q (⟨some d,.call ⟨.value (.func f),xo.toArray,eC⟩,ty,pos,aC,g⟩::l) E D G L H:=
 nI rfl hw rfl ha zI az λac W jb hD hF hS=>(hc W hS).mono (by
  rintro ed W' ⟨xs,hΦ,r,rfl,hb,jE,bM,fB⟩;obtain⟨a,cp,he,aJ⟩:=r.sl hm bM fB (ak _);have:=k W xs a cp W' hS hb hΦ aJ (by
   intro b tN;cases r with
   |nil=>simp only[Rw.val,Value.slice.injEq]at he;rw[<-he.1]at tN;cases tN
   |row b' cap sp=>simp only[Rw.val,Value.slice.injEq]at he;rw[<-he.1]at tN;cases tN;exact jE) (ac.put (some d) (v (.slice a xs.length cp))) W' z6 z4 (hF.put _ z5) (hS.step hb).snap
  rw[he];exact this)
end
/-! ### walks that say the world exactly -/
section
variable (C:Cx)
def PX (Q:aY) (e:Exit) (E:Env) (T:World->Prop):Prop:=∀a W,a.tmps.size=C.N->a.defers=[]->Fits E a->T W->Q e a W
def CX (c:Code) (Q:aY) (E:Env) (T:World->Prop):Prop:=∀a W,a.tmps.size=C.N->a.defers=[]->Fits E a->T W->c.wpIn (FW C.r) 0 C.P Q a W
def OX (ops:Array Oper) (Q:aY) (l:List Oper) (E:Env) (T:World->Prop):Prop:=∀a W,a.tmps.size=C.N->a.defers=[]->Fits E a->T W->wpListIn (FW C.r) 0 C.P ops Q l a W
end
section
variable {C:Cx} {Q:aY} {E E':Env} {T:World->Prop} {ops:Array Oper} {l:List Oper}
theorem CX.region{id:Nat}(h:OX C l.toArray Q l E T):CX C (.region id l.toArray false) Q E T:=λa W hN hD hF hS=>wpIn_region_lit (h a W hN hD hF hS)
theorem CX.seq{x y:Code}(h:CX C x (Exit.then (y.wpIn (FW C.r) 0 C.P Q) Q) E T):CX C (.seq x y) Q E T:=λa W hN hD hF hS=>wpIn_seq (h a W hN hD hF hS)
variable {c:Code}
theorem CX.block{id:Nat}(h:CX C c (Exit.inBlock id Q) E T):CX C (.block id c) Q E T:=λa W hN hD hF hS=>wpIn_block (h a W hN hD hF hS)
theorem CX.skip(h:PX C Q .normal E T):CX C .skip Q E T:=λa W hN hD hF hS=>wpIn_skip (h a W hN hD hF hS)
theorem CX.ret(h:PX C Q .ret E T):CX C .ret Q E T:=λa W hN hD hF hS=>wpIn_ret (h a W hN hD hF hS)
theorem CX.exit{id:Nat}(h:PX C Q (.exit id) E T):CX C (.exit id) Q E T:=λa W hN hD hF hS=>wpIn_exit (h a W hN hD hF hS)
theorem PX.next{y:Code}(h:CX C y Q E T):PX C (Exit.then (y.wpIn (FW C.r) 0 C.P Q) Q) .normal E T:=h
theorem OX.done(h:PX C Q .normal E T):OX C ops Q [] E T:=h
theorem CX.condT{c:Operand}{x y:Code}(hc:ev E c=some (.bool true))(h:CX C x Q E T):CX C (.cond c x y) Q E T:=λa W hN hD hF hS=>wpIn_cond_true (hF.ev hc) (h a W hN hD hF hS)
theorem CX.condF{c:Operand}{x y:Code}(hc:ev E c=some (.bool false))(h:CX C y Q E T):CX C (.cond c x y) Q E T:=λa W hN hD hF hS=>wpIn_cond_false (hF.ev hc) (h a W hN hD hF hS)
theorem PX.retThen{R:Act->World->Prop}(h:PX C Q .ret E T):PX C (Exit.then R Q) .ret E T:=h
theorem PX.exThen{R:Act->World->Prop}{id:Nat}(h:PX C Q (.exit id) E T):PX C (Exit.then R Q) (.exit id) E T:=h
theorem PX.retBlock{id:Nat}(h:PX C Q .ret E T):PX C (Exit.inBlock id Q) .ret E T:=h
theorem PX.norBlock{id:Nat}(h:PX C Q .normal E T):PX C (Exit.inBlock id Q) .normal E T:=h
theorem PX.exHit{id:Nat}(h:PX C Q .normal E T):PX C (Exit.inBlock id Q) (.exit id) E T:=λa W hN hD hF hS=>by
 simp only[Exit.inBlock];have:=h a W hN hD hF hS;simpa using this
theorem OX.fix(h:∀W1,T W1->OX C ops Q l E (· =W1)):OX C ops Q l E T:=λa W hN hD hF hS=>h W hS a W hN hD hF rfl
variable {aC:Array Edge} {L:List World} {g:Option (Nat×Bool)} {pos:String}
theorem pN{o:Op}{d ty:Nat}{v:Value}(hT:∀W,T W->St Gh.no L [] W)(hnd:ME o=true)(hw:nl ops E g=some true)(hN:Nat.blt d C.N=true)(h:RV C Gh.no L [] E o v)(k:OX C ops Q l ((d,v)::E) T):OX C ops Q (⟨some d,o,ty,pos,aC,g⟩::l) E T:=by
 intro a W jb hD hF hS;have hr:=h d ty pos aC g a W hF (hT W hS);unfold wpListIn;rw[if_pos (Ba hF hw)];refine⟨λ_ _=>trivial,?_⟩;rw[Oper.semAt_eq _ _ _ (HH hnd),hr,Oper.uponIn_value];exact k (a.put (some d) v) W z6 z4 (hF.put _ z5) hS
theorem Za{d ty:Nat}{x:Operand}{v:Value}(hw:nl ops E g=some true)(hN:Nat.blt d C.N=true)(hx:ev E x=some v)(k:∀W,T W->OX C ops Q l ((d,ptr W.heap.size 0)::E) (· =W.alloc (.cells v.cells t (0,0)))):OX C ops Q (⟨some d,.box t x,ty,pos,aC,g⟩::l) E T:=by
 intro a W jb hD hF hS;have hr:(execOp a.eval ⟨some d,.box t x,ty,pos,aC,g⟩).run C.P W= .ok (.value (ptr W.heap.size 0)) (W.alloc (.cells v.cells t (0,0))):=nuj (hF.ev hx);unfold wpListIn;rw[if_pos (Ba hF hw)];refine⟨λ_ _=>trivial,?_⟩;rw[Oper.semAt_eq _ _ _ zI,hr,Oper.uponIn_value];exact k W hS (a.put (some d) (ptr W.heap.size 0)) _ z6 z4 (hF.put _ z5) rfl
theorem Rl{d f ty:Nat}{x:Operand}{xs:List Operand}{vs first cap:List Value}{eC:Array Nat}{v:Value}{T':World->Prop}(hx:ev E x=some (.func (.func f) first.toArray cap.toArray))(az:ew C.P f)(hw:nl ops E g=some true)(hN:Nat.blt d C.N=true)(ha:ja E xs=some vs)(hc:∀W,T W->Calls C.P f (first++vs++cap).toArray W (λe w'=>e= .returned v/\T' w'))(k:OX C ops Q l ((d,v)::E) T'):OX C ops Q (⟨some d,.call ⟨.value x,xs.toArray,eC⟩,ty,pos,aC,g⟩::l) E T:=by
 intro a W jb hD hF hS;unfold wpListIn;rw[if_pos (Ba hF hw)];refine⟨λ_ _=>trivial,?_⟩;have hr:(execOp a.eval ⟨some d,.call ⟨.value x,xs.toArray,eC⟩,ty,pos,aC,g⟩).run C.P W= .ok (.enter f (first++vs++cap).toArray) W:=by
  have h2:(xs.toArray).map a.eval=vs.toArray:=by rw[CZ,MF hF xs vs ha]
  simp only[execOp,resolve,hF.ev hx,Deferred.ofValue,h2];have h3:=az (first++vs++cap).toArray W;simp only[iY]at h3 ⊢;simp[invoke,h3]
 rw[Oper.semAt_eq _ _ _ zI,hr,Oper.uponIn_enter];refine⟨by simp,I5.2 ((hc W hS).mono ?_)⟩;rintro e W' ⟨rfl,h⟩;exact k (a.put (some d) v) W' z6 z4 (hF.put _ z5) h
def OZ {α:Type} (C:Cx) (Ei:α->Env) (Ti:α->World->Prop) (ok:α->Prop) (μ:α->Nat) (x:α):Act->World->Prop:=λa W=>
 ∃x',ok x'/\μ x'<μ x/\a.tmps.size=C.N/\a.defers=[]/\Fits (Ei x') a/\Ti x' W
theorem CX.loop{α:Type}(Ei:α->Env)(Ti:α->World->Prop)(ok:α->Prop)(μ:α->Nat)(x0:α)(h0:ok x0)(hE:Sub (Ei x0) E)(hT:∀W,T W->Ti x0 W)(round:∀x,ok x->CX C c (Exit.then (OZ C Ei Ti ok μ x) Q) (Ei x) (Ti x)):CX C (.loop c) Q E T:=by
 intro a W hN hD hF hS
 let Inv:Act->World->Nat->Prop:=λa W m=>∃x,μ x=m/\ok x/\a.tmps.size=C.N/\a.defers=[]/\Fits (Ei x) a/\Ti x W
 refine wpIn_loop (λa W=>∃m,Inv a W m) (λa W=>TN (Inv a W)) ⟨_,x0,rfl,h0,hN,hD,hE.fits hF,hT W hS⟩ ?_;exact z7f
theorem PX.again{α:Type}{Ei:α->Env}{Ti:α->World->Prop}{ok:α->Prop}{μ:α->Nat}{x:α}(x':α)(h0:ok x')(hlt:μ x'<μ x)(hE:Sub (Ei x') E)(hT:∀W,T W->Ti x' W):PX C (Exit.then (OZ C Ei Ti ok μ x) Q) .normal E T:=λa W hN hD hF hS=>⟨x',h0,hlt,hN,hD,hE.fits hF,hT W hS⟩
variable {R:Ending->World->Prop} {e:Exit} {fn:Func}
theorem AH{v:Value}(he:e= .ret\/e= .normal)(hr:fn.results=#[.tmp t])(hv:look E t=some v)(h:∀W,T W->R (.returned v) W):PX C (bodyPost C.P fn R) e E T:=by
 intro a W hN hD hF hS;have:bodyPost C.P fn R .ret a W:=⟨hD,v,by rw[results_tmp hr];exact congrArg (λu=>Result.ok u W) (hF t v hv),h W hS⟩;rcases he with rfl|rfl<;>exact this
end
variable {c:Code} {R:Ending->World->Prop} {fn:Func} {w:World}
theorem Fh{f N:Nat}{vs:List Value}(hf:P.funcs[f]? =some fn)(hb:fn.body=some c)(hN:fn.ntmps=N)(hl:Nat.ble vs.length N=true)(h:CX ⟨P,none,N⟩ c (bodyPost P fn R) (zt 0 vs) (· =w)):Calls P f vs.toArray w R:=by
 rw[<-I5 (r:=none) (n:=0)];refine callsIn_of_wp hf hb trivial (h _ w ?_ rfl ?_ rfl)
 ·have:=ea hl;simp[hN];omega
 exact nlc vs _
def Gz (w0:World) (W:World):Prop:=∃q os,W=Sort.grow (w0.drewN q) os
theorem Gz.refl(w:World):Gz w w:=⟨0,#[],by simp[Sort.grow,World.drewN]⟩
theorem Gz.trans{a b c:World}(h:Gz a b)(k:Gz b c):Gz a c:=by
 obtain⟨q,os,rfl⟩:=h;obtain⟨q',y8,rfl⟩:=k;exact⟨q+q',os++y8,by simp[Sort.grow,World.drewN,Nat.add_assoc]⟩
theorem Gz.alloc(w:World)(o:Obj):Gz w (w.alloc o):=⟨0,#[o],by rw[Sort.alloc_eq_grow];simp[Sort.grow,World.drewN]⟩
variable {W:World}
theorem Gz.below(h:Gz w W):Below w.heap.size w W:=by
 obtain⟨q,os,rfl⟩:=h;refine⟨rfl,rfl,rfl,by simp[Sort.grow,World.drewN],?_,λk hk=>?_⟩
 ·simp[Sort.grow,World.drewN]
 simp only[Sort.grow,World.drewN];rw[Vm hk]
variable {L:List World}
theorem N4(h:∀w∈L,Below w.heap.size w W):St Gh.no L [] W:=
 ⟨trivial,λ_ h=>h.elim,λ_ h=>h.elim,λw' hw=>(aH.of_below (X:=λk=>Gh.no.X k\/k∈([]:ad).map (·.1)) (h w' hw)),λ_ h=>by simp at h,λ_ _ _ _ h=>by simp at h,λ_ h=>by simp at h⟩
end Px

namespace Px
open Go Go.RowKit
/-! ### ranging over maps with any keys -/
section
variable {C:Cx} {Q:aY} {E:Env} {D:List Deferred} {G:Gh} {L:List World} {H:ad} {ops:Array Oper} {l:List Oper}
variable {d T ty:Nat} {pos:String} {aC:Array Edge} {g:Option (Nat×Bool)} {x y z:Operand}
variable {K:Type} [DecidableEq K] {ek:K->Value} {β:Type} {ev:β->Value} {kv:List (K×β)} {m:Mq}
def Mq.it (b:Nat) (m:Mq) (js:List Nat):Obj:=.mapIter (some b) m.c (js.map λj=>m.bs.getD j 0).toArray m.c
variable {b et kt:Nat}
theorem ah0(hU:C.P.underlying T=some (.map kt et))(hb:bB G L H b (m.obj ek ev kv))(hw:nl ops E g=some true)(hN:Nat.blt d C.N=true)(hx:Px.ev E x=some (.map (some b)))(k:∀rb:Nat,ae L rb->bA H rb->OJ C ops Q l ((d,ptr rb 0)::E) D G L ((rb,m.it b [])::H)):OJ C ops Q (⟨some d,.range T x,ty,pos,aC,g⟩::l) E D G L H:=
 qH zI hw hN λa W hF hS=>by
  have eH:W.heap[b]? =some (.map (mz ek ev kv m.bs).toArray m.c):=hb W hS;refine⟨_,_,_,_,?_,hS.alloc (m.it b []),k W.heap.size hS.sizes hS.offNew⟩;have:=run_range_map (P:=C.P) W T kt et b _ _ hU eH;simp[execOp,hF.ev hx,this,Mq.it]
variable {js:List Nat} {i:Nat}
theorem Zt{rb:Nat}(hi:H[i]? =some (rb,m.it b js))(hm:m.Ok kv)(hb:bB G L H b (m.obj ek ev kv))(pI:∀j∈js,j<kv.length)(hw:nl ops E g=some true)(hN:Nat.blt d C.N=true)(hx:Px.ev E x=some (ptr rb 0))(k1:(∀j,j<kv.length->j∈js)->OJ C ops Q l ((d,.tuple #[.bool false])::E) D G L H)(k2:∀(j:Nat) (p:K×β),kv[j]? =some p->j∉js->OJ C ops Q l ((d,.tuple #[.bool true,ek p.1,ev p.2])::E) D G L (H.set i (rb,m.it b (js++[j])))):OJ C ops Q (⟨some d,.next x false,ty,pos,aC,g⟩::l) E D G L H:=
 qH zI hw hN λa W hF hS=>by
  have hr:W.heap[rb]? =some (.mapIter (some b) m.c (js.map λj=>m.bs.getD j 0).toArray m.c):=hS.own _ (cO hi);have eH:W.heap[b]? =some (.map (mz ek ev kv m.bs).toArray m.c):=hb W hS;have hlt:rb<W.heap.size:=(aT.1 hr).1;have H2:∀e∈(mz ek ev kv m.bs).toArray.toList,e.born<m.c:=by
   intro e he;obtain⟨j,hj⟩:=kA.1 he;simp only at hj;rw[Ub hm.len]at hj;exact z4g
  have VQ:∀j,j<kv.length->((js.map λj=>m.bs.getD j 0).toArray.contains (m.bs.getD j 0)=true↔j∈js):=by
   exact zjg
  have hex:∀{v W'},(Instr.next (.pointer (some ⟨rb,0,none⟩)) false ty).run C.P W= .ok v W'->(execOp a.eval ⟨some d,.next x false,ty,pos,aC,g⟩).run C.P W= .ok (.value v) W':=by
   intro v W' hh;simp[execOp,hF.ev hx,hh]
  rcases run_next_at (P:=C.P) W ty rb b m.c m.c _ _ m.c hr eH H2 (ak _)with⟨h0,fY⟩|⟨e,he,W1,OY,fY⟩
  ·refine⟨_,W,L,H,hex fY,hS,k1 λj hj=>?_⟩;apply(VQ j hj).1;apply Decidable.byContradiction;intro hn;have fB:=Ub (ek:=ek) (ev:=ev) hm.len j;rw[kK hj]at fB;have ko:=cO fB;have:(leftOf (mz ek ev kv m.bs).toArray (js.map λj=>m.bs.getD j 0).toArray)=#[]:=Array.eq_empty_of_size_eq_zero h0;exact zWg
  unfold leftOf at he;rw[Array.toList_filter,uU]at he;obtain⟨cF,bV⟩:=he;obtain⟨j,hj⟩:=kA.1 cF;simp only at hj;rw[Ub hm.len]at hj;obtain⟨p,hp,rfl⟩:=AF.1 hj;have Cn:=(iv.1 hp).1;have hn:j∉js:=λh=>by
   exact z8g
  have lR:St G L H W1:=by
   rcases OY with rfl|rfl
   ·exact hS
   exact hS.step (D2 W _)
  have HL:rb<W1.heap.size:=(aT.1 (lR.own _ (cO hi))).1;have Cc:=lR.put hi (I6 W1 rb (m.it b (js++[j]))) (World.putObj_heap_same HL);refine⟨_,_,L,_,hex fY,?_,k2 j p hp hn⟩;have e1:ChangeMaps.setBlock W1 rb (.mapIter (some b) m.c ((js.map λj=>m.bs.getD j 0).toArray.push (m.bs.getD j 0)) m.c)=W1.putObj rb (m.it b (js++[j])):=by
   simp[ChangeMaps.setBlock,World.putObj,Mq.it]
  rw[e1];exact Cc
theorem RF{rb j:Nat}{p:K×β}(hi:H[i]? =some (rb,m.it b (js++[j])))(hm:m.Ok kv)(hb:bB G L H b (m.obj ek ev kv))(hp:kv[j]? =some p)(hx:Px.ev E x=some (ptr rb 0)):RV C G L H E (.entry x) (.tuple #[ek p.1,ev p.2]):=λd ty pos aC g a W hF hS=>by
 have hr:W.heap[rb]? =some (.mapIter (some b) m.c (((js++[j]).map λj=>m.bs.getD j 0).toArray) m.c):=hS.own _ (cO hi);have eH:W.heap[b]? =some (.map (mz ek ev kv m.bs).toArray m.c):=hb W hS;have fB:=Ub (ek:=ek) (ev:=ev) hm.len j;rw[hp]at fB;have hnd:((mz ek ev kv m.bs).toArray.toList.map (·.born)).Nodup:=by
  have:(mz ek ev kv m.bs).toArray.toList.map (·.born)=m.bs:=by
   simp only[mz,List.map_map];rw[show((λx:MapEntry=>x.born)∘λp:(K×β)×Nat=>({key:=ek p.1.1,val:=ev p.1.2,born:=p.2}:MapEntry))=Prod.snd from rfl];rw[List.map_snd_zip];exact Nat.le_of_eq hm.len
  rw[this];exact hm.nd
 exact zbh
end
variable {n t:Nat} {P:Program}
/-! ### keys of maps that are structs -/
theorem Fz{len e:Nat}{k:IntKind}(hU:P.underlying t=some (.array len e))(hE:P.underlying e=some (.int k))(hZ:nJ P e 1)(hA:eI P e false)(em:Bool)(cs:List Value)(hl:cs.length=len)(W:World):(Instr.checkKey em (n+1+1) t (.agg cs.toArray)).run P W= .ok () W:=by
 exact z5f
variable {cs:Array Value} {W:World}
theorem Rv{fs:List Field}{em:Bool}(hU:P.underlying t=some (.struct fs.toArray))(h:∀f∈fs,f.name≠ "_"/\∃v,(part f.type cs f.offset).run P W= .ok v W/\(Instr.checkKey em n f.type v).run P W= .ok () W):(Instr.checkKey em (n+1) t (.agg cs)).run P W= .ok () W:=by
 rw[Instr.checkKey];simp only[Sem.run_bind,run_underlying hU,Result.andThen_ok];rw[<-Array.forIn_toList,show fs.toArray.toList=fs by simp];clear hU;induction fs with
 |nil=>simp
 |cons f L ih=>
  obtain⟨hn,v,p1,p2⟩:=h f zI;simp only[List.forIn_cons,Sem.run_bind,hn,ne_eq,not_false_eq_true,if_true,Result.andThen_ok,p1,p2,Sem.run_pure];exact ih (λy hy=>h y (by simp[hy]))
theorem n0j{k:IntKind}{em:Bool}{v:Value}(hU:P.underlying t=some (.int k)):(Instr.checkKey em (n+1) t v).run P W= .ok () W:=by simp[Instr.checkKey,run_underlying hU]
theorem nzl{off:Nat}{v:Value}(hA:eI P t false)(hv:cs[off]? =some v):(part t cs off).run P W= .ok v W:=by
 obtain⟨h1,h2⟩:=aT.1 hv;simp[part,hA W,h1,h2]
theorem Rx{off:Nat}(hA:eI P t true)(hZ:nJ P t n):(part t cs off).run P W= .ok (.agg (cut cs off n)) W:=by
 simp only[part,Sem.run_bind,hA W,hZ W,Result.andThen,if_true,Sem.run_pure,ndf]
theorem FA(n:Nat)(k:IntKind)(a:Int):Instr.sameBits n (.int k a) (.int k a)=true:=by cases n<;>simp[Instr.sameBits]
/-! ### append behind a part of a row that is given up (a queue) -/
section
variable {G:Gh} {L:List World} {H:ad} {W:World}
variable {sp:List Value} {b i:Nat}
theorem St.appO{e len cap m tx ty:Nat}{ti:TypeInfo}{z sv:Value}{pre ys news:List Value}(hS:St G L H W)(hi:H[i]? =some (b,.cells (pre++(ys++sp)).toArray e (0,0)))(hU:P.underlying t=some (.slice e))(qq:P.info? e=some ti)(hz:ti.zero=some z)(hm:ti.size=m)(tF:z.cells.size=m)(qu:Src P m tx sv n news W)(hlen:ys.length=len*m)(vC:sp.length=(cap-len)*m)(Il:len<=cap)(ha:Fr G L b)(h63:len+n<=9223372036854775807)(mm:(len+n)*ti.bytes<=140737488355328):∃b' aR Cf bT W',(Builtin.append_ #[t,tx] ty #[.slice (some ⟨b,pre.length,none⟩) len cap,sv]).run P W= .ok (.slice (some ⟨b',Cf.length,none⟩) (len+n) aR) W'/\St G L (H.set i (b',.cells (Cf++(ys++news++bT)).toArray e (0,0))) W'/\((b'=b/\Cf=pre)\/(W.heap.size<=b'/\Cf=[]))/\len+n<=aR/\bT.length=(aR-(len+n))*m:=by
 subst hm;have hb:=hS.own _ (cO hi);have vZ:=qu.newsLen;by_cases iB:len+n<=cap
 ·have hle:(len+n)*ti.size<=cap*ti.size:=wg _ iB;have kZ:(pre++(ys++sp)).toArray.size=pre.length+cap*ti.size:=by
   simp only[qx,cy,hlen,vC];rw[<-pK];congr 2;omega
  rw[pK]at hle;have hr:=run_append_room_src (P:=P) W t tx ty e ti hU qq b pre.length len cap sv n news qu iB
   (λj hj=>by rw[KB hb];rw[aFq aa];rfl)
   (λj hj=>by simp[World.frozen?,hb])
  obtain⟨h1,h2⟩:=nXc b news (pre.length+len*ti.size) W _ _ hb;have ke:(sp.drop (n*ti.size)).length=(cap-(len+n))*ti.size:=by
   rw[BF,vC,<-Nat.sub_mul];congr 1;omega
  have hc:setCells (pre++(ys++sp)).toArray (pre.length+len*ti.size) news=(pre++(ys++news++sp.drop (n*ti.size))).toArray:=by
   apply Array.ext';rw[nU,<-hlen,<-cy];show jx (pre++(ys++sp)) (pre++ys).length news=_;have amk:n*ti.size<=sp.length:=by rw[vC,<-vZ,vZ];exact wg _ aa
   conv=>lhs;rw[<-iY,<-AB (n*ti.size) sp]
   rw[nud _ _ _ _ (by rw[lb];omega)];simp[iY]
  rw[hc]at h2;exact⟨_,_,_,_,_,hr,hS.put hi h1 h2,.inl ⟨rfl,rfl⟩,iB,ke⟩
 have hold:(Builtin.firstCells ti.size len (.slice (some ⟨b,pre.length,none⟩) len cap)).run P W.drew= .ok ys.toArray W.drew:=by
  have eH:W.drew.heap[b]? =some (.cells (pre++(ys++sp)).toArray e (0,0)):=hb;rw[nkh eH (by simp only[qx,cy,hlen];omega)];unfold cut;rw[List.drop_left' rfl,<-hlen,PR rfl]
 have hr:=run_append_grow_src (P:=P) W t tx ty e ti z hU qq hz (some ⟨b,pre.length,none⟩) len cap ys hold sv n news qu aa aa (growslice_fits aa mm);have hg:=grownCap_ge W (len+n) cap e;have gQ:=(hS.step (D2 W (W.drawn+1))).renewF (.cells ((ys++news).toArray++Builtin.zeroCells z.cells (grownCap W (len+n) cap e-(len+n))) e (0,0)) hi ha;have BD:(Builtin.zeroCells z.cells (grownCap W (len+n) cap e-(len+n))).toList.length=(grownCap W (len+n) cap e-(len+n))*ti.size:=by
  simp[Builtin.zeroCells,tF]
 have hc:(ys++news).toArray++Builtin.zeroCells z.cells (grownCap W (len+n) cap e-(len+n))=([]++(ys++news++(Builtin.zeroCells z.cells (grownCap W (len+n) cap e-(len+n))).toList)).toArray:=by
  apply Array.ext';simp
 rw[hc]at gQ hr;exact⟨_,_,[],_,_,hr,gQ,.inr ⟨ak _,rfl⟩,hg,BD⟩
end
section
variable {C:Cx} {Q:aY} {E:Env} {D:List Deferred} {G:Gh} {L:List World} {H H0 H1:ad} {ops:Array Oper} {l:List Oper}
variable {d ty:Nat} {pos:String} {aC:Array Edge} {g:Option (Nat×Bool)} {x y:Operand} {α:Type} {enc:α->List Value} {m:Nat}
variable {sp:List Value} {b:Nat}
theorem apO{cap off:Nat}{e tx:Nat}{sv:Value}{ps xs zs:List α}(hH:H=H0++((b,aP enc e (ps++xs) sp)::H1))(hT:jH C.P t e m)(hm:∀x,(enc x).length=m)(hw:nl ops E g=some true)(hN:Nat.blt d C.N=true)(hx:ev E x=some (.slice (some ⟨b,off,none⟩) xs.length cap))(ho:off=ps.length*m)(hy:ev E y=some sv)(hs:cd C G L H enc m tx sv zs)(hc:xs.length<=cap)(vC:sp.length=(cap-xs.length)*m)(hf:Fr G L b)(iX:xs.length+zs.length<=1000000)(k:∀(b' aR:Nat) (O0:List α) (bT:List Value),(b=b'\/ae L b')->(xs++zs).length<=aR->bT.length=(aR-(xs++zs).length)*m->OJ C ops Q l ((d,.slice (some ⟨b',O0.length*m,none⟩) (xs++zs).length aR)::E) D G L (H0++((b',aP enc e (O0++(xs++zs)) bT)::H1))):OJ C ops Q (⟨some d,.call ⟨.builtin .append,#[x,y],#[t,tx]⟩,ty,pos,aC,g⟩::l) E D G L H:=
 qH zI hw hN λa W hF hS=>by
  obtain⟨ti,z,qq,hz,kZ,Av,qC⟩:=hT.info;have hl:(xs++zs).length=xs.length+zs.length:=cy;have hB:(xs.length+zs.length)*ti.bytes<=140737488355328:=dR (Nat.mul_le_mul iX qC) zA;have hp:(gX enc ps).length=ps.length*m:=nW hm ps;have hi:H[H0.length]? =some (b,.cells (gX enc ps++(gX enc xs++sp)).toArray e (0,0)):=by rw[hH];simp[aP,Nw]
  obtain⟨b',aR,Cf,bT,W',fY,gQ,eH,Ad,ke⟩:=hS.appO (P:=C.P) (ty:=ty) hi hT.und qq hz kZ Av (hs.src hS) (nW hm xs) vC hc hf aa hB;subst ho;rw[hp]at fY;obtain⟨O0,rfl⟩:∃O0:List α,Cf=gX enc O0:=by
   rcases eH with⟨_,e1⟩|⟨_,e1⟩
   ·exact⟨ps,e1⟩
   exact⟨[],e1⟩
  rw[nW hm O0]at fY;refine⟨.slice (some ⟨b',O0.length*m,none⟩) (xs.length+zs.length) aR,W',L,_,?_,gQ,?_⟩
  ·simp[execOp,hF.ev hx,hF.ev hy,resolve,invoke,Deferred.ofValue,builtin,fY]
  have:=k b' aR O0 bT (eH.imp (λh=>h.1.symm) (λh=>CP hS h.1)) (by rw[hl];exact Ad) (by rw[hl];exact ke);rw[hl]at this;rw[hH];simpa[aP,Nw]using this
end
section
variable {C:Cx} {Q:aY} {E:Env} {D:List Deferred} {L:List World} {H:ad} {ops:Array Oper} {l:List Oper}
variable {d ty:Nat} {pos:String} {aC:Array Edge} {g:Option (Nat×Bool)} {x:Operand} {xs:List Operand} {vs:List Value} {eC:Array Nat}
variable {W0:World} {MI RO M:aE} {hM:∀k,M k->k<W0.heap.size/\¬MI k/\¬RO k}
variable {I1 X1:aE->World->Prop} {I:World->Prop}
theorem ZG{y:Nat}(Z:aE)(T:Gh->Gh)(hT:∀G,(T G).M=G.M/\(T G).V=G.V/\(T G).R=G.R/\(T G).X=λk=>G.X k\/Z k){V:aE}{hI:fp (λk=>(k<W0.heap.size/\¬MI k)\/V k) I}(kX:∀V,fp (λk=>(k<W0.heap.size/\¬MI k)\/V k) (I1 V))(fT:∀V,fp (λk=>(k<W0.heap.size/\¬MI k)\/V k) (X1 V))(hV:∀k,V k->W0.heap.size<=k)(hw:nl ops E g=some true)(hN:Nat.blt d C.N=true)(hx:ev E x=some (yv y))(ha:ja E xs=some vs)(hy:∀W1,St (T (dt hM V hI)) L H W1->(∀k,V k->W0.heap.size<=k/\k<W1.heap.size)->I W1->Oi C.P y vs.toArray W1 (λb W2=>aH (λk=>M k\/V k) W1 W2/\(if b then I1 (qF V W1 W2) W2 else X1 (qF V W1 W2) W2)))(k1:∀V2,(∀k,V k->V2 k)->(∀w∈L,∀k,V2 k->V k\/w.heap.size<=k)->OJ C ops Q l ((d,.bool true)::E) D (T (dt hM V2 (kX V2))) L H)(k2:∀V2,(∀k,V k->V2 k)->(∀w∈L,∀k,V2 k->V k\/w.heap.size<=k)->OJ C ops Q l ((d,.bool false)::E) D (T (dt hM V2 (fT V2))) L H):OJ C ops Q (⟨some d,.call ⟨.value x,xs.toArray,eC⟩,ty,pos,aC,g⟩::l) E D (T (dt hM V hI)) L H:=by
 refine T7 (λG'=>∃V2,(∀k,V k->V2 k)/\(∀w∈L,∀k,V2 k->V k\/w.heap.size<=k)/\G'=T (dt hM V2 (kX V2))) (λG'=>∃V2,(∀k,V k->V2 k)/\(∀w∈L,∀k,V2 k->V k\/w.heap.size<=k)/\G'=T (dt hM V2 (fT V2))) hw hN hx ha (λW1 hS=>?_) (by rintro _ ⟨V2,h2,h3,rfl⟩;exact k1 V2 h2 h3) (by rintro _ ⟨V2,h2,h3,rfl⟩;exact k2 V2 h2 h3);have hxl:∀k,V k->k<W1.heap.size:=λk hk=>hS.xlt k (by rw[(hT _).2.2.2];exact .inl (.inr hk));have hgh:I W1:=by have:=hS.ghost;rw[(hT _).2.2.1]at this;exact this
 obtain⟨fn,tmps,assign,body,fY,kV⟩:=hy W1 hS (λk hk=>⟨hV k hk,hxl k hk⟩) hgh;exact zZf
variable {e:Exit} {fn:Func}
theorem ZL{V:aE}{hI:fp (λk=>(k<W0.heap.size/\¬MI k)\/V k) I}{α:Type}{Fin:List α->aE->World->Prop}{I':List α->aE->World->Prop}{X:aE->World->Prop}(he:e= .ret\/e= .normal)(hr:fn.results=#[])(hw:W0∈L)(hV:∀k,V k->W0.heap.size<=k)(hH:∀k,k<W0.heap.size->k∈H.map (·.1)->MI k)(h:∀A,St (dt hM V hI) L H A->I A->(∃xs,Fin xs (λk=>M k\/V k) A/\I' xs V A)\/X V A):PJ C (bodyPost C.P fn (λe W'=>(∃v,e= .returned v)/\aH (λk=>M k\/MI k) W0 W'/\∃V,(∃xs,Fin xs (λk=>M k\/V k) W'/\I' xs V W')\/X V W')) e E [] (dt hM V hI) L H:=by
 intro a W' _ hD _ hS;have key:bodyPost C.P fn (λe W'=>(∃v,e= .returned v)/\aH (λk=>M k\/MI k) W0 W'/\∃V,(∃xs,Fin xs (λk=>M k\/V k) W'/\I' xs V W')\/X V W') .normal a W':=by
  refine⟨hD,.tuple #[],results_none hr _ _ _,⟨_,rfl⟩,(hS.links W0 hw).mono λk hk hx=>?_,V,h W' hS hS.ghost⟩;exact zKh
 exact zGh
end
section
variable {α:Type}
end
end Px


namespace Px
open Go Go.RowKit
/-! ### yield is called in another function -/
/-- what a function leaves that calls yield once -/
def YR (M V:aE) (I1 X1:aE->World->Prop) (W:World):Ending->World->Prop:=λe W2=>
 ∃(b:Bool) (V2:aE),e= .returned (.bool b)/\(∀k,V k->V2 k)/\(∀k,V2 k->V k\/(W.heap.size<=k/\k<W2.heap.size))/\aH (λk=>M k\/V k) W W2/\(if b then I1 V2 W2 else X1 V2 W2)
section
variable {C:Cx} {Q:aY} {E:Env} {D:List Deferred} {L:List World} {H:ad} {ops:Array Oper} {l:List Oper}
variable {d ty f:Nat} {pos:String} {aC:Array Edge} {g:Option (Nat×Bool)} {x:Operand} {xs:List Operand} {vs first cap:List Value} {eC:Array Nat}
variable {W0:World} {MI RO M:aE} {hM:∀k,M k->k<W0.heap.size/\¬MI k/\¬RO k}
variable {I1 X1:aE->World->Prop} {I:World->Prop}
theorem RY{V:aE}{hI:fp (λk=>(k<W0.heap.size/\¬MI k)\/V k) I}(kX:∀V,fp (λk=>(k<W0.heap.size/\¬MI k)\/V k) (I1 V))(fT:∀V,fp (λk=>(k<W0.heap.size/\¬MI k)\/V k) (X1 V))(hx:ev E x=some (.func (.func f) first.toArray cap.toArray))(az:ew C.P f)(hw:nl ops E g=some true)(hN:Nat.blt d C.N=true)(ha:ja E xs=some vs)(hc:∀W,St (dt hM V hI) L H W->Calls C.P f (first++vs++cap).toArray W (YR M V I1 X1 W))(k1:∀V2,(∀k,V k->V2 k)->(∀w∈L,∀k,V2 k->V k\/w.heap.size<=k)->OJ C ops Q l ((d,.bool true)::E) D (dt hM V2 (kX V2)) L H)(k2:∀V2,(∀k,V k->V2 k)->(∀w∈L,∀k,V2 k->V k\/w.heap.size<=k)->OJ C ops Q l ((d,.bool false)::E) D (dt hM V2 (fT V2)) L H):OJ C ops Q (⟨some d,.call ⟨.value x,xs.toArray,eC⟩,ty,pos,aC,g⟩::l) E D (dt hM V hI) L H:=
 nI rfl hw hx ha zI az λa W jb hD hF hS=>(hc W hS).mono (by
  rintro e W2 ⟨b,V2,rfl,h1,h2,hk,hb⟩;have h3:∀w∈L,∀k,V2 k->V k\/w.heap.size<=k:=λw hw k hk=>(h2 k hk).imp id λh=>by have:=(hS.links w hw).size;omega
  have nx:∀{R:World->Prop} (hR:fp (λk=>(k<W0.heap.size/\¬MI k)\/V2 k) R),R W2->Next (dt hM V hI) W W2 (dt hM V2 hR):=λ{R} hR hr=>
   ⟨λk h=>h.imp id (h1 k),λk h=>h.elim (λh=>.inl (.inl h)) (λh=>(h2 k h).imp .inr id),λk h=>h.elim (λh=>.inl (.inl h)) (λh=>(h2 k h).imp .inr id),hr⟩
  have bM:=λv=>hF.put (d:=d) v z5;cases b with
  |true=>exact k1 V2 h1 h3 (a.put (some d) (.bool true)) W2 z6 z4 (bM _) (hS.yield2 hk (nx (kX V2) hb).x (nx (kX V2) hb).x' (nx (kX V2) hb).v hb)
  |false=>exact k2 V2 h1 h3 (a.put (some d) (.bool false)) W2 z6 z4 (bM _) (hS.yield2 hk (nx (fT V2) hb).x (nx (fT V2) hb).x' (nx (fT V2) hb).v hb))
variable {G:Gh} {W:World}
theorem St.alone(h:St G L H W):St G [W] [] W:=
 ⟨h.ghost,h.vlt,h.xlt,λw hw=>by rw[ka.1 hw];exact aH.refl _ _,λp hp=>by simp at hp,λi j p q hi=>by simp at hi,λp hp=>by simp at hp⟩
variable {e:Exit} {L':List World} {b i:Nat}
theorem PJ.resnap{o:Obj}(hi:H[i]? =some (b,o))(hb:ae L' b)(hs:∀w∈L',w∈L)(k:∀W,St G L H W->PJ C Q e E D G (W::L') (H.eraseIdx i)):PJ C Q e E D G L H:=
 λa W hN hD hF hS=>k W hS a W hN hD hF ((hS.lessL hs).dropAt hi hb).snap
theorem PJ.resnap0(hs:∀w∈L',w∈L)(k:∀W,St G L H W->PJ C Q e E D G (W::L') H):PJ C Q e E D G L H:=
 λa W hN hD hF hS=>k W hS a W hN hD hF (hS.lessL hs).snap
variable {c:Code}
theorem CJ.resnap0(hs:∀w∈L',w∈L)(k:∀W,St G L H W->CJ C c Q E D G (W::L') H):CJ C c Q E D G L H:=
 λa W hN hD hF hS=>k W hS a W hN hD hF (hS.lessL hs).snap
end
end Px
