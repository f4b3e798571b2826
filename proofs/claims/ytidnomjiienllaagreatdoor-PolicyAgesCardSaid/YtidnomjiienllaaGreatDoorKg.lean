/- Contracts of functions of the program, each walked once. No condition beyond those that each theorem states. -/
import Derived.Test.YtidnomjiienllaaGreatDoorKf
import Derived.Test.YtidnomjiienllaaGreatDoorProg
import Derived.Test.YtidnomjiienllaaGreatDoorLa
set_option linter.unusedSimpArgs false
set_option linter.unusedVariables false
set_option linter.unusedSectionVars false
set_option maxRecDepth 20000
set_option maxHeartbeats 8000000
namespace Px
open Go Go.RowKit Go.Proofs Go.Proofs.Tryz
structure Fo where
 id:Int
 first:Nat->Int
def foA (f:Fo):Array Value:=#[.int .i64 f.id,.int .u8 (f.first 0),.int .u8 (f.first 1),.int .u8 (f.first 2),.int .u8 (f.first 3),.int .u8 (f.first 4),.int .u8 (f.first 5),.int .u8 (f.first 6),.int .u8 (f.first 7),.int .u8 (f.first 8),.int .u8 (f.first 9),.int .u8 (f.first 10),.int .u8 (f.first 11),.int .u8 (f.first 12),.int .u8 (f.first 13),.int .u8 (f.first 14),.int .u8 (f.first 15),.int .u8 (f.first 16),.int .u8 (f.first 17),.int .u8 (f.first 18),.int .u8 (f.first 19),.int .u8 (f.first 20),.int .u8 (f.first 21),.int .u8 (f.first 22),.int .u8 (f.first 23),.int .u8 (f.first 24),.int .u8 (f.first 25),.int .u8 (f.first 26),.int .u8 (f.first 27),.int .u8 (f.first 28),.int .u8 (f.first 29),.int .u8 (f.first 30),.int .u8 (f.first 31)]
def g0 (f:Fo):Gp:=⟨f.id,0,λ_=>0,[],[]⟩
def g0v (f:Fo):Gv:=⟨g0 f,none,0,none,0⟩
theorem g0v_at(f:Fo)(N:Nat)(w:World):GvAt N w (g0v f):=⟨.inl rfl,.inl rfl,by simp[g0v,g0],by simp[g0v,g0]⟩
theorem nGn(l:List Dk)(k:Dk):dixI l k= -1\/∃j:Nat,dixI l k=(j:Int)/\l[j]? =some k:=by
 unfold dixI;cases h:l.findIdx? λx=>decide (x=k)with
 |none=>exact .inl rfl
 |some j=>
  obtain⟨h1,h2,_⟩:=ajp.1 h;refine .inr ⟨j,rfl,?_⟩;rw[aNo h1];simpa using h2
noncomputable def frO (Z:Fx) (cs:List Cm) (f:Fo):Option Nat:=if dixI ((plT Z cs cs.length).map (·.1)) (dk f.first)<0 then none else((plT Z cs cs.length)[(dixI ((plT Z cs cs.length).map (·.1)) (dk f.first)).toNat]?).map λp=>p.2.toNat
noncomputable def frI (Z:Fx) (cs:List Cm) (f:Fo):Option Nat:=(frO Z cs f).bind λi=>if nxE Z (g0 f) (cmN cs i)=0 then some i else none
structure CdLe (Z:Fx) (cs:List Cm) (g:Gp) (d:Cd):Prop where
 nn:0<=d.at_
 at_:cs[ixD d]? =some d.c
 x:d.x.g=nxG Z g d.c
 ok:nxE Z g d.c=0
variable {C:Cx} {R:Ending->World->Prop} {E:Env} {e:Exit} {M:Foot} {Z:Fx} {G:Gh} {g:Gp} {H:Heap} {D:List Deferred} {gs:List Gv} {L L':List World} {N b i j k tx:Nat} {o:Obj} {a:Option Addr} {W W' w1:World} {I:World->Prop}
theorem CdOk.le{cs:List Cm}{d:Cd}(h:CdOk Z cs g d):CdLe Z cs g d:=⟨h.nn,h.at_,h.x,h.ok⟩
def nDb (b:Nat) (x:Gv):Prop:=(∀q,x.ma=some q->x.g.ms=[]\/q.block≠b)/\(∀q,x.na=some q->x.g.ns=[]\/q.block≠b)
theorem GvNew.off{K:Nat}{x:Gv}(h:(∀q,x.ma=some q->K<=q.block)/\(∀q,x.na=some q->K<=q.block))(hb:b<K):nDb b x:=⟨λq e=>.inr (by have:=h.1 q e;omega),λq e=>.inr (by have:=h.2 q e;omega)⟩
theorem SlAt.ltq{α:Type}{enc:α->Array Value}{n:Nat}{w:World}{xs:List α}(h:SlAt enc n N w a xs):∀q,a=some q->xs=[]\/q.block<N:=by
 intro q e;rcases h with h|⟨b,off,cs,t,fr,h1,h2,_⟩
 ·exact .inl h
 rw[h1]at e;cases e;exact .inr h2
theorem GvAt.off{w:World}{x:Gv}(h:GvAt N w x)(hb:N<=b):nDb b x:=⟨λq e=>(h.ms.ltq q e).imp id (λh=>by omega),λq e=>(h.ns.ltq q e).imp id (λh=>by omega)⟩
theorem GvAt.toO{w:World}{x:Gv}(h:GvAt N w x)(hS:St Gh.no L H W)(hw:w∈L)(hN:N<=w.heap.size)(ho:∀p∈H,nDb p.1 x):GvAt W.heap.size W x:=by
 have key:∀b,(∀p∈H,p.1≠b)->Off H b:=λb hb=>Off.of_mem (λhm=>by obtain⟨p,hp,e⟩:=ano.1 hm;exact hb p hp e);refine⟨h.ms.toG hS hw hN (λb off e=>?_),h.ns.toG hS hw hN (λb off e=>?_),h.mn,h.nn⟩
 ·by_cases h0:x.g.ms=[]
  ·exact .inl h0
  exact .inr (λ_=>⟨λh=>h,key b (λp hp e2=>((ho p hp).1 _ e).resolve_left h0 e2.symm)⟩)
 by_cases h0:x.g.ns=[]
 ·exact .inl h0
 exact .inr (λ_=>⟨λh=>h,key b (λp hp e2=>((ho p hp).2 _ e).resolve_left h0 e2.symm)⟩)
theorem Above.sub(h:Above L b)(hs:∀w∈L',w∈L):Above L' b:=Above.of_mem λw hw=>h.mem w (hs w hw)
theorem nZm(hZ:FxOk Z)(cs:List Cm)(hcs:cs.length<=1000)(hcg:∀c∈cs,CmGood c)(N:Nat)(la:Option Addr)(lc:Nat)(w:World)(hN:N<=w.heap.size)(hsl:SlAt cmA 73 N w la cs)(hC:∀c∈cs,CmAt N w c)(ia:Option Addr)(ic:Nat)(ta:Option Addr)(tc:Nat)(hp:PvAt Z cs N w ⟨ia,ic,ta,tc⟩)(fo:Fo)(hg:Glb w):Calls prog 49 #[.agg (pvA Z cs la lc ⟨ia,ic,ta,tc⟩),.agg (foA fo)] w (RetX w (λq:Cd×Bool=>.tuple #[.agg (cdA q.1),.bool q.2]) (λq w'=>(q.2=true/\frI Z cs fo=some (ixD q.1)/\CdLe Z cs (g0 fo) q.1/\GvAt w'.heap.size w' q.1.x/\GvNew w.heap.size q.1.x)\/(q.2=false/\frI Z cs fo=none))):=by
 have hg4:=hg.lt;have hpl:=n3d Z cs cs.length;have hl1:((plT Z cs cs.length).map (·.1)).length=(plT Z cs cs.length).length:=aAo ..;have hl2:((plT Z cs cs.length).map (·.2)).length=(plT Z cs cs.length).length:=aAo ..;have hids:=hp.ids;have hats:=hp.at_;dsimp only at hids hats;obtain⟨k,hk0⟩:∃k,dixI ((plT Z cs cs.length).map (·.1)) (dk fo.first)=k:=⟨_,rfl⟩;refine enter (vs:=[_,_]) func49 rfl ntmps49 rfl ?_;refine B 3 ?_;intro b2 w2 hb2 ha2 ho2 hm2 hz2;replace ha2:=yb ha2;replace ho2:=yc ho2;refine B 1 ?_;intro b3 w3 hb3 ha3 ho3 hm3 hz3;replace ha3:=yb ha3;replace ho3:=yc ho3;refine zIg ?_;intro b4 ha4 ho4;replace ha4:=yb ha4;replace ho4:=yc ho4;refine B 6 ?_;refine rv rfl rfl rfl (RV.re (v':=.slice ia ((plT Z cs cs.length).map (·.1)).length ic) (ldR_r isAgg35 rfl A1 hb2 hm2 zF rfl) (rfl)) ?_;refine B 1 ?_;refine rv rfl rfl rfl (RV.re (v':=.agg (dg fo.first)) (ldRA_r isAgg43 sizeOf43 rfl A0 hb3 hm3 zF (apo rfl)) (rfl)) ?_;refine call call78 rfl rfl rfl (λW hS=>by rw[<-hk0];exact Index_dg ((plT Z cs cs.length).map (·.1)) zG N ia ic W (aco hN (hS.links w A2).size) (hids.up (abo _) (hS.same A2 hN zN zH)) fo.first) (v:=.int .i64 k) ?_;refine B 5 ?_;rcases nGn ((plT Z cs cs.length).map (·.1)) (dk fo.first)with hd1|⟨j,hd1,hd2⟩
 ·have hk:k= -1:=by rw[<-hk0];exact hd1
  refine B 2 ?_;refine zog ?_;refine B 5 ?_;refine rv rfl rfl rfl (RV.re (v':=.agg (cdA zCd)) (ldWAw_r (i:=0) rfl isAgg104 sizeOf104 rfl rfl) (rfl)) ?_;refine zff ?_;refine B 5 ?_;refine retG (.inl rfl) results49 (RS.wA (i:=0) rfl isAgg104 sizeOf104 rfl (apo rfl) (RS.t rfl RS.n)) λW hS=>⟨(zCd,false),rfl,hS.base A2 zH,.inr ⟨rfl,?_⟩⟩;show frI Z cs fo=none;unfold frI frO;rw[hd1,if_pos zG];rfl
 have hk:k=(j:Int):=by rw[<-hk0];exact hd1
 refine zJh ?_;refine B 6 ?_;obtain⟨q,hq⟩:=nj (plT Z cs cs.length) j (by have:=nz hd2;omega);obtain⟨i,c,hqi,hil,hc,hqk⟩:=nbi Z cs _ q (ajo hq);have hx2:((plT Z cs cs.length).map (·.2))[j]? =some ((i:Nat):Int):=by rw[aSo,hq,aTo,hqi]
 have hjl:=nz hx2;have hcm:=ajo hc;obtain⟨e,he⟩:∃e,nxE Z (g0 fo) c=e:=⟨_,rfl⟩;subst hk;obtain⟨ba,oa,csa,ta,fra,rfl,hba,hcsa,hela⟩:=hats.get zG;obtain⟨bl,ol,csl,tl,frl,rfl,hbl,hcsl,hell⟩:=hsl.get zG;have hk:dixI ((plT Z cs cs.length).map (·.1)) (dk fo.first)=(j:Int):=hd1;refine CJ.less (E':=[(0,_),(1,_),(2,_),(3,_),(4,_),(5,_),(6,_),(9,_),(10,_),(11,_),(12,_),(13,_),(14,_),(15,_)]) zR ?_;refine CJ.ntS 18 [12,13,14,16,17] [([],some _),([0],some (.int .i64 fo.id)),([1],some (.agg (gpA (g0v fo)))),([],some _),([3],some (.slice (some ⟨bl,ol,none⟩) cs.length lc)),([],some _),([5],some (.slice (some ⟨ba,oa,none⟩) ((plT Z cs cs.length).map (·.2)).length tc)),([],some _),([6,7],some _),([8],some (.int .i64 (i:Int))),([4,9],some _),([10],some (.agg (cmA c))),([2,11],none),([12],none),([13],none),([13],some (.int .i64 e)),([],none),([14,16],none)] [[],[0],[0,1],[],[0,1,2,3]] (λcv L' H'=>match cv with| [none,none,none,none,none]=>L'=[w3,w2,w]/\H'=[(b4,.cells (cdA zCd) 104 (0,0))]| [none,none,none,some v16,none]=>∃(b7:Nat),v16=ptr b7 0/\L'=[w3,w2,w]/\H'=[(b7,.cells (gpA zGv) 62 (0,0)),(b4,.cells (cdA zCd) 104 (0,0))]/\w3.heap.size<=b7| [some v12,none,none,none,none]=>∃(Xn:Gv) (w12:World),v12= .tuple #[.agg (gpA Xn),.int .i64 e]/\L'=[w12,w3,w2,w]/\H'=[(b4,.cells (cdA zCd) 104 (0,0))]/\Xn.g=nxR Z (g0 fo) c/\GvAt w12.heap.size w12 Xn/\nDb b4 Xn/\GvNew w.heap.size Xn| [some v12,none,none,some v16,none]=>∃(Xn:Gv) (w12:World) (b7:Nat),v12= .tuple #[.agg (gpA Xn),.int .i64 e]/\v16=ptr b7 0/\L'=[w12,w3,w2,w]/\H'=[(b7,.cells (gpA zGv) 62 (0,0)),(b4,.cells (cdA zCd) 104 (0,0))]/\Xn.g=nxR Z (g0 fo) c/\GvAt w12.heap.size w12 Xn/\nDb b4 Xn/\GvNew w.heap.size Xn/\w3.heap.size<=b7/\nDb b7 Xn| [some v12,some v13,none,none,none]=>∃(Xn:Gv) (w12:World),v12= .tuple #[.agg (gpA Xn),.int .i64 e]/\v13= .tuple #[.agg (gpA Xn),.int .i64 e]/\L'=[w12,w3,w2,w]/\H'=[(b4,.cells (cdA zCd) 104 (0,0))]/\Xn.g=nxR Z (g0 fo) c/\GvAt w12.heap.size w12 Xn/\nDb b4 Xn/\GvNew w.heap.size Xn| [some v12,some v13,none,some v16,none]=>∃(Xn:Gv) (w12:World) (b7:Nat),v12= .tuple #[.agg (gpA Xn),.int .i64 e]/\v13= .tuple #[.agg (gpA Xn),.int .i64 e]/\v16=ptr b7 0/\L'=[w12,w3,w2,w]/\H'=[(b7,.cells (gpA zGv) 62 (0,0)),(b4,.cells (cdA zCd) 104 (0,0))]/\Xn.g=nxR Z (g0 fo) c/\GvAt w12.heap.size w12 Xn/\nDb b4 Xn/\GvNew w.heap.size Xn/\w3.heap.size<=b7/\nDb b7 Xn| [some v12,some v13,some v14,none,none]=>∃(Xn:Gv) (w12:World),v12= .tuple #[.agg (gpA Xn),.int .i64 e]/\v13= .tuple #[.agg (gpA Xn),.int .i64 e]/\v14= .agg (gpA Xn)/\L'=[w12,w3,w2,w]/\H'=[(b4,.cells (cdA zCd) 104 (0,0))]/\Xn.g=nxR Z (g0 fo) c/\GvAt w12.heap.size w12 Xn/\nDb b4 Xn/\GvNew w.heap.size Xn| [some v12,some v13,some v14,some v16,none]=>∃(Xn:Gv) (w12:World) (b7:Nat),v12= .tuple #[.agg (gpA Xn),.int .i64 e]/\v13= .tuple #[.agg (gpA Xn),.int .i64 e]/\v14= .agg (gpA Xn)/\v16=ptr b7 0/\L'=[w12,w3,w2,w]/\H'=[(b7,.cells (gpA zGv) 62 (0,0)),(b4,.cells (cdA zCd) 104 (0,0))]/\Xn.g=nxR Z (g0 fo) c/\GvAt w12.heap.size w12 Xn/\nDb b4 Xn/\GvNew w.heap.size Xn/\w3.heap.size<=b7/\nDb b7 Xn| [some v12,some v13,some v14,some v16,some v17]=>∃(Xn:Gv) (w12:World) (b7:Nat),v12= .tuple #[.agg (gpA Xn),.int .i64 e]/\v13= .tuple #[.agg (gpA Xn),.int .i64 e]/\v14= .agg (gpA Xn)/\v16=ptr b7 0/\v17= .tuple #[]/\L'=[w12,w3,w2,w]/\H'=[(b7,.cells (gpA Xn) 62 (0,0)),(b4,.cells (cdA zCd) 104 (0,0))]/\Xn.g=nxR Z (g0 fo) c/\GvAt w12.heap.size w12 Xn/\nDb b4 Xn/\GvNew w.heap.size Xn/\w3.heap.size<=b7/\nDb b7 Xn|_=>False) zM ⟨rfl,rfl⟩ zM zM zM zM zM zM zM rfl (qc (by exact λcv L' H' _ _ hP=>X.val rfl rfl (fld_r underlying45 rfl sizeOf3 rfl) R2) (qc zcv (qc (by exact λcv L' H' _ _ hP=>X.val rfl rfl (bldS_r underlying62 zeroValue62 (PlF.c sizeOf3 (PlF.c sizeOf3 (PlF.c sizeOf43 (PlF.c sizeOf57 (PlF.c sizeOf60 (PlF.n)))))) rfl rfl) R2) (qc (by exact λcv L' H' _ _ hP=>X.val rfl rfl (fld_r underlying95 rfl sizeOf24 rfl) R2) (qc zcv (qc (by exact λcv L' H' _ _ hP=>X.val rfl rfl (fld_r underlying95 rfl sizeOf32 rfl) R2) (qc zcv (qc z0b (qc (by exact λcv L' H' _ _ hP=>X.val rfl rfl (idxS_r underlying32 sizeOf3 rfl rfl zG zG) R2) (qc zcv (qc (by exact λcv L' H' _ _ hP=>X.val rfl rfl (idxS_r underlying24 sizeOf102 rfl rfl zG zG) R2) (qc zcv (qk (qk (qk (qc (λcv L' H' hl hd hP=>by obtain⟨x12,x13,x14,x16,x17,rfl⟩:=len5 hl;(rcases x12 with _|v12<;>rcases x13 with _|v13<;>rcases x14 with _|v14<;>rcases x16 with _|v16<;>rcases x17 with _|v17<;>try exact False.elim hP);exact(absurd (show false=true from hd) zI);exact(absurd (show false=true from hd) zI);exact(absurd (show false=true from hd) zI);exact(absurd (show false=true from hd) zI);(obtain⟨Xn,w12,rfl,rfl,rfl,rfl,hX1,hX2,hX4,hX5⟩:=hP;exact X.val rfl rfl (ext_r rfl rfl) R2);(obtain⟨Xn,w12,b7,rfl,rfl,rfl,rfl,rfl,hX1,hX2,hX4,hX5,ha7,hX7⟩:=hP;exact X.val rfl rfl (ext_r rfl rfl) R2);(obtain⟨Xn,w12,rfl,rfl,rfl,rfl,rfl,hX1,hX2,hX4,hX5⟩:=hP;exact X.val rfl rfl (ext_r rfl rfl) R2);(obtain⟨Xn,w12,b7,rfl,rfl,rfl,rfl,rfl,rfl,hX1,hX2,hX4,hX5,ha7,hX7⟩:=hP;exact X.val rfl rfl (ext_r rfl rfl) R2);(obtain⟨Xn,w12,b7,rfl,rfl,rfl,rfl,rfl,rfl,rfl,hX1,hX2,hX4,hX5,ha7,hX7⟩:=hP;exact X.val rfl rfl (ext_r rfl rfl) R2)) (qk (qk (qn))))))))))))))))))) ?_ ?_
 ·refine ncS rfl rfl rfl ?_ ?_
  ·intro cv L' H' hl hr hP F Q' hk;obtain⟨x12,x13,x14,x16,x17,rfl⟩:=len5 hl;rcases x12 with _|v12<;>rcases x13 with _|v13<;>rcases x14 with _|v14<;>rcases x16 with _|v16<;>rcases x17 with _|v17<;>try exact False.elim hP
   ·obtain⟨rfl,rfl⟩:=hP;refine zFe ?_;rintro W9 Xn w12 hS9 hB9 ⟨hX1,hX2,hX3⟩;try dsimp only at hX1 hX2 hX3
    have hb4l:=hS9.lt (b4,_) A0;try dsimp only at hb4l
    have hzw9:=(hS9.links w A2).size;have hX4:=GvNew.off hX3 hb4l;have hX5:GvNew w.heap.size Xn:=⟨λq e=>.inr (aco hzw9 (hX3.1 q e)),λq e=>.inr (aco hzw9 (hX3.2 q e))⟩;exact OJ.done (hk _ _ _ ⟨Xn,w12,rfl,rfl,rfl,hX1,hX2,hX4,hX5⟩)
   ·obtain⟨b7,rfl,rfl,rfl,ha7⟩:=hP;refine zFe ?_;rintro W9 Xn w12 hS9 hB9 ⟨hX1,hX2,hX3⟩;try dsimp only at hX1 hX2 hX3
    have hb4l:=hS9.lt (b4,_) A1;try dsimp only at hb4l
    have hb7l:=hS9.lt (b7,_) A0;try dsimp only at hb7l
    have hzw9:=(hS9.links w A2).size;have hX4:=GvNew.off hX3 hb4l;have hX5:GvNew w.heap.size Xn:=⟨λq e=>.inr (aco hzw9 (hX3.1 q e)),λq e=>.inr (aco hzw9 (hX3.2 q e))⟩;have hX7:=GvNew.off hX3 hb7l;exact OJ.done (hk _ _ _ ⟨Xn,w12,b7,rfl,rfl,rfl,rfl,hX1,hX2,hX4,hX5,ha7,hX7⟩)
   ·exact z1h
   ·exact z1h
   ·exact z1h
   ·exact z1h
   ·exact z1h
   ·exact z1h
   exact z1h
  refine ncS rfl rfl rfl ?_ ?_
  ·intro cv L' H' hl hr hP F Q' hk;obtain⟨x12,x13,x14,x16,x17,rfl⟩:=len5 hl;rcases x12 with _|v12<;>rcases x13 with _|v13<;>rcases x14 with _|v14<;>rcases x16 with _|v16<;>rcases x17 with _|v17<;>try exact False.elim hP
   ·exact z1h
   ·exact z1h
   ·obtain⟨Xn,w12,rfl,rfl,rfl,hX1,hX2,hX4,hX5⟩:=hP;refine B 1 ?_;exact OJ.done (hk _ _ _ ⟨Xn,w12,rfl,rfl,rfl,rfl,hX1,hX2,hX4,hX5⟩)
   ·obtain⟨Xn,w12,b7,rfl,rfl,rfl,rfl,hX1,hX2,hX4,hX5,ha7,hX7⟩:=hP;refine B 1 ?_;exact OJ.done (hk _ _ _ ⟨Xn,w12,b7,rfl,rfl,rfl,rfl,rfl,hX1,hX2,hX4,hX5,ha7,hX7⟩)
   ·exact z1h
   ·exact z1h
   ·exact z1h
   ·exact z1h
   exact z1h
  refine ncS rfl rfl rfl ?_ ?_
  ·intro cv L' H' hl hr hP F Q' hk;obtain⟨x12,x13,x14,x16,x17,rfl⟩:=len5 hl;rcases x12 with _|v12<;>rcases x13 with _|v13<;>rcases x14 with _|v14<;>rcases x16 with _|v16<;>rcases x17 with _|v17<;>try exact False.elim hP
   ·exact z1h
   ·exact z1h
   ·exact z1h
   ·exact z1h
   ·obtain⟨Xn,w12,rfl,rfl,rfl,rfl,hX1,hX2,hX4,hX5⟩:=hP;refine B 1 ?_;exact OJ.done (hk _ _ _ ⟨Xn,w12,rfl,rfl,rfl,rfl,rfl,hX1,hX2,hX4,hX5⟩)
   ·obtain⟨Xn,w12,b7,rfl,rfl,rfl,rfl,rfl,hX1,hX2,hX4,hX5,ha7,hX7⟩:=hP;refine B 1 ?_;exact OJ.done (hk _ _ _ ⟨Xn,w12,b7,rfl,rfl,rfl,rfl,rfl,rfl,hX1,hX2,hX4,hX5,ha7,hX7⟩)
   ·exact z1h
   ·exact z1h
   exact z1h
  refine ncS rfl rfl rfl ?_ ?_
  ·intro cv L' H' hl hr hP F Q' hk;obtain⟨x12,x13,x14,x16,x17,rfl⟩:=len5 hl;rcases x12 with _|v12<;>rcases x13 with _|v13<;>rcases x14 with _|v14<;>rcases x16 with _|v16<;>rcases x17 with _|v17<;>try exact False.elim hP
   ·obtain⟨rfl,rfl⟩:=hP;refine zYe ?_;intro b7 ha ho;exact OJ.done (hk _ _ _ ⟨b7,rfl,rfl,rfl,(ha.mem w3 zS)⟩)
   ·exact z1h
   ·obtain⟨Xn,w12,rfl,rfl,rfl,hX1,hX2,hX4,hX5⟩:=hP;refine zYe ?_;intro b7 ha ho;have hX7:nDb b7 Xn:=hX2.off (by have:=ha.not (w:=w12) A0;omega);exact OJ.done (hk _ _ _ ⟨Xn,w12,b7,rfl,rfl,rfl,rfl,hX1,hX2,hX4,hX5,(ha.mem w3 zS),hX7⟩)
   ·exact z1h
   ·obtain⟨Xn,w12,rfl,rfl,rfl,rfl,hX1,hX2,hX4,hX5⟩:=hP;refine zYe ?_;intro b7 ha ho;have hX7:nDb b7 Xn:=hX2.off (by have:=ha.not (w:=w12) A0;omega);exact OJ.done (hk _ _ _ ⟨Xn,w12,b7,rfl,rfl,rfl,rfl,rfl,hX1,hX2,hX4,hX5,(ha.mem w3 zS),hX7⟩)
   ·exact z1h
   ·obtain⟨Xn,w12,rfl,rfl,rfl,rfl,rfl,hX1,hX2,hX4,hX5⟩:=hP;refine zYe ?_;intro b7 ha ho;have hX7:nDb b7 Xn:=hX2.off (by have:=ha.not (w:=w12) A0;omega);exact OJ.done (hk _ _ _ ⟨Xn,w12,b7,rfl,rfl,rfl,rfl,rfl,rfl,hX1,hX2,hX4,hX5,(ha.mem w3 zS),hX7⟩)
   ·exact z1h
   exact z1h
  refine ncS rfl rfl rfl ?_ ?_
  ·intro cv L' H' hl hr hP F Q' hk;obtain⟨x12,x13,x14,x16,x17,rfl⟩:=len5 hl;rcases x12 with _|v12<;>rcases x13 with _|v13<;>rcases x14 with _|v14<;>rcases x16 with _|v16<;>rcases x17 with _|v17<;>try exact False.elim hP
   ·exact z1h
   ·exact z1h
   ·exact z1h
   ·exact z1h
   ·exact z1h
   ·exact z1h
   ·exact z1h
   ·obtain⟨Xn,w12,b7,rfl,rfl,rfl,rfl,rfl,rfl,hX1,hX2,hX4,hX5,ha7,hX7⟩:=hP;refine zje ?_;exact OJ.done (hk (.tuple #[]) _ _ ⟨Xn,w12,b7,rfl,rfl,rfl,rfl,rfl,rfl,rfl,hX1,hX2,hX4,hX5,ha7,hX7⟩)
   exact z1h
  exact nnS
 intro cv L' H' hl hr hP;obtain⟨x12,x13,x14,x16,x17,rfl⟩:=len5 hl;rcases x12 with _|v12<;>rcases x13 with _|v13<;>rcases x14 with _|v14<;>rcases x16 with _|v16<;>rcases x17 with _|v17
 ·exact z1h
 ·exact z1h
 ·exact z1h
 ·exact z1h
 ·exact z1h
 ·exact z1h
 ·exact z1h
 ·exact z1h
 ·exact z1h
 ·exact z1h
 ·exact z1h
 ·exact z1h
 ·exact z1h
 ·exact z1h
 ·exact z1h
 ·exact z1h
 ·exact z1h
 ·exact z1h
 ·exact z1h
 ·exact z1h
 ·exact z1h
 ·exact z1h
 ·exact z1h
 ·exact z1h
 ·exact z1h
 ·exact z1h
 ·exact z1h
 ·exact z1h
 ·exact z1h
 ·exact z1h
 ·exact z1h
 obtain⟨Xn,w12,b7,rfl,rfl,rfl,rfl,rfl,rfl,rfl,hX1,hX2,hX4,hX5,ha7,hX7⟩:=hP;refine B 4 ?_;refine CJ.less (E':=[(0,_),(1,_),(2,_),(3,_),(4,_),(5,_),(6,_),(7,_),(8,_),(9,_),(10,_),(11,_),(12,_),(13,_),(14,_),(15,_),(17,_),(18,_),(19,_),(20,_),(21,_),(22,_),(23,_),(24,_),(25,_),(26,_),(27,_),(28,_),(29,_),(30,_),(31,_),(32,_)]) zR ?_;refine nyg 21 [20] [([],some _),([0],some (.slice (some ⟨ba,oa,none⟩) ((plT Z cs cs.length).map (·.2)).length tc)),([],some _),([1,2],some _),([3],some (.int .i64 (i:Int))),([],some _),([5],some (.slice (some ⟨bl,ol,none⟩) cs.length lc)),([],some _),([7],some (.slice (some ⟨ba,oa,none⟩) ((plT Z cs cs.length).map (·.2)).length tc)),([],some _),([8,9],some _),([10],some (.int .i64 (i:Int))),([6,11],some _),([12],some (.agg (cmA c))),([],some _),([14],some (.agg (dg fo.first))),([],some (.agg (gpA Xn))),([4,13,15,16],some (.agg (cdA (⟨(i:Int),c,fo.first,0,Xn⟩:Cd)))),([],some _),([18],some _),([17],none)] (λcv L' H'=>match cv with| []=>L'=[w12,w3,w2,w]/\H'=[(b7,.cells (gpA Xn) 62 (0,0)),(b4,.cells (cdA zCd) 104 (0,0))]| [v1]=>v1= .tuple #[]/\L'=[w12,w3,w2,w]/\H'=[(b7,.cells (gpA Xn) 62 (0,0)),(b4,.cells (cdA (⟨(i:Int),c,fo.first,0,Xn⟩:Cd)) 104 (0,0))]|_=>False) zM ⟨rfl,rfl⟩ zM zM zM zM zM zM zM (pc (by exact λcv L' H' hd hP=>X.val rfl rfl (fld_r underlying95 rfl sizeOf32 rfl) R2) (pc zcw (pc zP (pc (by exact λcv L' H' hd hP=>X.val rfl rfl (idxS_r underlying32 sizeOf3 rfl rfl zG zG) R2) (pc zcw (pc (by exact λcv L' H' hd hP=>X.val rfl rfl (fld_r underlying95 rfl sizeOf24 rfl) R2) (pc zcw (pc (by exact λcv L' H' hd hP=>X.val rfl rfl (fld_r underlying95 rfl sizeOf32 rfl) R2) (pc zcw (pc zP (pc (by exact λcv L' H' hd hP=>X.val rfl rfl (idxS_r underlying32 sizeOf3 rfl rfl zG zG) R2) (pc zcw (pc (by exact λcv L' H' hd hP=>X.val rfl rfl (idxS_r underlying24 sizeOf102 rfl rfl zG zG) R2) (pc zcw (pc (by exact λcv L' H' hd hP=>X.val rfl rfl (fld_r underlying45 rfl sizeOf43 rfl) R2) (pc zcw (pc zcw (pc zgc (pc zP (pc (by exact λcv L' H' hd hP=>X.val rfl rfl (eqlI_r rfl rfl) R2) (pk (pn)))))))))))))))))))))) ?_ ?_
 ·refine ss rfl rfl ?_ ?_
  ·intro cv L' H' hl hP F Q' hk;obtain rfl:=aap hl;obtain⟨rfl,rfl⟩:=hP;refine z1g ?_;exact OJ.done (hk (.tuple #[]) _ _ ⟨rfl,rfl,rfl⟩)
  exact ssn
 intro cv L' H' hl hP;obtain⟨v1,rfl⟩:=len1 hl;obtain⟨rfl,rfl,rfl⟩:=hP;refine B 4 ?_;have hfo:frO Z cs fo=some i:=by unfold frO;rw[hk,if_neg zG,a8o,hq,aTo,hqi,a8o]
 have hcN:cmN cs i=c:=by unfold cmN;rw[hc];rfl
 refine retG (.inl rfl) results49 (RS.wA (i:=1) rfl isAgg104 sizeOf104 rfl (apo rfl) (RS.t rfl RS.n)) λW hS=>⟨((⟨(i:Int),c,fo.first,0,Xn⟩:Cd),decide (e=0)),rfl,hS.base A3 zH,?_⟩;by_cases he0:e=0
 ·refine .inl ⟨decide_eq_true he0,by unfold frI;rw[hfo,Option.bind_some,hcN,he,if_pos he0];rfl,⟨Int.natCast_nonneg _,hc,hX1.trans (if_pos (by rw[he];exact he0)),by rw[<-he0];exact he⟩,hX2.toO hS A0 (abo _) (λp hp=>?_),hX5⟩;simp only[adp,a9o,aeo,aCo,or_false]at hp;rcases hp with rfl|rfl
  ·exact hX7
  exact hX4
 exact .inr ⟨decide_eq_false he0,by unfold frI;rw[hfo,Option.bind_some,hcN,he,if_neg he0]⟩
def muC (cs:List Cm) (e:Int):Nat:=(cs.filter λc=>decide (e<c.epoch)).length
theorem muC_le(cs:List Cm)(e:Int):muC cs e<=cs.length:=aAp _ _
theorem nll(e:Int):∀cs:List Cm,muC cs (e+1)<=muC cs e
 | []=>abo _
 |c::cs=>by
  have ih:=nll e cs;unfold muC at ih ⊢;by_cases h1:e+1<c.epoch
  ·rw[aBp zmd,aBp zGb];simp only[axo];omega
  rw[aCp zmd];by_cases h2:e<c.epoch
  ·rw[aBp zGc];simp only[axo];omega
  rw[aCp zGc];exact ih
theorem nBk{e:Int}{c:Cm}(he:c.epoch=e+1):∀{cs:List Cm},c∈cs->muC cs (e+1)<muC cs e
 | [],h=>by cases h
 |b::cs,h=>by
  rcases aeo.1 h with rfl|h
  ·have ih:=nll e cs;unfold muC at ih ⊢;rw[aCp zGb,aBp zGb];simp only[axo];omega
  have ih:=nBk he h;unfold muC at ih ⊢;by_cases h1:e+1<b.epoch
  ·rw[aBp zmd,aBp zGb];simp only[axo];omega
  rw[aCp zmd];by_cases h2:e<b.epoch
  ·rw[aBp zGc];simp only[axo];omega
  rw[aCp zGc];exact ih
theorem muC_self{c:Cm}{cs:List Cm}(h:c∈cs):1+muC cs c.epoch<=cs.length:=by
 have h1:=nBk (e:=c.epoch-1) (c:=c) zG h;rw[show c.epoch-1+1=c.epoch by omega]at h1;have:=muC_le cs (c.epoch-1);omega
theorem nHd{c:Cm}(h:nxE Z g c=0):c.epoch=g.epoch+1:=by
 unfold nxE at h;split at h
 ·split at h
  ·split at h
   ·rename_i _ _ hf;unfold fitB at hf;simp only[awo,decide_eq_true_eq]at hf;exact hf.1.2
   cases h
  cases h
 cases h
def ChG (Z:Fx) (cs:List Cm):Gp->List (Nat×Gp)->Prop
 |g,[]=>wnI Z cs g=none
 |g,p::l=>wnI Z cs g=some p.1/\p.2=nxG Z g (cmN cs p.1)/\ChG Z cs p.2 l
def ChF (Z:Fx) (cs:List Cm) (fo:Fo):List (Nat×Gp)->Prop
 | []=>frI Z cs fo=none
 |p::l=>frI Z cs fo=some p.1/\p.2=nxG Z (g0 fo) (cmN cs p.1)/\ChG Z cs p.2 l
theorem ChG.uniq{Z:Fx}{cs:List Cm}:∀{l l':List (Nat×Gp)} {g:Gp},ChG Z cs g l->ChG Z cs g l'->l=l'
 | [],[],_,_,_=>rfl
 | [],p::l,_,h,h'=>by have:=h.symm.trans h'.1;cases this
 |p::l,[],_,h,h'=>by have:=h'.symm.trans h.1;cases this
 |p::l,q::l',g,h,h'=>by
  have e1:p.1=q.1:=Option.some.inj (h.1.symm.trans h'.1);have e2:p.2=q.2:=by rw[h.2.1,h'.2.1,e1]
  have e3:=ChG.uniq h.2.2 (e2▸h'.2.2);rw[show p=q from Prod.ext e1 e2,e3]
variable {fo:Fo}
theorem ChF.uniq{cs:List Cm}:∀{l l':List (Nat×Gp)},ChF Z cs fo l->ChF Z cs fo l'->l=l'
 | [],[],_,_=>rfl
 | [],p::l,h,h'=>by have:=h.symm.trans h'.1;cases this
 |p::l,[],h,h'=>by have:=h'.symm.trans h.1;cases this
 |p::l,q::l',h,h'=>by
  have e1:p.1=q.1:=Option.some.inj (h.1.symm.trans h'.1);have e2:p.2=q.2:=by rw[h.2.1,h'.2.1,e1]
  have e3:=ChG.uniq h.2.2 (e2▸h'.2.2);rw[show p=q from Prod.ext e1 e2,e3]
def prj (d:Cd):Nat×Gp:=(ixD d,d.x.g)
def GvOut (Y:Foot) (x:Gv):Prop:=(∀q,x.ma=some q->x.g.ms=[]\/¬Y q.block)/\(∀q,x.na=some q->x.g.ns=[]\/¬Y q.block)
theorem GvNew.out{K:Nat}{Y:Foot}{x:Gv}(h:GvNew K x)(hy:∀k,Y k->k<K):GvOut Y x:=⟨λq e=>(h.1 q e).imp id (λh h2=>by have:=hy _ h2;omega),λq e=>(h.2 q e).imp id (λh h2=>by have:=hy _ h2;omega)⟩
theorem GvNew.offb{K:Nat}{x:Gv}(h:GvNew K x)(hb:b<K):nDb b x:=⟨λq e=>(h.1 q e).imp id (λh=>by omega),λq e=>(h.2 q e).imp id (λh=>by omega)⟩
theorem GvOut.up{w:World}{Y Y':Foot}{x:Gv}(h:GvOut Y x)(ha:GvAt N w x)(hy:∀k,Y' k->Y k\/N<=k):GvOut Y' x:=
 ⟨λq e=>by
  rcases h.1 q e with h1|h1
  ·exact .inl h1
  rcases ha.ms.ltq q e with h2|h2
  ·exact .inl h2
  exact .inr (λh3=>(hy _ h3).elim h1 (λh4=>by omega)),
  λq e=>by
   rcases h.2 q e with h1|h1
   ·exact .inl h1
   rcases ha.ns.ltq q e with h2|h2
   ·exact .inl h2
   exact .inr (λh3=>(hy _ h3).elim h1 (λh4=>by omega))⟩
theorem GvAt.toZ{w:World}{x:Gv}(h:GvAt N w x)(hS:St G L H W)(hw:w∈L)(hN:N<=w.heap.size)(hx:GvOut G.X x)(ho:∀p∈H,nDb p.1 x):GvAt W.heap.size W x:=by
 have key:∀b,(∀p∈H,p.1≠b)->Off H b:=λb hb=>Off.of_mem (λhm=>by obtain⟨p,hp,e⟩:=ano.1 hm;exact hb p hp e);refine⟨h.ms.toG hS hw hN (λb off e=>?_),h.ns.toG hS hw hN (λb off e=>?_),h.mn,h.nn⟩
 ·by_cases h0:x.g.ms=[]
  ·exact .inl h0
  exact .inr (λ_=>⟨(hx.1 _ e).resolve_left h0,key b (λp hp e2=>((ho p hp).1 _ e).resolve_left h0 e2.symm)⟩)
 by_cases h0:x.g.ns=[]
 ·exact .inl h0
 exact .inr (λ_=>⟨(hx.2 _ e).resolve_left h0,key b (λp hp e2=>((ho p hp).2 _ e).resolve_left h0 e2.symm)⟩)
structure ChS (Z:Fx) (cs:List Cm) (fo:Fo) (M:Foot) (pre:List Cd) (d:Cd) (V:Foot) (wk:World) (b4:Nat):Prop where
 next:∀l,ChG Z cs d.x.g l->ChF Z cs fo (pre.map prj++prj d::l)
 lies:GvAt wk.heap.size wk d.x
 out:GvOut (λk=>M k\/V k) d.x
 off:nDb b4 d.x
 mu:pre.length+1+muC cs d.x.g.epoch<=cs.length
theorem CdLe.nx{cs:List Cm}{d:Cd}(h:CdLe Z cs g d):d.x.g=nxG Z g (cmN cs (ixD d)):=by rw[h.x];unfold cmN;rw[h.at_];rfl
theorem ChS.first{cs:List Cm}{d:Cd}{w9:World}{b4 K:Nat}(h:frI Z cs fo=some (ixD d))(hd:CdLe Z cs (g0 fo) d)(ha:GvAt w9.heap.size w9 d.x)(hn:GvNew K d.x)(hM:∀k,M k->k<K)(hb:w9.heap.size<=b4):ChS Z cs fo M [] d (λ_=>False) w9 b4 where
 next:=λl hl=>⟨h,hd.nx,hl⟩
 lies:=ha
 out:=hn.out (λk hk=>hk.elim (hM k) (λh=>h.elim))
 off:=ha.off hb
 mu:=by
  have h1:=muC_self (ajo hd.at_);rw[hd.x];simp only[a1o,nxG];omega
theorem ChS.step{cs:List Cm}{V V2:Foot}{pre:List Cd}{d d2:Cd}{wk w9:World}{b4 b5 K:Nat}(hc:ChS Z cs fo M pre d V wk b4)(h:wnI Z cs d.x.g=some (ixD d2))(hd:CdLe Z cs d.x.g d2)(ha:GvAt w9.heap.size w9 d2.x)(hn:GvNew K d2.x)(hM:∀k,M k->k<K)(hV:∀k,V2 k->k<K)(hb:b5<K):ChS Z cs fo M (pre++[d]) d2 V2 w9 b5 where
 next:=λl hl=>by
  have h1:=hc.next (prj d2::l) ⟨h,hd.nx,hl⟩;rw[ayo,a2o];exact h1
 lies:=ha
 out:=hn.out (λk hk=>hk.elim (hM k) (hV k))
 off:=hn.offb hb
 mu:=by
  have h1:=hc.mu;have h2:=nHd hd.ok;have h3:=nBk h2 (ajo hd.at_);rw[hd.x];simp only[aHo,axo,a1o,nxG,h2];omega
theorem ChS.stop{cs:List Cm}{V:Foot}{pre:List Cd}{d:Cd}{wk:World}{b4:Nat}(hc:ChS Z cs fo M pre d V wk b4)(h:wnI Z cs d.x.g=none):ChF Z cs fo ((pre++[d]).map prj):=by
 rw[ayo];exact hc.next [] h
def plRO (NQ NR NX:Nat):Foot:=λk=>k<NX/\(k<NQ\/NR<=k)
structure PlB (Z:Fx) (cs:List Cm) (la ia ta:Option Addr) (ic tc NQ NR NX:Nat) (W:World):Prop where
 q:NQ<=NX
 x:NX<=W.heap.size
 n3:3<=NQ
 sl:SlAt cmA 73 NQ W la cs
 C:∀c∈cs,CmAt NQ W c
 p:PvAt Z cs NX W ⟨ia,ic,ta,tc⟩
 pi:∀q,ia=some q->NR<=q.block
 pt:∀q,ta=some q->NR<=q.block
 g:Glb W
theorem PlB.args{cs:List Cm}{la ia ta:Option Addr}{ic tc NQ NR NX:Nat}(h:PlB Z cs la ia ta ic tc NQ NR NX W)(hs:W.heap.size<=W'.heap.size)(same:∀k,plRO NQ NR NX k->W'.heap[k]? =W.heap[k]?):SlAt cmA 73 W'.heap.size W' la cs/\(∀c∈cs,CmAt W'.heap.size W' c)/\PvAt Z cs W'.heap.size W' ⟨ia,ic,ta,tc⟩/\Glb W':=by
 have hq:=h.q;have hx:=h.x;have h3:=h.n3
 have s2:∀k,k<NQ->W'.heap[k]? =W.heap[k]? :=λk hk=>same k ⟨by omega,.inl hk⟩;refine⟨h.sl.up zG s2,λc hc=>(h.C c hc).up zG s2,⟨h.p.ids.blk λb off e hb=>⟨by omega,same b ⟨hb,.inr (h.pi _ e)⟩⟩,h.p.at_.blk λb off e hb=>⟨by omega,same b ⟨hb,.inr (h.pt _ e)⟩⟩⟩,?_⟩;obtain⟨⟨t,fr,h0⟩,t2,fr2,h2⟩:=h.g;exact⟨⟨t,fr,(s2 0 zG).trans h0⟩,t2,fr2,(s2 2 zG).trans h2⟩
theorem PlB.same{cs:List Cm}{la ia ta:Option Addr}{ic tc NQ NR NX:Nat}{V:Foot}{hM:∀k,M k->k<W.heap.size/\¬(λ_=>False) k/\¬plRO NQ NR NX k}{hI:Stab (λk=>(k<W.heap.size/\¬(λ_=>False) k)\/V k) I}(h:PlB Z cs la ia ta ic tc NQ NR NX W)(hS:St (it2 hM V hI) L H W')(hw:W∈L)(hV:∀k,V k->W.heap.size<=k)(ho:Over W.heap.size H):∀k,plRO NQ NR NX k->W'.heap[k]? =W.heap[k]? :=λk hk=>by
 have hx:=h.x;have hk1:=hk.1
 refine(hS.links W hw).block k zG ?_;rintro((h1|h1)|h1)
 ·exact(hM k h1).2.2 hk
 ·have:=hV k h1;omega
 obtain⟨p,hp,rfl⟩:=ano.1 h1;have:=ho.mem p hp;omega
theorem CJ.resnap{c:Code}{Q:Post}(hi:H[i]? =some (b,o))(hb:Above L' b)(hs:∀w∈L',w∈L)(k:∀W,St G L H W->CJ C c Q E D G (W::L') (H.eraseIdx i)):CJ C c Q E D G L H:=
 λa W hN hD hF hS=>k W hS a W hN hD hF ((hS.lessL hs).dropAt hi hb).snap
theorem nRm(hZ:FxOk Z)(cs:List Cm)(hcs:cs.length<=1000)(hcg:∀c∈cs,CmGood c)(NQ NR NX:Nat)(la:Option Addr)(lc:Nat)(ia:Option Addr)(ic:Nat)(ta:Option Addr)(tc:Nat)(fo:Fo)(b1 b2:Nat)(W:World)(hPB:PlB Z cs la ia ta ic tc NQ NR NX W)(hR:NR<=b1/\b1<NX/\NR<=b2/\b2<NX)(hb1:W.heap[b1]? =some (.cells (pvA Z cs la lc ⟨ia,ic,ta,tc⟩) 95 (0,0)))(hb2:W.heap[b2]? =some (.cells (foA fo) 45 (0,0))):n7b prog 48 [ptr b1 0,ptr b2 0] (λd:Cd=>[.agg (cdA d)]) (λp:List Cd=>p.length<=cs.length) (λxs:List Cd=>ChF Z cs fo (xs.map prj)/\xs.length<=cs.length) (λ_=>False) (plRO NQ NR NX) W:=by
 intro l M I X0 hM hI hX hy h0;have hm1:¬(it2 hM (λ_=>False) (hI [] _)).X b1:=by rintro(h|h);(exact(hM _ h).2.2 ⟨hR.2.1,.inr hR.1⟩);(exact h.elim)
 have hm2:¬(it2 hM (λ_=>False) (hI [] _)).X b2:=by rintro(h|h);(exact(hM _ h).2.2 ⟨hR.2.2.2,.inr hR.2.2.1⟩);(exact h.elim)
 have hNX:=hPB.x;have hNQ:=hPB.q;have hN3:=hPB.n3;refine nT (it2 hM (λ_=>False) (hI [] _)) [] (vs:=[_,_,_]) func48 rfl ntmps48 rfl (nMd hM (hI [] _) h0 zS (by simp[Dist]) zS) ?_;refine B 2 ?_;refine rv rfl rfl rfl (RV.re (v':=.agg (pvA Z cs la lc ⟨ia,ic,ta,tc⟩)) (ldRA_r isAgg95 sizeOf95 rfl A0 hb1 hm1 trivial (apo rfl)) (rfl)) ?_;refine rv rfl rfl rfl (RV.re (v':=.agg (foA fo)) (ldRA_r isAgg45 sizeOf45 rfl A0 hb2 hm2 trivial (apo rfl)) (rfl)) ?_;refine nq (α:=Cd×Bool) (v:=λq=>.tuple #[.agg (cdA q.1),.bool q.2]) (Φ:=λW q w'=>(q.2=true/\frI Z cs fo=some (ixD q.1)/\CdLe Z cs (g0 fo) q.1/\GvAt w'.heap.size w' q.1.x/\GvNew W.heap.size q.1.x)\/(q.2=false/\frI Z cs fo=none)) call49 rfl rfl rfl (λW9 hS=>by
  obtain⟨h1,h2,h3,h4⟩:=hPB.args (hS.links W A0).size (hPB.same hS A0 (λk hk=>hk.elim) True.intro);exact nZm hZ cs hcs hcg W9.heap.size la lc W9 (abo _) h1 h2 ia ic ta tc h3 fo h4) ?_
 rintro W9 ⟨d,okb⟩ w9 hS9 hB9 hph;have hz9:=hB9.size;have hzW:=(hS9.links W A0).size;refine B 3 ?_;refine zIg ?_;intro b4 ha4 ho4;replace ha4:=yb ha4;replace ho4:=yc ho4;refine zff ?_;refine B 4 ?_;refine CJ.loop (α:=((((List Cd×Cd)×Bool)×Foot)×World)×Nat) (λp=>[(0,yv l),(1,ptr b1 0),(2,ptr b2 0),(4,ptr p.2 0),(5,.bool p.1.1.1.2)]) (λp=>[(p.2,.cells (cdA p.1.1.1.1.2) 104 (0,0))]) (λp=>[p.1.2,W]) (λp=>it2 hM p.1.1.2 (hI p.1.1.1.1.1 p.1.1.2)) (λp=>(∀k,p.1.1.2 k->W.heap.size<=k)/\W.heap.size<=p.2/\W.heap.size<=p.1.2.heap.size/\p.1.1.1.1.1.length<=cs.length/\((p.1.1.1.2=true/\ChS Z cs fo M p.1.1.1.1.1 p.1.1.1.1.2 p.1.1.2 p.1.2 p.2)\/(p.1.1.1.2=false/\ChF Z cs fo (p.1.1.1.1.1.map prj)))) (λp=>cs.length+1-p.1.1.1.1.1.length) ((((([],d),okb),λ_=>False),w9),b4) ⟨λ_ h=>h.elim,by dsimp only;omega,by dsimp only;omega,a3o _,hph.imp (λh=>⟨h.1,ChS.first h.2.1 h.2.2.1 h.2.2.2.1 h.2.2.2.2 (λk hk=>by have:=(hM k hk).1;omega) z2⟩) (λh=>⟨h.1,h.2⟩)⟩ zR rfl rfl zS ?_;rintro⟨⟨⟨⟨⟨pre,d⟩,okb⟩,V⟩,wk⟩,b4⟩ ⟨hV,hb4W,hwk,hpl,hok⟩;dsimp only at hV hb4W hwk hpl hok ⊢;clear hm1 hm2;have hm1:¬(it2 hM V (hI pre V)).X b1:=by rintro(h|h);(exact(hM _ h).2.2 ⟨hR.2.1,.inr hR.1⟩);(have:=hV _ h;omega)
 have hm2:¬(it2 hM V (hI pre V)).X b2:=by rintro(h|h);(exact(hM _ h).2.2 ⟨hR.2.2.2,.inr hR.2.2.1⟩);(have:=hV _ h;omega)
 refine B 2 ?_;rcases hok with⟨rfl,hch⟩|⟨rfl,hfin⟩
 ·refine B 4 ?_;refine zRe ?_;refine yldT (λ_=>False) id T_id (V:=V) (λV=>hI (pre++[d]) V) hX hV rfl rfl rfl rfl (λW1 hw1 hI1=>hy pre d V W1 (by have:=hch.mu;show(pre++[d]).length<=cs.length;rw[aHo,aJo];omega) hw1 hI1) ?_ ?_
  ·intro V2 hV2 hV3;have hV2k:=hV3 wk A0;have hV2W:∀k,V2 k->W.heap.size<=k:=λk hk=>by rcases hV2k k hk with h|h;(exact hV k h);omega
   have hm1:¬(it2 hM V2 (hI (pre++[d]) V2)).X b1:=by rintro(h|h);(exact(hM _ h).2.2 ⟨hR.2.1,.inr hR.1⟩);(have:=hV2W _ h;omega)
   have hm2:¬(it2 hM V2 (hI (pre++[d]) V2)).X b2:=by rintro(h|h);(exact(hM _ h).2.2 ⟨hR.2.2.2,.inr hR.2.2.1⟩);(have:=hV2W _ h;omega)
   have hout2:GvOut (λk=>M k\/V2 k) d.x:=hch.out.up hch.lies (λk hk=>hk.elim (λh=>.inl (.inl h)) (λh=>(hV2k k h).imp .inr id));refine B 14 ?_;refine zRe ?_;refine B 2 ?_;refine CJ.resnap (i:=0) (L':=[W]) rfl zQ zS (λWr hSr=>?_);have hat:GvAt Wr.heap.size Wr d.x:=hch.lies.toZ hSr A0 (abo _) hout2 (λp hp=>by rw[agp.1 hp];exact hch.off);have hzr:=(hSr.links W A1).size;refine B 1 ?_;refine zIg ?_;intro b4 ha4 ho4;replace ha4:=yb ha4;replace ho4:=yc ho4;refine zff ?_;refine B 3 ?_;refine rv rfl rfl rfl (RV.re (v':=.agg (pvA Z cs la lc ⟨ia,ic,ta,tc⟩)) (ldRA_r isAgg95 sizeOf95 rfl A1 hb1 hm1 zF (apo rfl)) (rfl)) ?_;refine B 1 ?_;refine rv rfl rfl rfl (RV.re (v':=.agg (gpA d.x)) (ldWA_r (i:=0) rfl isAgg62 sizeOf62 rfl (apo rfl)) (rfl)) ?_;refine nq (α:=Cd×Bool) (v:=λq=>.tuple #[.agg (cdA q.1),.bool q.2]) (Φ:=λW q w'=>(q.2=true/\wnI Z cs d.x.g=some (ixD q.1)/\CdOk Z cs d.x.g q.1/\GvAt w'.heap.size w' q.1.x/\GvNew W.heap.size q.1.x)\/(q.2=false/\wnI Z cs d.x.g=none)) call50 rfl rfl rfl (λW9 hS=>by
    obtain⟨h1,h2,h3,h4⟩:=hPB.args (hS.links W A1).size (hPB.same hS A1 hV2W ⟨ha4.2.1,True.intro⟩);exact nHl hZ cs hcs hcg W9.heap.size la lc W9 (abo _) h1 h2 ia ic ta tc h3 d.x (hat.toZ hS A0 (abo _) hout2 (λp hp=>by rw[agp.1 hp];exact hat.off z2)) h4) ?_
   rintro W9 ⟨d2,ok2⟩ w9 hS9 hB9 hph;have hz9:=hB9.size;have hzW:=(hS9.links W A1).size;have hb4l:=hS9.lt (b4,_) A0;try dsimp only at hb4l
   have hV9:∀k,V2 k->k<W9.heap.size:=λk hk=>hS9.xlt k (.inr hk);have hM9:∀k,M k->k<W9.heap.size:=λk hk=>hS9.xlt k (.inl hk);refine B 3 ?_;refine zff ?_;refine B 2 ?_;refine PJ.again (((((pre++[d],d2),ok2),V2),w9),b4) ⟨hV2W,by dsimp only;omega,by dsimp only;omega,by have:=hch.mu;dsimp only;rw[aHo,aJo];omega,hph.imp (λh=>⟨h.1,hch.step h.2.1 h.2.2.1.le h.2.2.2.1 h.2.2.2.2 hM9 hV9 hb4l⟩) (λh=>⟨h.1,hch.stop h.2⟩)⟩ (by have:=hch.mu;dsimp only;rw[aHo,aJo];omega) zR rfl rfl zS
  intro V2 hV2 hV3;have hV2k:=hV3 wk A0;have hV2W:∀k,V2 k->W.heap.size<=k:=λk hk=>by rcases hV2k k hk with h|h;(exact hV k h);omega
  refine B 8 ?_;exact n2b (.inr rfl) results48 A1 hV2W (by intro k hk hx;simp at hx;omega) (λA hA=>.inr hA)
 refine B 14 ?_;exact n2b (.inr rfl) results48 A1 hV (by intro k hk hx;simp at hx;omega) (λA hA=>.inl ⟨pre,⟨hfin,hpl⟩,hA⟩)
theorem n6n{α β:Type}{enc1:α->List Value}{enc2:β->List Value}{A A':Heap}(hA:A'.map (·.1)=A.map (·.1)){r1 r2:Rw}{b1 c1 t1 b2 c2 t2 n:Nat}{sp1 sp2:List Value}{xs1 ys1:List α}{xs2 ys2:List β}(hf1:r1.isAt b1\/n<=b1)(hf2:r2.isAt b2\/n<=b2):∀p∈(A'++((Rw.row b1 c1 sp1).hp enc1 t1 ys1++((Rw.row b2 c2 sp2).hp enc2 t2 ys2++[])):Heap),p.1∈(A++(r1.hp enc1 t1 xs1++(r2.hp enc2 t2 xs2++[])):Heap).map (·.1)\/n<=p.1:=by
 intro p hp;rw[ayo,ayo,asp];rw[asp]at hp;rcases azo.1 hp with hp|hp
 ·exact .inl (azo.2 (.inl (hA▸ano.2 ⟨p,hp,rfl⟩)))
 rcases azo.1 hp with hp|hp
 ·simp only[Rw.hp,aeo,aCo,or_false]at hp;subst hp;exact hf1.imp (λh=>azo.2 (.inr (azo.2 (.inl (Rw.mem_at h))))) id
 simp only[Rw.hp,aeo,aCo,or_false]at hp;subst hp;exact hf2.imp (λh=>azo.2 (.inr (azo.2 (.inr (Rw.mem_at h))))) id
theorem ret2M{fn:Func}{Dk t4 t5 T4 T5 b4 b5 ct4 ct5:Nat}{cs4 cs5:Array Value}{fr4 fr5:Nat×Nat}{v4 v5:Value}(he:e= .ret\/e= .normal)(hr:fn.results=#[.cell t4 T4,.cell t5 T5])(hA4:AggF C.P T4 false)(hA5:AggF C.P T5 false)(hx4:look E t4=some (ptr b4 0))(hx5:look E t5=some (ptr b5 0))(hm:(Dk,.deferred (some []))∈H)(hb4:(b4,.cells cs4 ct4 fr4)∈H)(hb5:(b5,.cells cs5 ct5 fr5)∈H)(n4:b4≠Dk)(n5:b5≠Dk)(hv4:cs4[0]? =some v4)(hv5:cs5[0]? =some v5)(h:∀W H',St G L H' W->H'.map (·.1)=H.map (·.1)->(∀p∈H,p.1≠Dk->p∈H')->R (.returned (.tuple #[v4,v5])) W):PJ C (bodyPostM (FW none) 0 C.P fn R) e E [coll Dk] G L H:=
 retM he hm λa W H' hF hS hst hmap=>by
  obtain⟨i,hi⟩:=aoo.1 (hst _ hb4 n4);obtain⟨j,hj⟩:=aoo.1 (hst _ hb5 n5);exact⟨_,(RS.w (C:=C) hi hA4 hx4 hv4 (RS.w (C:=C) hj hA5 hx5 hv5 RS.n)).res hr hF hS,h W H' hS hmap hst⟩
theorem PlB.mk2{cs:List Cm}{la ia ta:Option Addr}{ic tc NR:Nat}{w wp wn W2:World}(hN:N<=w.heap.size)(hsl:SlAt cmA 73 N w la cs)(hC:∀c∈cs,CmAt N w c)(hg:Glb w)(hp:PvAt Z cs wp.heap.size wp ⟨ia,ic,ta,tc⟩)(hi:∀q,ia=some q->NR<=q.block)(ht:∀q,ta=some q->NR<=q.block)(hS:St Gh.no L H W)(hw:w∈L)(hwp:wp∈L)(hwn:wn∈L)(hB:Below W.heap.size W W2)(h1:w.heap.size<=wn.heap.size)(h2:wp.heap.size<=wn.heap.size)(ho:∀p∈H,w.heap.size<=p.1/\p.1<NR):PlB Z cs la ia ta ic tc w.heap.size NR wn.heap.size W2:=by
 have l1:=(hS.links w hw).size;have l2:=(hS.links wp hwp).size;have l3:=(hS.links wn hwn).size;have s1:∀k,k<w.heap.size->W2.heap[k]? =w.heap[k]? :=λk hk=>(hB.block k zG).trans ((hS.links w hw).block k hk (λhx=>hx.elim zO (λh=>by obtain⟨p,hp,rfl⟩:=ano.1 h;have:=ho p hp;omega)));have s2:∀k,k<wp.heap.size->NR<=k->W2.heap[k]? =wp.heap[k]? :=λk hk hk2=>(hB.block k zG).trans ((hS.links wp hwp).block k hk (λhx=>hx.elim zO (λh=>by obtain⟨p,hp,rfl⟩:=ano.1 h;have:=ho p hp;omega)));refine⟨h1,aco l3 hB.size,hg.lt,hsl.up hN (λk hk=>s1 k zG),λc hc=>(hC c hc).up hN (λk hk=>s1 k zG),⟨hp.ids.blk λb off e hb=>⟨by omega,s2 b hb (hi _ e)⟩,hp.at_.blk λb off e hb=>⟨by omega,s2 b hb (ht _ e)⟩⟩,hi,ht,?_⟩;have h3:=hg.lt;obtain⟨⟨t,fr,h0⟩,t2,fr2,h2⟩:=hg;exact⟨⟨t,fr,(s1 0 zG).trans h0⟩,t2,fr2,(s1 2 zG).trans h2⟩
theorem nin(Z:Fx)(cs:List Cm)(la:Option Addr)(lc:Nat)(ia:Option Addr)(ic:Nat)(ta:Option Addr)(tc:Nat)(fo:Fo)(w:World):Calls prog 24 #[.agg (pvA Z cs la lc ⟨ia,ic,ta,tc⟩),.agg (foA fo)] w (RetX w (λq:Nat×Nat=>.func (.func 48) #[] #[ptr q.1 0,ptr q.2 0]) (λq w1=>w.heap.size<=q.1/\w.heap.size<=q.2/\w1.heap[q.1]? =some (.cells (pvA Z cs la lc ⟨ia,ic,ta,tc⟩) 95 (0,0))/\w1.heap[q.2]? =some (.cells (foA fo) 45 (0,0)))):=by
 refine enter (vs:=[_,_]) func24 rfl ntmps24 rfl ?_;refine B 3 ?_;intro b2 w2 hb2 ha2 ho2 hm2 hz2;replace ha2:=yb ha2;replace ho2:=yc ho2;refine B 1 ?_;intro b3 w3 hb3 ha3 ho3 hm3 hz3;replace ha3:=yb ha3;replace ho3:=yc ho3;refine B 10 ?_;refine nE (b2,b3) results24 rfl A2 rfl ?_;exact zPj
theorem nek(hZ:FxOk Z)(cs:List Cm)(hcs:cs.length<=1000)(hcg:∀c∈cs,CmGood c)(N:Nat)(la:Option Addr)(lc:Nat)(w:World)(hN:N<=w.heap.size)(hsl:SlAt cmA 73 N w la cs)(hC:∀c∈cs,CmAt N w c)(fo:Fo)(hg:Glb w):Calls prog 8 #[.agg (foA fo),.slice la cs.length lc] w (RetX w (λq:((Option Addr×Nat)×(Option Addr×Nat))×List Cd=>.tuple #[.slice q.1.1.1 q.2.length q.1.1.2,.slice q.1.2.1 q.2.length q.1.2.2]) (λq w1=>(ChF Z cs fo (q.2.map prj)/\q.2.length<=cs.length)/\SlAt (λx=>(encZ x).toArray) 1 w1.heap.size w1 q.1.1.1 (q.2.map λd=>d.at_)/\SlAt (λx=>(gpE x).toArray) 36 w1.heap.size w1 q.1.2.1 (q.2.map λd=>d.x)/\(∀p,q.1.1.1=some p->w.heap.size<=p.block)/\∀p,q.1.2.1=some p->w.heap.size<=p.block)):=by
 have hg4:=hg.lt;refine n1b Gh.no [] (vs:=[_,_]) func8 rfl ntmps8 rfl (nmc w) ?_;refine B 3 ?_;intro b2 w2 hb2 ha2 ho2 hm2 hz2;replace ha2:=yb ha2;replace ho2:=yc ho2;refine allW zeroValue32 rfl rfl ?_;intro b4 ha4 ho4;replace ha4:=yb ha4;replace ho4:=yc ho4;refine zhg ?_;intro b5 ha5 ho5;replace ha5:=yb ha5;replace ho5:=yc ho5;refine B 4 ?_;refine zMg ?_;refine nJ 3 [1] [([],some _),([0],none),([],some _)] (λcv L' H'=>match cv with| []=>L'=[w2,w]/\H'=[(b5,.cells #[.slice none 0 0] 41 (0,0)),(b4,.cells #[.slice none 0 0] 32 (0,0))]| [v1]=>∃(NR:Nat) (ia:Option Addr) (ic:Nat) (ta:Option Addr) (tc:Nat) (wp:World),v1= .agg (pvA Z cs la lc ⟨ia,ic,ta,tc⟩)/\L'=[wp,w2,w]/\H'=[(b5,.cells #[.slice none 0 0] 41 (0,0)),(b4,.cells #[.slice none 0 0] 32 (0,0))]/\PvAt Z cs wp.heap.size wp ⟨ia,ic,ta,tc⟩/\(∀q,ia=some q->NR<=q.block)/\(∀q,ta=some q->NR<=q.block)/\b5<NR/\b4<NR/\w.heap.size<=NR/\NR<=wp.heap.size|_=>False) zM ⟨rfl,rfl⟩ zM zM zM zM zM zM (pc zP (pk (pc (λcv L' H' hd hP=>match cv,hd,hP with| [],hd,hP=>(by obtain⟨rfl,rfl⟩:=hP;exact X.val rfl rfl (ldRAw_r isAgg45 sizeOf45 rfl A0 hb2 hm2 zF rfl) R2)| [v1],hd,hP=>(by obtain⟨NR,ia,ic,ta,tc,wp,rfl,rfl,rfl,hp1,hp2,hp3,hNR⟩:=hP;exact X.val rfl rfl (ldRAw_r isAgg45 sizeOf45 rfl A1 hb2 hm2 zF rfl) R2)|_::_::_,_,hP=>hP.elim) (pn)))) ?_ ?_
 ·refine sc rfl rfl rfl ?_ ?_
  ·intro cv L' H' hl hP F Q' hk;obtain rfl:=aap hl;obtain⟨rfl,rfl⟩:=hP;refine nq (α:=Pv) (v:=λp=>.agg (pvA Z cs la lc p)) (Φ:=λW p w1=>PvAt Z cs w1.heap.size w1 p/\(∀q,p.ia=some q->W.heap.size<=q.block)/\∀q,p.ta=some q->W.heap.size<=q.block) call23 rfl rfl rfl (λW hS=>Px.newPool hZ cs hcs hcg N la lc W (aco hN (hS.links w A1).size) (hsl.up (abo _) (hS.same A1 hN zN ⟨by dsimp only;omega,by dsimp only;omega,True.intro⟩)) (λc hc=>(hC c hc).up (abo _) (hS.same A1 hN zN ⟨by dsimp only;omega,by dsimp only;omega,True.intro⟩)) (hg.old hS A1 zN ⟨by dsimp only;omega,by dsimp only;omega,True.intro⟩)) ?_;rintro Wp ⟨ia,ic,ta,tc⟩ wp hSp hBp ⟨hp1,hp2,hp3⟩;try dsimp only at hp1 hp2 hp3
   have l5:=hSp.lt (b5,_) A0;have l4:=hSp.lt (b4,_) A1;try dsimp only at l4 l5
   have lw:=(hSp.links w A1).size;exact OJ.done (hk _ _ _ ⟨Wp.heap.size,ia,ic,ta,tc,wp,rfl,rfl,rfl,hp1,hp2,hp3,l5,l4,lw,hBp.size⟩)
  exact sn
 intro cv L' H' hl hP;obtain⟨v1,rfl⟩:=len1 hl;obtain⟨NR,ia,ic,ta,tc,wp,rfl,rfl,rfl,hp1,hp2,hp3,hNR⟩:=hP;refine nq (α:=Nat×Nat) (v:=λq:Nat×Nat=>.func (.func 48) #[] #[ptr q.1 0,ptr q.2 0]) (Φ:=λW q w1=>W.heap.size<=q.1/\W.heap.size<=q.2/\w1.heap[q.1]? =some (.cells (pvA Z cs la lc ⟨ia,ic,ta,tc⟩) 95 (0,0))/\w1.heap[q.2]? =some (.cells (foA fo) 45 (0,0))) call24 rfl rfl rfl (λW hS=>nin Z cs la lc ia ic ta tc fo W) ?_;rintro Wn q wn hSn hBn ⟨hq1,hq2,hq3,hq4⟩;try dsimp only at hq1 hq2 hq3 hq4
 have hlq1:=(ago.1 hq3).1;have hlq2:=(ago.1 hq4).1;have hzn:=hBn.size;have hznp:=(hSn.links wp A0).size;refine B 3 ?_;refine CJ.range2 (f:=48) (cap:=[ptr q.1 0,ptr q.2 0]) (α:=Cd) (enc:=(λd:Cd=>[.agg (cdA d)])) (Pre:=(λp:List Cd=>p.length<=cs.length)) (Fin:=(λxs:List Cd=>ChF Z cs fo (xs.map prj)/\xs.length<=cs.length)) (RO:=plRO w.heap.size NR wn.heap.size) (MI:=λ_=>False) rfl call48 (λW' W2 hS hB=>by have l1:=(hS.links wn A0).size;exact nRm hZ cs hcs hcg w.heap.size NR wn.heap.size la lc ia ic ta tc fo q.1 q.2 W2 (PlB.mk2 hN hsl hC hg hp1 hp2 hp3 hS A3 A1 A0 hB zG zG (λp hp=>by simp only[aeo,aCo,or_false]at hp;rcases hp with rfl|rfl<;>(dsimp only;omega))) zG zLd zKd) (λ_ _ _ hk=>hk.elim) (λW' hS k hk=>by have h1:=hk.1;have h2:=hk.2;have l1:=(hS.links wn A0).size;exact⟨by omega,by simp only[afo,a0o,aeo,aCo,or_false];omega,λh=>h⟩) (λ_=>rfl) (λpre G' Hc=>G'=Gh.no/\∃r1 r2:Rw,r1.Fr Gh.no [wn,wp,w2,w]/\r1.Fit 1 (pre.map λd=>d.at_)/\r2.Fr Gh.no [wn,wp,w2,w]/\r2.Fit 36 (pre.map λd=>d.x)/\Hc=[(b5,.cells #[r2.val (pre.map λd=>d.x).length] 41 (0,0)),(b4,.cells #[r1.val (pre.map λd=>d.at_).length] 32 (0,0))]++(r1.hp encZ 3 (pre.map λd=>d.at_)++(r2.hp gpE 62 (pre.map λd=>d.x)++[]))) (λ_ _ _=>False) ⟨rfl,.nil,.nil,True.intro,rfl,True.intro,rfl,rfl⟩ zI ?_ ?_ ?_
 ·rintro pre x G' Hc l Dk rec W1 M V Wy hrs hrp hpre ⟨rfl,r1,r2,hrf1,hrfit1,hrf2,hrfit2,rfl⟩ haD hlD hlW haW hlent hsY;simp only[Above]at haD haW;have hrge1:r1.ge wn.heap.size:=Rw.ge_of hrf1 A0;have hrge2:r2.ge wn.heap.size:=Rw.ge_of hrf2 A0;have hpl:(pre++[x]).length<=cs.length:=hpre;simp only[aHo,axo,a1o]at hpl;have hrz1:∀p∈r1.hp encZ 3 (pre.map λd=>d.at_),M p.1\/V p.1:=λp hp=>hlent.loc.h p zJc;have hrz2:∀p∈r2.hp gpE 62 (pre.map λd=>d.x),M p.1\/V p.1:=λp hp=>hlent.loc.h p (by simp only[azo];exact .inr (.inr (.inl hp)));refine B 1 ?_;refine zIg ?_;intro b6 ha6 ho6;replace ha6:=yb ha6;replace ho6:=yc ho6;refine zff ?_;refine B 1 ?_;refine PJ.reH (H':=book ([(b6,.cells (cdA x) 104 (0,0))]++([(b5,.cells #[r2.val (pre.map λd=>d.x).length] 41 (0,0)),(b4,.cells #[r1.val (pre.map λd=>d.at_).length] 32 (0,0))]++(r1.hp encZ 3 (pre.map λd=>d.at_)++(r2.hp gpE 62 (pre.map λd=>d.x)++[])))) l rec (bxD Dk)) rfl ?_;refine n8b hrs ?_;refine B 1 ?_;refine CJ.less (E':=[(0,_),(1,_),(2,_),(4,_),(5,_),(6,_),(7,_),(8,_),(9,_),(10,_),(11,_)]) zR ?_;refine nRg 9 [3,4,8] [([],some _),([],some _),([1],some _),([2],none),([0,3],none),([],some _),([],some _),([6],some _),([7],none)] [[],[0],[]] (λcv L' H'=>match cv with| [none,none,none]=>L'=[Wy,wn,wp,w2,w]/\H'=book ([(b6,.cells (cdA x) 104 (0,0)),(b5,.cells #[r2.val (pre.map λd=>d.x).length] 41 (0,0)),(b4,.cells #[r1.val (pre.map λd=>d.at_).length] 32 (0,0))]++(r1.hp encZ 3 (pre.map λd=>d.at_)++(r2.hp gpE 62 (pre.map λd=>d.x)++[]))) l {rec with state:=.busy} (bxD Dk)| [none,none,some v8]=>∃(b20:Nat),v8= .slice (some ⟨b20,0,none⟩) 1 1/\L'=[Wy,wn,wp,w2,w]/\H'=book ([(b20,.cells (gpA x.x) 62 (0,0)),(b6,.cells (cdA x) 104 (0,0)),(b5,.cells #[r2.val (pre.map λd=>d.x).length] 41 (0,0)),(b4,.cells #[r1.val (pre.map λd=>d.at_).length] 32 (0,0))]++(r1.hp encZ 3 (pre.map λd=>d.at_)++(r2.hp gpE 62 (pre.map λd=>d.x)++[]))) l {rec with state:=.busy} (bxD Dk)/\Above [Wy,wn,wp,w2,w] b20| [some v3,none,none]=>∃(b15:Nat),v3= .slice (some ⟨b15,0,none⟩) 1 1/\L'=[Wy,wn,wp,w2,w]/\H'=book ([(b15,.cells #[.int .i64 x.at_] 3 (0,0)),(b6,.cells (cdA x) 104 (0,0)),(b5,.cells #[r2.val (pre.map λd=>d.x).length] 41 (0,0)),(b4,.cells #[r1.val (pre.map λd=>d.at_).length] 32 (0,0))]++(r1.hp encZ 3 (pre.map λd=>d.at_)++(r2.hp gpE 62 (pre.map λd=>d.x)++[]))) l {rec with state:=.busy} (bxD Dk)/\Above [Wy,wn,wp,w2,w] b15| [some v3,none,some v8]=>∃(b15:Nat) (b20:Nat),v3= .slice (some ⟨b15,0,none⟩) 1 1/\v8= .slice (some ⟨b20,0,none⟩) 1 1/\L'=[Wy,wn,wp,w2,w]/\H'=book ([(b20,.cells (gpA x.x) 62 (0,0)),(b15,.cells #[.int .i64 x.at_] 3 (0,0)),(b6,.cells (cdA x) 104 (0,0)),(b5,.cells #[r2.val (pre.map λd=>d.x).length] 41 (0,0)),(b4,.cells #[r1.val (pre.map λd=>d.at_).length] 32 (0,0))]++(r1.hp encZ 3 (pre.map λd=>d.at_)++(r2.hp gpE 62 (pre.map λd=>d.x)++[]))) l {rec with state:=.busy} (bxD Dk)/\Above [Wy,wn,wp,w2,w] b15/\Above [Wy,wn,wp,w2,w] b20| [some v3,some v4,none]=>∃(b15:Nat) (b16:Nat) (cp16:Nat) (sp16:List Value),v3= .slice (some ⟨b15,0,none⟩) 1 1/\v4= .slice (some ⟨b16,0,none⟩) ((pre.map λd=>d.at_)++[x.at_]).length cp16/\L'=[Wy,wn,wp,w2,w]/\H'=book ([(b15,.cells #[.int .i64 x.at_] 3 (0,0)),(b6,.cells (cdA x) 104 (0,0)),(b5,.cells #[r2.val (pre.map λd=>d.x).length] 41 (0,0)),(b4,.cells #[r1.val (pre.map λd=>d.at_).length] 32 (0,0))]++((Rw.row b16 cp16 sp16).hp encZ 3 ((pre.map λd=>d.at_)++[x.at_])++(r2.hp gpE 62 (pre.map λd=>d.x)++[]))) l {rec with state:=.busy} (bxD Dk)/\Above [Wy,wn,wp,w2,w] b15/\(r1.isAt b16\/Above [Wy,wn,wp,w2,w] b16)/\(Rw.row b16 cp16 sp16).Fit 1 ((pre.map λd=>d.at_)++[x.at_])| [some v3,some v4,some v8]=>∃(b15:Nat) (b16:Nat) (cp16:Nat) (sp16:List Value) (b20:Nat),v3= .slice (some ⟨b15,0,none⟩) 1 1/\v4= .slice (some ⟨b16,0,none⟩) ((pre.map λd=>d.at_)++[x.at_]).length cp16/\v8= .slice (some ⟨b20,0,none⟩) 1 1/\L'=[Wy,wn,wp,w2,w]/\H'=book ([(b20,.cells (gpA x.x) 62 (0,0)),(b15,.cells #[.int .i64 x.at_] 3 (0,0)),(b6,.cells (cdA x) 104 (0,0)),(b5,.cells #[r2.val (pre.map λd=>d.x).length] 41 (0,0)),(b4,.cells #[r1.val (pre.map λd=>d.at_).length] 32 (0,0))]++((Rw.row b16 cp16 sp16).hp encZ 3 ((pre.map λd=>d.at_)++[x.at_])++(r2.hp gpE 62 (pre.map λd=>d.x)++[]))) l {rec with state:=.busy} (bxD Dk)/\Above [Wy,wn,wp,w2,w] b15/\(r1.isAt b16\/Above [Wy,wn,wp,w2,w] b16)/\(Rw.row b16 cp16 sp16).Fit 1 ((pre.map λd=>d.at_)++[x.at_])/\Above [Wy,wn,wp,w2,w] b20|_=>False) zM ⟨rfl,rfl⟩ zM zM zM zM zM zM rfl (qc zcx (qc (by exact λcv L' H' _ _ hP=>X.val rfl rfl (fld_r underlying104 rfl sizeOf3 rfl) R2) (qc zcx (qk (qk (qc zcx (qc (by exact λcv L' H' _ _ hP=>X.val rfl rfl (fld_r underlying104 rfl sizeOf62 rfl) R2) (qc zcx (qk (qn)))))))))) ?_ ?_
  ·refine nc rfl rfl rfl rfl ?_ ?_
   ·intro cv L' H' hl hr hP F Q' hk;obtain⟨x3,x4,x8,rfl⟩:=len3 hl;rcases x3 with _|v3<;>rcases x4 with _|v4<;>rcases x8 with _|v8<;>try exact False.elim hP
    ·obtain⟨rfl,rfl⟩:=hP;refine zJe ?_;intro b15 ha ho;exact OJ.done (hk _ _ _ ⟨b15,rfl,rfl,rfl,ha⟩)
    ·obtain⟨b20,rfl,rfl,rfl,ha20⟩:=hP;refine zJe ?_;intro b15 ha ho;refine zLg ?_;exact OJ.done (hk _ _ _ ⟨b15,b20,rfl,rfl,rfl,rfl,ha,ha20⟩)
    ·exact z1h
    ·exact z1h
    ·exact z1h
    exact z1h
   refine nc rfl rfl rfl rfl ?_ ?_
   ·intro cv L' H' hl hr hP F Q' hk;obtain⟨x3,x4,x8,rfl⟩:=len3 hl;rcases x3 with _|v3<;>rcases x4 with _|v4<;>rcases x8 with _|v8<;>try exact False.elim hP
    ·exact z1h
    ·exact z1h
    ·obtain⟨b15,rfl,rfl,rfl,ha15⟩:=hP;refine apT (r:=r1) (xs:=(pre.map λd=>d.at_)) (zs:=[x.at_]) (enc:=encZ) (m:=1) (H0:=[(b15,.cells #[.int .i64 x.at_] 3 (0,0)),(b6,.cells (cdA x) 104 (0,0)),(b5,.cells #[r2.val (pre.map λd=>d.x).length] 41 (0,0)),(b4,.cells #[r1.val (pre.map λd=>d.at_).length] 32 (0,0))]) (H1:=(r2.hp gpE 62 (pre.map λd=>d.x)++[])++((l,.loop {rec with state:=.busy})::bxD Dk)) zjc nDg nB rfl rfl rfl rfl (SrcT.one (z:=x.at_) nB nkd underlying32 (Lies.own (i:=0) rfl)) hrfit1 (Rw.Fr_ext hrz1) zS z7b ?_;intro b16 cp16 sp16 hf16 hfit16;exact OJ.done (hk _ _ _ ⟨b15,b16,cp16,sp16,rfl,rfl,rfl,rfl,ha15,hf16,hfit16⟩)
    ·obtain⟨b15,b20,rfl,rfl,rfl,rfl,ha15,ha20⟩:=hP;refine apT (r:=r1) (xs:=(pre.map λd=>d.at_)) (zs:=[x.at_]) (enc:=encZ) (m:=1) (H0:=[(b20,.cells (gpA x.x) 62 (0,0)),(b15,.cells #[.int .i64 x.at_] 3 (0,0)),(b6,.cells (cdA x) 104 (0,0)),(b5,.cells #[r2.val (pre.map λd=>d.x).length] 41 (0,0)),(b4,.cells #[r1.val (pre.map λd=>d.at_).length] 32 (0,0))]) (H1:=(r2.hp gpE 62 (pre.map λd=>d.x)++[])++((l,.loop {rec with state:=.busy})::bxD Dk)) zjc nDg nB rfl rfl rfl rfl (SrcT.one (z:=x.at_) nB nkd underlying32 (Lies.own (i:=1) rfl)) hrfit1 (Rw.Fr_ext hrz1) zS z7b ?_;intro b16 cp16 sp16 hf16 hfit16;exact OJ.done (hk _ _ _ ⟨b15,b16,cp16,sp16,b20,rfl,rfl,rfl,rfl,rfl,ha15,hf16,hfit16,ha20⟩)
    ·exact z1h
    exact z1h
   refine nc rfl rfl rfl rfl ?_ ?_
   ·intro cv L' H' hl hr hP F Q' hk;obtain⟨x3,x4,x8,rfl⟩:=len3 hl;rcases x3 with _|v3<;>rcases x4 with _|v4<;>rcases x8 with _|v8<;>try exact False.elim hP
    ·obtain⟨rfl,rfl⟩:=hP;refine zkg ?_;intro b20 ha ho;exact OJ.done (hk _ _ _ ⟨b20,rfl,rfl,rfl,ha⟩)
    ·exact z1h
    ·obtain⟨b15,rfl,rfl,rfl,ha15⟩:=hP;refine zkg ?_;intro b20 ha ho;exact OJ.done (hk _ _ _ ⟨b15,b20,rfl,rfl,rfl,rfl,ha15,ha⟩)
    ·exact z1h
    ·obtain⟨b15,b16,cp16,sp16,rfl,rfl,rfl,rfl,ha15,hf16,hfit16⟩:=hP;refine zkg ?_;intro b20 ha ho;exact OJ.done (hk _ _ _ ⟨b15,b16,cp16,sp16,b20,rfl,rfl,rfl,rfl,rfl,ha15,hf16,hfit16,ha⟩)
    exact z1h
   exact nn
  intro cv L' H' hl hr hP;obtain⟨x3,x4,x8,rfl⟩:=len3 hl;rcases x3 with _|v3<;>rcases x4 with _|v4<;>rcases x8 with _|v8
  ·exact z1h
  ·exact z1h
  ·exact z1h
  ·exact z1h
  ·exact z1h
  ·exact z1h
  ·exact z1h
  obtain⟨b15,b16,cp16,sp16,b20,rfl,rfl,rfl,rfl,rfl,ha15,hf16,hfit16,ha20⟩:=hP;simp only[Above]at ha15 ha20 hf16;refine apT (r:=r2) (xs:=(pre.map λd=>d.x)) (zs:=[x.x]) (enc:=gpE) (m:=36) (H0:=[(b20,.cells (gpA x.x) 62 (0,0)),(b15,.cells #[.int .i64 x.at_] 3 (0,0)),(b6,.cells (cdA x) 104 (0,0)),(b5,.cells #[r2.val (pre.map λd=>d.x).length] 41 (0,0)),(b4,.cells #[r1.val (pre.map λd=>d.at_).length] 32 (0,0))]++(Rw.row b16 cp16 sp16).hp encZ 3 ((pre.map λd=>d.at_)++[x.at_])) (H1:=(l,.loop {rec with state:=.busy})::bxD Dk) zub rowTGp nYi rfl rfl rfl rfl (SrcT.one (z:=x.x) nYi gpE_one underlying41 (Lies.own (i:=0) rfl)) hrfit2 (Rw.Fr_ext hrz2) zS z7b ?_;intro b21 cp21 sp21 hf21 hfit21;replace hf21:=yb hf21;refine stWw (i:=4) rfl sizeOf32 rfl rfl rfl rfl rfl rfl ?_;refine stWw (i:=3) rfl sizeOf41 rfl rfl rfl rfl rfl rfl ?_;refine zWh ?_;refine zWd ?_;refine zWd ?_;refine njb (G2:=Gh.no) (Hc2:=[(b5,.cells #[(Rw.row b21 cp21 sp21).val ((pre.map λd=>d.x)++[x.x]).length] 41 (0,0)),(b4,.cells #[(Rw.row b16 cp16 sp16).val ((pre.map λd=>d.at_)++[x.at_]).length] 32 (0,0))]++((Rw.row b16 cp16 sp16).hp encZ 3 ((pre.map λd=>d.at_)++[x.at_])++((Rw.row b21 cp21 sp21).hp gpE 62 ((pre.map λd=>d.x)++[x.x])++[]))) hlent hlD ⟨λ_ h=>h,λ_ h=>.inl h,λ_ h=>.inl h,(n6n rfl (hf16.imp id (λh=>h.1)) (hf21.imp id (λh=>h.1))),(by intro p hp;simp only[aeo,aCo,or_false]at hp;rcases hp with rfl|rfl<;>exact .inl zS)⟩ (nxb hrs hrp) ?_
  exact⟨rfl,.row b16 cp16 sp16,.row b21 cp21 sp21,hf16.elim (λh=>Rw.Fr_at hrf1 h) (λh=>.inr h.2),by rw[ayo];exact hfit16,hf21.elim (λh=>Rw.Fr_at hrf2 h) (λh=>.inr h.2),by rw[ayo];exact hfit21,by rw[ayo,ayo];rfl⟩
 ·rintro xs' l Dk rec G' Hc hfin haD hlD ⟨rfl,r1,r2,hrf1,hrfit1,hrf2,hrfit2,rfl⟩;replace haD:=yb haD;have hrge1:r1.ge wn.heap.size:=Rw.ge_of hrf1 A0;have hrge2:r2.ge wn.heap.size:=Rw.ge_of hrf2 A0;refine nCg λWd hSd=>?_;have hbn:=nod hSd;refine B 3 ?_;refine CJ.less (E':=[(0,_),(1,_),(2,_),(4,_),(5,_),(7,_),(8,_),(9,_),(10,_)]) zR ?_;refine nyg 3 [2] [([],some (r1.val (xs'.map λd=>d.at_).length)),([],some (r2.val (xs'.map λd=>d.x).length)),([0],none)] (λcv L' H'=>match cv with| []=>L'=[wn,wp,w2,w]/\H'=book ([(b5,.cells #[r2.val (xs'.map λd=>d.x).length] 41 (0,0)),(b4,.cells #[r1.val (xs'.map λd=>d.at_).length] 32 (0,0))]++(r1.hp encZ 3 (xs'.map λd=>d.at_)++(r2.hp gpE 62 (xs'.map λd=>d.x)++[]))) l rec (bxD Dk)| [v1]=>v1= .tuple #[]/\L'=[wn,wp,w2,w]/\H'=book ([(b5,.cells #[r2.val (xs'.map λd=>d.x).length] 41 (0,0)),(b4,.cells #[r1.val (xs'.map λd=>d.at_).length] 32 (0,0))]++(r1.hp encZ 3 (xs'.map λd=>d.at_)++(r2.hp gpE 62 (xs'.map λd=>d.x)++[]))) l rec (bxD Dk)|_=>False) zM ⟨rfl,rfl⟩ zM zM zM zM zM zM zM (pc zcw (pc zcw (pk (pn)))) ?_ ?_
  ·refine ss rfl rfl ?_ ?_
   ·intro cv L' H' hl hP F Q' hk;obtain rfl:=aap hl;obtain⟨rfl,rfl⟩:=hP;refine stWw (i:=1) rfl sizeOf32 rfl rfl rfl (Rw.val_size _ _) rfl (Rw.val_one _ _) ?_;refine OJ.reH (H':=book ([(b5,.cells #[r2.val (xs'.map λd=>d.x).length] 41 (0,0)),(b4,.cells #[r1.val (xs'.map λd=>d.at_).length] 32 (0,0))]++(r1.hp encZ 3 (xs'.map λd=>d.at_)++(r2.hp gpE 62 (xs'.map λd=>d.x)++[]))) l rec (bxD Dk)) (by simp[book];exact Rw.val_cells _ _) ?_;exact OJ.done (hk (.tuple #[]) _ _ ⟨rfl,rfl,rfl⟩)
   exact ssn
  intro cv L' H' hl hP;obtain⟨v1,rfl⟩:=len1 hl;obtain⟨rfl,rfl,rfl⟩:=hP;refine stWw (i:=0) rfl sizeOf41 rfl rfl rfl (Rw.val_size _ _) rfl (Rw.val_one _ _) ?_;refine B 3 ?_;refine PJ.reH (H':=book ([(b5,.cells #[r2.val (xs'.map λd=>d.x).length] 41 (0,0)),(b4,.cells #[r1.val (xs'.map λd=>d.at_).length] 32 (0,0))]++(r1.hp encZ 3 (xs'.map λd=>d.at_)++(r2.hp gpE 62 (xs'.map λd=>d.x)++[]))) l rec (bxD Dk)) (by simp[book];exact Rw.val_cells _ _) ?_;refine ret2M (.inl rfl) results8 isAgg32 isAgg41 rfl rfl zjc A1 A0 (hbn _ A1).1 (hbn _ A0).1 rfl rfl (λW H' hS hmap hst=>?_);have hat1:r1.At encZ 3 (xs'.map λd=>d.at_) W:=by
   cases r1 with
   |nil=>trivial
   |row b cap sp=>exact hS.own (b,_) (hst _ (by simp[book,Rw.hp]) (hbn _ zqc).1)
  have hat2:r2.At gpE 62 (xs'.map λd=>d.x) W:=by
   cases r2 with
   |nil=>trivial
   |row b cap sp=>exact hS.own (b,_) (hst _ (by simp[book,Rw.hp]) (hbn _ zqc).1)
  obtain⟨a1,c1,he1,hs1⟩:=Rw.sl nB hrfit1 hat1 (abo W.heap.size);obtain⟨a2,c2,he2,hs2⟩:=Rw.sl nYi hrfit2 hat2 (abo W.heap.size);refine⟨(((a1,c1),(a2,c2)),xs'),?_,?_,hfin,hs1,hs2,Rw.val_new (Rw.ge_mono hrge1 zG) he1,Rw.val_new (Rw.ge_mono hrge2 zG) he2⟩
  ·show Ending.returned (.tuple #[r1.val _,r2.val _])=_;rw[he1,he2];simp
  exact(hS.links w A3).below (λk hk hx=>by rcases hx with hx|hx;(exact hx);rw[hmap]at hx;simp only[book,ayo,afo,a0o,azo,aeo,aCo,or_false]at hx;rcases hx with((hx|hx)|hx|hx)|hx|hx<;>first|omega|(have:=Rw.mem_ge hrge1 hx;omega)|(have:=Rw.mem_ge hrge2 hx;omega))
 exact zRj
theorem nAm(x:Dk):∃f,dk f=x:=by
 obtain⟨f,hf⟩:=dk_list x.1 x.2;refine⟨f,Subtype.ext ?_⟩;apply List.ext_getElem
 ·rw[x.2];rfl
 intro i h1 h2;have hi:i<32:=h1;rw[hf i hi];have key:∀i:Fin 32,(dk f).1[i.1]'i.2=f i.1:=by
  intro i
  match i with
  |⟨0,_⟩=>rfl
  |⟨1,_⟩=>rfl
  |⟨2,_⟩=>rfl
  |⟨3,_⟩=>rfl
  |⟨4,_⟩=>rfl
  |⟨5,_⟩=>rfl
  |⟨6,_⟩=>rfl
  |⟨7,_⟩=>rfl
  |⟨8,_⟩=>rfl
  |⟨9,_⟩=>rfl
  |⟨10,_⟩=>rfl
  |⟨11,_⟩=>rfl
  |⟨12,_⟩=>rfl
  |⟨13,_⟩=>rfl
  |⟨14,_⟩=>rfl
  |⟨15,_⟩=>rfl
  |⟨16,_⟩=>rfl
  |⟨17,_⟩=>rfl
  |⟨18,_⟩=>rfl
  |⟨19,_⟩=>rfl
  |⟨20,_⟩=>rfl
  |⟨21,_⟩=>rfl
  |⟨22,_⟩=>rfl
  |⟨23,_⟩=>rfl
  |⟨24,_⟩=>rfl
  |⟨25,_⟩=>rfl
  |⟨26,_⟩=>rfl
  |⟨27,_⟩=>rfl
  |⟨28,_⟩=>rfl
  |⟨29,_⟩=>rfl
  |⟨30,_⟩=>rfl
  |⟨31,_⟩=>rfl
  |⟨n+32,h⟩=>exact absurd h zG
 exact key ⟨i,hi⟩
theorem setD_add(b:Nat)(kv:List (Dk×Unit))(m:Mq)(hm:m.Ok kv)(f:Nat->Int)(w:World)(hb:w.heap[b]? =some (m.obj dkv uv kv)):Calls prog 39 #[.map (some b),.agg (dg f)] w (λe w'=>e= .returned (.tuple #[])/\∃m':Mq,m'.Ok (gput kv (dk f) ())/\Keep (· =b) w w'/\w'.heap[b]? =some (m'.obj dkv uv (gput kv (dk f) ()))):=by
 refine nT Gh.no [(b,_)] (vs:=[_,_]) func39 rfl ntmps39 rfl (ngg hb) ?_;refine B 3 ?_;intro b3 w3 hb3 ha3 ho3 hm3 hz3;replace ha3:=yb ha3;replace ho3:=yc ho3;refine B 4 ?_;refine rv rfl rfl rfl (ldRAw_r isAgg43 sizeOf43 rfl A0 hb3 hm3 zF rfl) ?_;refine rv rfl rfl rfl (bldS_r underlying138 zeroValue138 (PlF.n) rfl rfl) ?_;refine nNh (i:=0) (k:=dk f) (v:=()) rfl hm underlying109 keyD rfl rfl rfl rfl ?_;intro m2 hm2;refine B 1 ?_;refine retG (.inr rfl) results39 RS.n (λW hS=>⟨rfl,m2,hm2,(hS.links w A1).mono λk _ hk=>?_,hS.own _ A0⟩);simpa[Gh.no]using hk
theorem setD_has(b:Nat)(kv:List (Dk×Unit))(m:Mq)(hm:m.Ok kv)(f:Nat->Int)(w:World)(hb:w.heap[b]? =some (m.obj dkv uv kv)):Calls prog 30 #[.map (some b),.agg (dg f)] w (Ret w (.bool (gget kv (dk f)).isSome)):=by
 refine enter (vs:=[_,_]) func30 rfl ntmps30 rfl ?_;refine B 3 ?_;intro b3 w3 hb3 ha3 ho3 hm3 hz3;replace ha3:=yb ha3;replace ho3:=yc ho3;refine B 6 ?_;refine rv rfl rfl rfl (ldRAw_r isAgg43 sizeOf43 rfl A0 hb3 hm3 trivial rfl) ?_;refine rv rfl rfl rfl (RV.re (v':=.tuple #[.agg #[],.bool (gget kv (dk f)).isSome]) (gget2_r (m:=m) (k:=dk f) underlying109 keyD zeroValue138 hm (Lies.old A1 hb zO trivial) rfl rfl) (congrArg (λq=>Value.tuple #[q,.bool (gget kv (dk f)).isSome]) (uvD _))) ?_;exact z7i
theorem nVh(l:List Dk)(hl:l.length<=1000000)(N:Nat)(a:Option Addr)(c:Nat)(w:World)(hN:N<=w.heap.size)(hsl:SlAt dkA 32 N w a l):Calls prog 27 #[.slice a l.length c] w (RetX w (λb:Nat=>.map (some b)) (λb w1=>w.heap.size<=b/\∃m:Mq,m.Ok (dset l)/\w1.heap[b]? =some (m.obj dkv uv (dset l)))):=by
 refine enter (vs:=[_]) func27 rfl ntmps27 rfl ?_;refine B 7 ?_;refine mkMK dkv uv rfl rfl ?_;intro b6 ha6 ho6;replace ha6:=yb ha6;try simp only[Off,and_true,ne_eq]at ho6
 refine B 12 ?_;refine CJ.loop (α:=Mq×Nat) (λp=>[(3,.map (some b6)),(7,.slice a l.length c),(8,.int .i64 (l.length:Int)),(9,.int .i64 (p.2:Int))]) (λp=>[(b6,p.1.obj dkv uv (dset (l.take p.2)))]) (λp=>[w]) (λp=>Gh.no) (λp=>p.2<=l.length/\p.1.Ok (dset (l.take p.2))) (λp=>l.length-p.2) (Mq.mk [] 0,0) ⟨a3o _,Mq.nil⟩ zR rfl rfl zS ?_;rintro⟨m,j⟩ ⟨hj,hm⟩;dsimp only at hj hm ⊢;refine B 6 ?_;refine zCD ?_ ?_
 ·intro hc1;refine B 5 ?_;obtain⟨bl,ol,csl,tl,frl,rfl,hbl,hcsl,hell⟩:=hsl.get zG;obtain⟨x,hx⟩:=nj l j zG;obtain⟨f,rfl⟩:=nAm x;refine B 2 ?_;refine rv rfl rfl rfl (RV.re (v':=.agg (dg f)) (ldRA_r isAgg43 sizeOf43 rfl A0 hcsl zO zsc (nk hell hx rfl)) (congrArg Value.agg (nl hell hx rfl))) ?_;refine z8e ?_;intro b5 ha5 ho5;replace ha5:=yb ha5;replace ho5:=yc ho5;refine zHe ?_;refine B 5 ?_;refine callMK (i:=1) (m:=m) (kv:=dset (l.take j)) (kv':=dset (l.take (j+1))) rfl call39 rfl rfl rfl (λW hS hW=>by rw[np hx,nRn];exact setD_add b6 _ m hm f W hW) ?_;intro m2 hm2;refine zpg ?_;refine PJ.again (m2,j+1) ⟨by dsimp only;omega,hm2⟩ z2 zR rfl rfl zS
 intro hc1;refine B 12 ?_;exact retG (.inl rfl) results27 (RS.t rfl RS.n) (λW hS=>⟨b6,rfl,hS.base A0 zL,by omega,m,by rw[afp zG]at hm;exact hm,by have:=hS.own _ A0;rw[afp zG]at this;exact this⟩)
theorem nhg(p:Fo->Bool)(f:Nat)(cap:List Value)(hent:Ent prog f)(xs:List Fo)(hxl:xs.length<=9223372036854775807)(N:Nat)(a:Option Addr)(cp:Nat)(w:World)(hN:N<=w.heap.size)(hsl:SlAt foA 33 N w a xs)(hp:∀(j:Nat) (x:Fo),xs[j]? =some x->∀W,Below w.heap.size w W->Calls prog f (.agg (foA x)::cap).toArray W (Ret W (.bool (p x)))):Calls prog 57 #[.slice a xs.length cp,.func (.func f) #[] cap.toArray] w (RetX w (λi:Int=>.int .i64 i) (λi _=>IdxAt p xs i)):=by
 refine enter (vs:=[_,_]) func57 rfl ntmps57 rfl ?_;refine z9d ?_;rintro j ⟨hj,hto⟩;refine B 6 ?_;refine zCD ?_ ?_
 ·intro hc1;refine B 11 ?_;obtain⟨bo,oo,cs0,to,fr0,rfl,hbo,hcs,hel0⟩:=hsl.get zG;obtain⟨x,hx⟩:=nj xs j zG;refine B 5 ?_;refine rv rfl rfl rfl (RV.re (v':=.agg (foA x)) (ldRA_r isAgg45 sizeOf45 rfl A0 hcs zO trivial (nk hel0 hx rfl)) (congrArg Value.agg (nl hel0 hx rfl))) ?_;refine zgf ?_;refine B 2 ?_;refine zCD ?_ ?_
  ·intro hc2;refine B 12 ?_;refine nE (j:Int) results57 rfl A0 rfl ?_;exact zqj
  exact zRi
 intro hc1;refine B 11 ?_;refine nE (-1:Int) results57 rfl A0 rfl ?_;exact zYj
theorem ages_1(pf:Int)(b:Nat)(y:Fo)(w:World)(hb1:w.heap[b]? =some (.cells #[.int .i64 pf] 3 (0,0))):Calls prog 58 #[.agg (foA y),ptr b 0] w (Ret w (.bool (decide (y.id=pf)))):=by
 have hm1:¬Gh.no.X b:=λh=>h;have hl1:=(ago.1 hb1).1;refine enter (vs:=[_,_]) func58 rfl ntmps58 rfl ?_;refine B 3 ?_;intro b2 w2 hb2 ha2 ho2 hm2 hz2;replace ha2:=yb ha2;replace ho2:=yc ho2;refine B 13 ?_;refine retV results58 rfl A1 ?_;rfl
def bwL (gs:List Gv) (j:Nat):List (Gv×Nat):=(gs.zipIdx.drop j).reverse
theorem nkl{x:Gv}(h:gs[j]? =some x):bwL gs j=bwL gs (j+1)++[(x,j)]:=by
 have hl:=nz h;unfold bwL;have e:gs.zipIdx[j]? =some (x,j):=by rw[List.getElem?_zipIdx,h];simp
 obtain⟨h1,h2⟩:=ako.1 e;rw[aWo h1,h2,List.reverse_cons]
theorem bwL_end(gs:List Gv):bwL gs gs.length=[]:=by unfold bwL;rw[List.drop_of_length_le zS];rfl
theorem bwL_pfx(gs:List Gv):∀{j k:Nat},j<=k->k<=gs.length->bwL gs k <+:bwL gs j:=by
 intro j k hjk hk;unfold bwL;rw[List.reverse_prefix];refine⟨(gs.zipIdx.drop j).take (k-j),?_⟩;rw[show gs.zipIdx.drop k=(gs.zipIdx.drop j).drop (k-j) by rw[aIo];congr 1;omega,acp]
def bwE (p:Gv×Nat):List Value:=[.int .i64 (p.2:Int),.agg (gpA p.1)]
def bwRO (b:Nat) (a:Option Addr) (gs:List Gv):Foot:=λk=>k=b\/(gs≠ []/\∃off,a=some ⟨k,off,none⟩)
theorem bw_iter(gs:List Gv)(hgl:gs.length<=1000000)(b1:Nat)(NT:Nat)(a:Option Addr)(c:Nat)(W:World)(hNW:NT<=W.heap.size)(hst:SlAt gpA 36 NT W a gs)(hb1:W.heap[b1]? =some (.cells #[.slice a gs.length c] 41 (0,0))):n7b prog 93 [ptr b1 0] bwE (Pfx (bwL gs 0)) (Is (bwL gs 0)) (λ_=>False) (bwRO b1 a gs) W:=by
 intro l M I X0 hM hI hX hy h0;have hm1:¬(it2 hM (λ_=>False) (hI [] _)).X b1:=by rintro(h|h);(exact(hM _ h).2.2 (.inl rfl));(exact h.elim)
 have hl1:=(ago.1 hb1).1;refine nT (it2 hM (λ_=>False) (hI [] _)) [] (vs:=[_,_]) func93 rfl ntmps93 rfl (nMd hM (hI [] _) h0 zS (by simp[Dist]) zS) ?_;refine B 9 ?_;refine CJ.loop (α:=Nat×Foot) (λp=>[(0,yv l),(1,ptr b1 0),(3,.int .i64 ((p.1:Int)-1))]) (λp=>[]) (λp=>[W]) (λp=>it2 hM p.2 (hI (bwL gs p.1) p.2)) (λp=>p.1<=gs.length/\∀k,p.2 k->W.heap.size<=k) (λp=>p.1) (gs.length,λ_=>False) ⟨abo _,λ_ h=>h.elim⟩ zR rfl (by rw[bwL_end]) zS ?_;rintro⟨j,V⟩ ⟨hj,hV⟩;dsimp only at hj hV ⊢;clear hm1;have hm1:¬(it2 hM V (hI (bwL gs j) V)).X b1:=by rintro(h|h);(exact(hM _ h).2.2 (.inl rfl));(have:=hV _ h;omega)
 refine B 2 ?_;have hj1:j=0\/∃i,j=i+1:=by cases j;(exact .inl rfl);exact .inr ⟨_,rfl⟩
 refine B 5 ?_;refine zCD ?_ ?_
 ·intro hc1;refine B 5 ?_;obtain⟨i,rfl⟩:=hj1.resolve_left zG;obtain⟨bl,ol,csl,tl,frl,rfl,hbl,hcsl,hell⟩:=hst.get zG;obtain⟨x,hx⟩:=nj gs i zG;refine B 2 ?_;refine zYh ?_;refine zYh ?_;refine rv rfl rfl rfl (RV.re (v':=.agg (gpA x)) (ldRA_r isAgg62 sizeOf62 rfl A0 hcsl (λh=>by rcases h with h|h;(exact(hM _ h).2.2 (.inr ⟨by intro e;rw[e]at hx;simp at hx,ol,rfl⟩));(have:=hV _ h;omega)) trivial (nk hell hx rfl)) (congrArg Value.agg (nl hell hx rfl))) ?_;refine yldT (λ_=>False) id T_id (V:=V) (λV=>hI (bwL gs (i+1)++[(x,i)]) V) hX hV rfl rfl rfl rfl (λW1 hw1 hI1=>hy (bwL gs (i+1)) (x,i) V W1 (by rw[<-nkl hx];exact bwL_pfx gs (a3o i) zG) hw1 hI1) ?_ ?_
  ·intro V2 hV2 hV3;have hV2W:∀k,V2 k->W.heap.size<=k:=λk hk=>by rcases hV3 W A0 k hk with h|h;(exact hV k h);exact h
   refine B 12 ?_;refine PJ.again (i,V2) ⟨by dsimp only;omega,hV2W⟩ z2 ⟨rfl,rfl,congrArg (λq=>some (Value.int .i64 q)) zG,trivial⟩ rfl (by rw[nkl hx];rfl) zS
  intro V2 hV2 hV3;have hV2W:∀k,V2 k->W.heap.size<=k:=λk hk=>by rcases hV3 W A0 k hk with h|h;(exact hV k h);exact h
  refine B 9 ?_;exact n2b (.inl rfl) results93 A0 hV2W zPc (λA hA=>.inr hA)
 intro hc1;refine B 4 ?_;exact n2b (.inr rfl) results93 A0 hV zPc (λA hA=>.inl ⟨bwL gs j,by rw[show j=0 by omega],hA⟩)
theorem wnI_ok{cs:List Cm}(h:wnI Z cs g=some i):nxE Z g (cmN cs i)=0:=by
 unfold wnI at h;have h1:=(n8e (cmN cs) (caL Z cs g) _).2 i h;unfold caL at h1;rw[List.mem_mergeSort]at h1;unfold caT at h1;have h2:=(aMo.1 h1).2;unfold flB at h2;unfold cmN;cases hc:cs[i]? with
 |none=>rw[hc]at h2;cases h2
 |some c=>
  rw[hc]at h2;simp only[awo,decide_eq_true_eq]at h2;exact h2.2
theorem frI_ok{cs:List Cm}(h:frI Z cs fo=some i):nxE Z (g0 fo) (cmN cs i)=0:=by
 unfold frI at h;obtain⟨j,_,hj⟩:=aQo.1 h;split at hj
 ·cases hj;assumption
 cases hj
theorem ChG_ep{Z:Fx}{cs:List Cm}:∀{l:List (Nat×Gp)} {g:Gp},ChG Z cs g l->∀(k:Nat) (p:Nat×Gp),l[k]? =some p->p.2.epoch=g.epoch+1+(k:Int)
 | [],_,_,k,p,h=>by simp at h
 |q::l,g,hc,0,p,h=>by
  simp only[aho,a9n]at h;subst h;rw[hc.2.1];simp only[nxG,nHd (wnI_ok hc.1)];omega
 |q::l,g,hc,k+1,p,h=>by
  have h1:=ChG_ep hc.2.2 k p z2b;rw[h1,hc.2.1];simp only[nxG,nHd (wnI_ok hc.1)];omega
theorem ChF_ep{cs:List Cm}:∀{l:List (Nat×Gp)},ChF Z cs fo l->∀(k:Nat) (p:Nat×Gp),l[k]? =some p->p.2.epoch=1+(k:Int)
 | [],_,k,p,h=>by simp at h
 |q::l,hc,0,p,h=>by
  simp only[aho,a9n]at h;subst h;rw[hc.2.1];simp only[nxG,nHd (frI_ok hc.1),g0];omega
 |q::l,hc,k+1,p,h=>by
  have h1:=ChG_ep hc.2.2 k p z2b;rw[h1,hc.2.1];simp only[nxG,nHd (frI_ok hc.1),g0];omega
def ChX (Z:Fx) (cs:List Cm) (fo:Fo) (gs:List Gp):Prop:=∃l,ChF Z cs fo l/\l.map (·.2)=gs/\l.length<=cs.length
theorem ChX.uniq{cs:List Cm}{gs gs':List Gp}(h:ChX Z cs fo gs)(h':ChX Z cs fo gs'):gs=gs':=by
 obtain⟨l,h1,rfl,_⟩:=h;obtain⟨l',h2,rfl,_⟩:=h';rw[h1.uniq h2]
theorem ChX.len{cs:List Cm}{gs:List Gp}(h:ChX Z cs fo gs):gs.length<=cs.length:=by
 obtain⟨l,_,rfl,h2⟩:=h;rw[aAo];exact h2
theorem ChX.ep{cs:List Cm}(h:ChX Z cs fo (gs.map (λx:Gv=>x.g))){x:Gv}(hx:gs[k]? =some x):x.g.epoch=1+(k:Int):=by
 obtain⟨l,h1,h2,_⟩:=h;have h3:(l.map (·.2))[k]? =some x.g:=by rw[h2,aSo,hx];rfl
 rw[aSo]at h3;obtain⟨p,hp,hp2⟩:=ayp.1 h3;rw[<-hp2];exact ChF_ep h1 k p hp
theorem nuh(hZ:FxOk Z)(cs:List Cm)(hcs:cs.length<=1000)(hcg:∀c∈cs,CmGood c)(N:Nat)(la:Option Addr)(lc:Nat)(w:World)(hN:N<=w.heap.size)(hsl:SlAt cmA 73 N w la cs)(hC:∀c∈cs,CmAt N w c)(fo:Fo)(hg:Glb w):Calls prog 8 #[.agg (foA fo),.slice la cs.length lc] w (RetX w (λq:((Option Addr×Nat)×(Option Addr×Nat))×List Gv=>.tuple #[.slice q.1.1.1 q.2.length q.1.1.2,.slice q.1.2.1 q.2.length q.1.2.2]) (λq w1=>ChX Z cs fo (q.2.map (λx:Gv=>x.g))/\SlAt gpA 36 w1.heap.size w1 q.1.2.1 q.2/\∀p,q.1.2.1=some p->w.heap.size<=p.block)):=by
 refine(nek hZ cs hcs hcg N la lc w hN hsl hC fo hg).mono ?_;rintro e w1 ⟨⟨p,xs⟩,rfl,hB,⟨h1,h2⟩,_,h4,_,h6⟩;refine⟨(p,xs.map λd:Cd=>d.x),by simp,hB,⟨xs.map prj,h1,by simp[prj],by rw[aAo];exact h2⟩,h4,h6⟩
def ei:Int->Value:=λz=>.int .i64 z
def eL (gs:List Gv):Int:=((gs[gs.length-1]?).map (·.g.epoch)).getD 0
theorem eL_at{y:Gv}(h:gs[gs.length-1]? =some y):eL gs=y.g.epoch:=by unfold eL;rw[h];rfl
def agP (gs:List Gv) (pre:List (Gv×Nat)):List (Dk×Int):=pre.foldl (λs p=>gput s (dk p.1.g.last) (eL gs-p.1.g.epoch)) []
theorem n0k(gs:List Gv)(pre:List (Gv×Nat))(x:Gv×Nat):agP gs (pre++[x])=gput (agP gs pre) (dk x.1.g.last) (eL gs-x.1.g.epoch):=by unfold agP;rw[awp];rfl
def agM (gs:List Gv):List (Dk×Int):=agP gs (bwL gs 0)
theorem bwL_fst(gs:List Gv):(bwL gs 0).map (·.1)=gs.reverse:=by
 unfold bwL;rw[aop,List.map_reverse];congr 1;exact List.zipIdx_map_fst 0 gs
theorem ndm(E:Int)(k:Dk):∀gs:List Gv,gget (gs.foldr (λg s=>gput s (dk g.g.last) (E-g.g.epoch)) ([]:List (Dk×Int))) k=(gs.find? λg=>decide (dk g.g.last=k)).map λg=>E-g.g.epoch
 | []=>rfl
 |g::gs=>by
  rw[List.foldr_cons,nFh,ndm E k gs,List.find?_cons];by_cases h:k=dk g.g.last
  ·rw[if_pos h,decide_eq_true h.symm];rfl
  rw[if_neg h,decide_eq_false (λe=>h e.symm)]
theorem nNi(gs:List Gv)(k:Dk):gget (agM gs) k=(gs.find? λg=>decide (dk g.g.last=k)).map λg=>eL gs-g.g.epoch:=by
 rw[<-ndm];unfold agM agP;rw[<-List.foldr_reverse,<-List.foldr_map (f:=λp:Gv×Nat=>p.1) (g:=λg s=>gput s (dk g.g.last) (eL gs-g.g.epoch)),List.map_reverse,bwL_fst,List.reverse_reverse]
theorem bwL_mem{x:Gv×Nat}(h:x∈bwL gs 0):gs[x.2]? =some x.1:=by
 unfold bwL at h;rw[aop,List.mem_reverse]at h;obtain⟨i,hi⟩:=aoo.1 h;rw[List.getElem?_zipIdx]at hi;obtain⟨y,hy,rfl⟩:=ayp.1 hi;simpa using hy
theorem IdxAt.uniq{α:Type}{p:α->Bool}{xs:List α}{i:Int}{x:α}(h:IdxAt p xs i)(hx:xs[j]? =some x)(hp:p x=true)(hn:NoTo p xs j):i=(j:Int):=by
 rcases h with⟨rfl,h⟩|⟨k,y,rfl,hy,hpy,hny⟩
 ·rw[naj hx hp]at h;cases h
 by_cases h1:k<j
 ·have:=hn k y h1 hy;rw[hpy]at this;cases this
 by_cases h2:j<k
 ·have:=hny j x h2 hx;rw[hp]at this;cases this
 congr 1;omega
structure It where
 folder:Int
 commit:Nat->Int
 device:Int
 counter:Int
 kind:Int
 size:Int
 ca:Int
 cb:Int
 pad:Nat->Int
 body:List UInt8
 ba:Option Addr
 bc:Nat
 sr:Int
 ss:Int
def itA (x:It):Array Value:=#[.int .i64 x.folder,.int .u8 (x.commit 0),.int .u8 (x.commit 1),.int .u8 (x.commit 2),.int .u8 (x.commit 3),.int .u8 (x.commit 4),.int .u8 (x.commit 5),.int .u8 (x.commit 6),.int .u8 (x.commit 7),.int .u8 (x.commit 8),.int .u8 (x.commit 9),.int .u8 (x.commit 10),.int .u8 (x.commit 11),.int .u8 (x.commit 12),.int .u8 (x.commit 13),.int .u8 (x.commit 14),.int .u8 (x.commit 15),.int .u8 (x.commit 16),.int .u8 (x.commit 17),.int .u8 (x.commit 18),.int .u8 (x.commit 19),.int .u8 (x.commit 20),.int .u8 (x.commit 21),.int .u8 (x.commit 22),.int .u8 (x.commit 23),.int .u8 (x.commit 24),.int .u8 (x.commit 25),.int .u8 (x.commit 26),.int .u8 (x.commit 27),.int .u8 (x.commit 28),.int .u8 (x.commit 29),.int .u8 (x.commit 30),.int .u8 (x.commit 31),.int .i64 x.device,.int .i64 x.counter,.int .i64 x.kind,.int .i64 x.size,.int .i64 x.ca,.int .i64 x.cb,.int .u8 (x.pad 0),.int .u8 (x.pad 1),.int .u8 (x.pad 2),.int .u8 (x.pad 3),.int .u8 (x.pad 4),.int .u8 (x.pad 5),.int .u8 (x.pad 6),.int .u8 (x.pad 7),.int .u8 (x.pad 8),.int .u8 (x.pad 9),.int .u8 (x.pad 10),.int .u8 (x.pad 11),.int .u8 (x.pad 12),.int .u8 (x.pad 13),.int .u8 (x.pad 14),.int .u8 (x.pad 15),.int .u8 (x.pad 16),.int .u8 (x.pad 17),.int .u8 (x.pad 18),.int .u8 (x.pad 19),.int .u8 (x.pad 20),.int .u8 (x.pad 21),.int .u8 (x.pad 22),.int .u8 (x.pad 23),.int .u8 (x.pad 24),.int .u8 (x.pad 25),.int .u8 (x.pad 26),.int .u8 (x.pad 27),.int .u8 (x.pad 28),.int .u8 (x.pad 29),.int .u8 (x.pad 30),.int .u8 (x.pad 31),.slice x.ba x.body.length x.bc,.int .i64 x.sr,.int .i64 x.ss]
structure Rx where
 a1:Option Addr
 n1:Nat
 c1:Nat
 a3:Option Addr
 n3:Nat
 c3:Nat
 a4:Option Addr
 n4:Nat
 c4:Nat
 a5:Option Addr
 n5:Nat
 c5:Nat
 a6:Option Addr
 n6:Nat
 c6:Nat
def rcA (fa:Option Addr) (fn fc:Nat) (la:Option Addr) (ln lc:Nat) (ia:Option Addr) (il ic:Nat) (r:Rx):Array Value:=#[.slice fa fn fc,.slice r.a1 r.n1 r.c1,.slice la ln lc,.slice r.a3 r.n3 r.c3,.slice r.a4 r.n4 r.c4,.slice r.a5 r.n5 r.c5,.slice r.a6 r.n6 r.c6,.slice ia il ic]
theorem ret1M{fn:Func}{Dk t:Nat}{v:Value}(he:e= .ret\/e= .normal)(hr:fn.results=#[.tmp t])(hv:look E t=some v)(hm:(Dk,.deferred (some []))∈H)(h:∀W H',St G L H' W->H'.map (·.1)=H.map (·.1)->(∀p∈H,p.1≠Dk->p∈H')->R (.returned v) W):PJ C (bodyPostM (FW none) 0 C.P fn R) e E [coll Dk] G L H:=
 retM he hm λa W H' hF hS hst hmap=>⟨v,by rw[results_tmp hr];exact congrArg (λu=>Result.ok u W) (hF t v hv),h W H' hS hmap hst⟩
theorem nGl(a:Option Addr)(n c:Nat)(w:World):Calls prog 59 #[.slice a n c] w (RetX w (λb:Nat=>.func (.func 93) #[] #[ptr b 0]) (λb w1=>w.heap.size<=b/\w1.heap[b]? =some (.cells #[.slice a n c] 41 (0,0)))):=by
 refine enter (vs:=[_]) func59 rfl ntmps59 rfl ?_;refine B 3 ?_;intro b1 w1 hb1 ha1 ho1 hm1 hz1;replace ha1:=yb ha1;replace ho1:=yc ho1;refine B 10 ?_;refine nE b1 results59 rfl A1 rfl ?_;exact λW hS=>⟨by have:=ha1.1;omega,hS.old A0 hb1 hm1 trivial⟩
theorem ages_no(hZ:FxOk Z)(cs:List Cm)(hcs:cs.length<=1000)(hcg:∀c∈cs,CmGood c)(N:Nat)(la:Option Addr)(lc:Nat)(w:World)(hN:N<=w.heap.size)(hsl:SlAt cmA 73 N w la cs)(hC:∀c∈cs,CmAt N w c)(fa:Option Addr)(fos:List Fo)(fc:Nat)(hfl:fos.length<=9223372036854775807)(hfs:SlAt foA 33 N w fa fos)(ia:Option Addr)(il ic:Nat)(rx:Rx)(pf:Int)(hg:Glb w)(hno:fos.any (λf:Fo=>decide (f.id=pf))=false):Calls prog 28 #[.agg (rcA fa fos.length fc la cs.length lc ia il ic rx),.int .i64 pf] w (Ret w (.map none)):=by
 refine enter (vs:=[_,_]) func28 rfl ntmps28 rfl ?_;refine B 3 ?_;intro b2 w2 hb2 ha2 ho2 hm2 hz2;replace ha2:=yb ha2;replace ho2:=yc ho2;refine B 1 ?_;intro b3 w3 hb3 ha3 ho3 hm3 hz3;replace ha3:=yb ha3;replace ho3:=yc ho3;refine B 6 ?_;refine zXg ?_;refine B 1 ?_;refine zZe ?_;rintro Wi i wi hSi hBi hi;have hziw:=(hSi.links w3 A0).size;have hziB:=hBi.size;obtain rfl:i= -1:=by rcases hi with⟨h,_⟩|⟨k,y,h,hy,hpy,_⟩;(exact h);(rw[naj hy hpy]at hno;cases hno)
 refine B 7 ?_;refine zog ?_;refine B 10 ?_;refine retV results28 rfl A3 ?_;rfl
theorem ages_yes(hZ:FxOk Z)(cs:List Cm)(hcs:cs.length<=1000)(hcg:∀c∈cs,CmGood c)(N:Nat)(la:Option Addr)(lc:Nat)(w:World)(hN:N<=w.heap.size)(hsl:SlAt cmA 73 N w la cs)(hC:∀c∈cs,CmAt N w c)(fa:Option Addr)(fos:List Fo)(fc:Nat)(hfl:fos.length<=9223372036854775807)(hfs:SlAt foA 33 N w fa fos)(ia:Option Addr)(il ic:Nat)(rx:Rx)(pf:Int)(hg:Glb w)(jf:Nat)(fo:Fo)(hfo:fos[jf]? =some fo)(hfp:fo.id=pf)(hfn:NoTo (λf:Fo=>decide (f.id=pf)) fos jf):Calls prog 28 #[.agg (rcA fa fos.length fc la cs.length lc ia il ic rx),.int .i64 pf] w (RetX w (λq:((Nat×Mq)×Fo)×List Gv=>.map (some q.1.1.1)) (λq w1=>ChX Z cs fo (q.2.map (λx:Gv=>x.g))/\w.heap.size<=q.1.1.1/\q.1.1.2.Ok (agM q.2)/\w1.heap[q.1.1.1]? =some (q.1.1.2.obj dkv ei (agM q.2)))):=by
 have hg4:=hg.lt;have hjl:=nz hfo;refine n1b Gh.no [] (vs:=[_,_]) func28 rfl ntmps28 rfl (nmc w) ?_;refine B 3 ?_;intro b2 w2 hb2 ha2 ho2 hm2 hz2;replace ha2:=yb ha2;replace ho2:=yc ho2;refine B 1 ?_;intro b3 w3 hb3 ha3 ho3 hm3 hz3;replace ha3:=yb ha3;replace ho3:=yc ho3;refine B 6 ?_;refine zXg ?_;refine B 1 ?_;refine zZe ?_;rintro Wi i wi hSi hBi hi;have hziw:=(hSi.links w3 A0).size;have hziB:=hBi.size;obtain rfl:i=(jf:Int):=hi.uniq hfo (decide_eq_true hfp) hfn;refine B 7 ?_;refine zUd ?_;refine B 6 ?_;obtain⟨bf,of,csf,tf,frf,rfl,hbf,hcsf,helf⟩:=hfs.get zG;refine CJ.less (E':=[(0,_),(1,_),(2,_),(3,_),(4,_),(5,_),(11,_),(12,_),(13,_),(14,_),(15,_),(16,_)]) zR ?_;refine nRg 13 [7,8,9,10,11,12] [([],some _),([0],some (.slice (some ⟨bf,of,none⟩) fos.length fc)),([],some _),([1,2],some _),([3],some (.agg (foA fo))),([],some _),([5],some (.slice la cs.length lc)),([4,6],none),([7],none),([8],none),([8],none),([],none),([9],none)] [[],[0],[0,1],[0,1],[],[0,1,2,4]] (λcv L' H'=>match cv with| [none,none,none,none,none,none]=>L'=[wi,w3,w2,w]/\H'=[]| [none,none,none,none,some v11,none]=>∃(b7:Nat),v11=ptr b7 0/\L'=[wi,w3,w2,w]/\H'=[(b7,.cells #[.slice none 0 0] 41 (0,0))]/\wi.heap.size<=b7| [some v7,none,none,none,none,none]=>∃(a1:Option Addr) (c1:Nat) (a2:Option Addr) (c2:Nat) (gs:List Gv) (w7:World),v7= .tuple #[.slice a1 gs.length c1,.slice a2 gs.length c2]/\L'=[w7,wi,w3,w2,w]/\H'=[]/\ChX Z cs fo (gs.map (λx:Gv=>x.g))/\SlAt gpA 36 w7.heap.size w7 a2 gs/\(∀p,a2=some p->w.heap.size<=p.block)| [some v7,none,none,none,some v11,none]=>∃(a1:Option Addr) (c1:Nat) (a2:Option Addr) (c2:Nat) (gs:List Gv) (w7:World) (b7:Nat),v7= .tuple #[.slice a1 gs.length c1,.slice a2 gs.length c2]/\v11=ptr b7 0/\L'=[w7,wi,w3,w2,w]/\H'=[(b7,.cells #[.slice none 0 0] 41 (0,0))]/\ChX Z cs fo (gs.map (λx:Gv=>x.g))/\SlAt gpA 36 w7.heap.size w7 a2 gs/\(∀p,a2=some p->w.heap.size<=p.block)/\wi.heap.size<=b7/\(gs=[]\/∀p,a2=some p->p.block≠b7)| [some v7,some v8,none,none,none,none]=>∃(a1:Option Addr) (c1:Nat) (a2:Option Addr) (c2:Nat) (gs:List Gv) (w7:World),v7= .tuple #[.slice a1 gs.length c1,.slice a2 gs.length c2]/\v8= .tuple #[.slice a1 gs.length c1,.slice a2 gs.length c2]/\L'=[w7,wi,w3,w2,w]/\H'=[]/\ChX Z cs fo (gs.map (λx:Gv=>x.g))/\SlAt gpA 36 w7.heap.size w7 a2 gs/\(∀p,a2=some p->w.heap.size<=p.block)| [some v7,some v8,none,none,some v11,none]=>∃(a1:Option Addr) (c1:Nat) (a2:Option Addr) (c2:Nat) (gs:List Gv) (w7:World) (b7:Nat),v7= .tuple #[.slice a1 gs.length c1,.slice a2 gs.length c2]/\v8= .tuple #[.slice a1 gs.length c1,.slice a2 gs.length c2]/\v11=ptr b7 0/\L'=[w7,wi,w3,w2,w]/\H'=[(b7,.cells #[.slice none 0 0] 41 (0,0))]/\ChX Z cs fo (gs.map (λx:Gv=>x.g))/\SlAt gpA 36 w7.heap.size w7 a2 gs/\(∀p,a2=some p->w.heap.size<=p.block)/\wi.heap.size<=b7/\(gs=[]\/∀p,a2=some p->p.block≠b7)| [some v7,some v8,none,some v10,none,none]=>∃(a1:Option Addr) (c1:Nat) (a2:Option Addr) (c2:Nat) (gs:List Gv) (w7:World),v7= .tuple #[.slice a1 gs.length c1,.slice a2 gs.length c2]/\v8= .tuple #[.slice a1 gs.length c1,.slice a2 gs.length c2]/\v10= .slice a2 gs.length c2/\L'=[w7,wi,w3,w2,w]/\H'=[]/\ChX Z cs fo (gs.map (λx:Gv=>x.g))/\SlAt gpA 36 w7.heap.size w7 a2 gs/\(∀p,a2=some p->w.heap.size<=p.block)| [some v7,some v8,none,some v10,some v11,none]=>∃(a1:Option Addr) (c1:Nat) (a2:Option Addr) (c2:Nat) (gs:List Gv) (w7:World) (b7:Nat),v7= .tuple #[.slice a1 gs.length c1,.slice a2 gs.length c2]/\v8= .tuple #[.slice a1 gs.length c1,.slice a2 gs.length c2]/\v10= .slice a2 gs.length c2/\v11=ptr b7 0/\L'=[w7,wi,w3,w2,w]/\H'=[(b7,.cells #[.slice none 0 0] 41 (0,0))]/\ChX Z cs fo (gs.map (λx:Gv=>x.g))/\SlAt gpA 36 w7.heap.size w7 a2 gs/\(∀p,a2=some p->w.heap.size<=p.block)/\wi.heap.size<=b7/\(gs=[]\/∀p,a2=some p->p.block≠b7)| [some v7,some v8,some v9,none,none,none]=>∃(a1:Option Addr) (c1:Nat) (a2:Option Addr) (c2:Nat) (gs:List Gv) (w7:World),v7= .tuple #[.slice a1 gs.length c1,.slice a2 gs.length c2]/\v8= .tuple #[.slice a1 gs.length c1,.slice a2 gs.length c2]/\v9= .slice a1 gs.length c1/\L'=[w7,wi,w3,w2,w]/\H'=[]/\ChX Z cs fo (gs.map (λx:Gv=>x.g))/\SlAt gpA 36 w7.heap.size w7 a2 gs/\(∀p,a2=some p->w.heap.size<=p.block)| [some v7,some v8,some v9,none,some v11,none]=>∃(a1:Option Addr) (c1:Nat) (a2:Option Addr) (c2:Nat) (gs:List Gv) (w7:World) (b7:Nat),v7= .tuple #[.slice a1 gs.length c1,.slice a2 gs.length c2]/\v8= .tuple #[.slice a1 gs.length c1,.slice a2 gs.length c2]/\v9= .slice a1 gs.length c1/\v11=ptr b7 0/\L'=[w7,wi,w3,w2,w]/\H'=[(b7,.cells #[.slice none 0 0] 41 (0,0))]/\ChX Z cs fo (gs.map (λx:Gv=>x.g))/\SlAt gpA 36 w7.heap.size w7 a2 gs/\(∀p,a2=some p->w.heap.size<=p.block)/\wi.heap.size<=b7/\(gs=[]\/∀p,a2=some p->p.block≠b7)| [some v7,some v8,some v9,none,some v11,some v12]=>∃(a1:Option Addr) (c1:Nat) (a2:Option Addr) (c2:Nat) (gs:List Gv) (w7:World) (b7:Nat),v7= .tuple #[.slice a1 gs.length c1,.slice a2 gs.length c2]/\v8= .tuple #[.slice a1 gs.length c1,.slice a2 gs.length c2]/\v9= .slice a1 gs.length c1/\v11=ptr b7 0/\v12= .slice a1 gs.length c1/\L'=[w7,wi,w3,w2,w]/\H'=[(b7,.cells #[.slice none 0 0] 41 (0,0))]/\ChX Z cs fo (gs.map (λx:Gv=>x.g))/\SlAt gpA 36 w7.heap.size w7 a2 gs/\(∀p,a2=some p->w.heap.size<=p.block)/\wi.heap.size<=b7/\(gs=[]\/∀p,a2=some p->p.block≠b7)| [some v7,some v8,some v9,some v10,none,none]=>∃(a1:Option Addr) (c1:Nat) (a2:Option Addr) (c2:Nat) (gs:List Gv) (w7:World),v7= .tuple #[.slice a1 gs.length c1,.slice a2 gs.length c2]/\v8= .tuple #[.slice a1 gs.length c1,.slice a2 gs.length c2]/\v9= .slice a1 gs.length c1/\v10= .slice a2 gs.length c2/\L'=[w7,wi,w3,w2,w]/\H'=[]/\ChX Z cs fo (gs.map (λx:Gv=>x.g))/\SlAt gpA 36 w7.heap.size w7 a2 gs/\(∀p,a2=some p->w.heap.size<=p.block)| [some v7,some v8,some v9,some v10,some v11,none]=>∃(a1:Option Addr) (c1:Nat) (a2:Option Addr) (c2:Nat) (gs:List Gv) (w7:World) (b7:Nat),v7= .tuple #[.slice a1 gs.length c1,.slice a2 gs.length c2]/\v8= .tuple #[.slice a1 gs.length c1,.slice a2 gs.length c2]/\v9= .slice a1 gs.length c1/\v10= .slice a2 gs.length c2/\v11=ptr b7 0/\L'=[w7,wi,w3,w2,w]/\H'=[(b7,.cells #[.slice none 0 0] 41 (0,0))]/\ChX Z cs fo (gs.map (λx:Gv=>x.g))/\SlAt gpA 36 w7.heap.size w7 a2 gs/\(∀p,a2=some p->w.heap.size<=p.block)/\wi.heap.size<=b7/\(gs=[]\/∀p,a2=some p->p.block≠b7)| [some v7,some v8,some v9,some v10,some v11,some v12]=>∃(a1:Option Addr) (c1:Nat) (a2:Option Addr) (c2:Nat) (gs:List Gv) (w7:World) (b7:Nat),v7= .tuple #[.slice a1 gs.length c1,.slice a2 gs.length c2]/\v8= .tuple #[.slice a1 gs.length c1,.slice a2 gs.length c2]/\v9= .slice a1 gs.length c1/\v10= .slice a2 gs.length c2/\v11=ptr b7 0/\v12= .slice a1 gs.length c1/\L'=[w7,wi,w3,w2,w]/\H'=[(b7,.cells #[.slice none 0 0] 41 (0,0))]/\ChX Z cs fo (gs.map (λx:Gv=>x.g))/\SlAt gpA 36 w7.heap.size w7 a2 gs/\(∀p,a2=some p->w.heap.size<=p.block)/\wi.heap.size<=b7/\(gs=[]\/∀p,a2=some p->p.block≠b7)|_=>False) zM ⟨rfl,rfl⟩ zM zM zM zM zM zM rfl (qc (by exact λcv L' H' _ _ hP=>X.val rfl rfl (fld_r underlying31 rfl sizeOf22 rfl) R2) (qc zcy (qc z0b (qc (by exact λcv L' H' _ _ hP=>X.val rfl rfl (idxS_r underlying22 sizeOf45 rfl rfl zG zG) R2) (qc zcy (qc (by exact λcv L' H' _ _ hP=>X.val rfl rfl (fld_r underlying31 rfl sizeOf24 rfl) R2) (qc zcy (qk (qk (qk (qk (qk (qk (qn)))))))))))))) ?_ ?_
 ·refine nc rfl rfl rfl rfl ?_ ?_
  ·intro cv L' H' hl hr hP F Q' hk;obtain⟨x7,x8,x9,x10,x11,x12,rfl⟩:=len6 hl;rcases x7 with _|v7<;>rcases x8 with _|v8<;>rcases x9 with _|v9<;>rcases x10 with _|v10<;>rcases x11 with _|v11<;>rcases x12 with _|v12<;>try exact False.elim hP
   ·obtain⟨rfl,rfl⟩:=hP;refine zze ?_;rintro W7 ⟨⟨⟨a1,c1⟩,⟨a2,c2⟩⟩,gs⟩ w7 hS7 hB7 ⟨hch,hs2,hn2⟩;try dsimp only at hch hs2 hn2
    have hz7:=(hS7.links w A3).size;have hn3:(∀p,a2=some p->w.heap.size<=p.block):=λp e=>aco hz7 (hn2 p e);exact OJ.done (hk _ _ _ ⟨a1,c1,a2,c2,gs,w7,rfl,rfl,rfl,hch,hs2,hn3⟩)
   ·obtain⟨b7,rfl,rfl,rfl,ha7⟩:=hP;refine zze ?_;rintro W7 ⟨⟨⟨a1,c1⟩,⟨a2,c2⟩⟩,gs⟩ w7 hS7 hB7 ⟨hch,hs2,hn2⟩;try dsimp only at hch hs2 hn2
    have hz7:=(hS7.links w A3).size;have ho7:gs=[]\/∀p,a2=some p->p.block≠b7:=.inr (λp e=>by have h1:=hS7.lt (b7,_) A0;have h2:=hn2 p e;dsimp only at h1;omega);have hn3:(∀p,a2=some p->w.heap.size<=p.block):=λp e=>aco hz7 (hn2 p e);exact OJ.done (hk _ _ _ ⟨a1,c1,a2,c2,gs,w7,b7,rfl,rfl,rfl,rfl,hch,hs2,hn3,ha7,ho7⟩)
   ·exact z1h
   ·exact z1h
   ·exact z1h
   ·exact z1h
   ·exact z1h
   ·exact z1h
   ·exact z1h
   ·exact z1h
   ·exact z1h
   ·exact z1h
   ·exact z1h
   exact z1h
  refine nc rfl rfl rfl rfl ?_ ?_
  ·intro cv L' H' hl hr hP F Q' hk;obtain⟨x7,x8,x9,x10,x11,x12,rfl⟩:=len6 hl;rcases x7 with _|v7<;>rcases x8 with _|v8<;>rcases x9 with _|v9<;>rcases x10 with _|v10<;>rcases x11 with _|v11<;>rcases x12 with _|v12<;>try exact False.elim hP
   ·exact z1h
   ·exact z1h
   ·obtain⟨a1,c1,a2,c2,gs,w7,rfl,rfl,rfl,hch,hs2,hn3⟩:=hP;refine B 1 ?_;exact OJ.done (hk _ _ _ ⟨a1,c1,a2,c2,gs,w7,rfl,rfl,rfl,rfl,hch,hs2,hn3⟩)
   ·obtain⟨a1,c1,a2,c2,gs,w7,b7,rfl,rfl,rfl,rfl,hch,hs2,hn3,ha7,ho7⟩:=hP;refine B 1 ?_;exact OJ.done (hk _ _ _ ⟨a1,c1,a2,c2,gs,w7,b7,rfl,rfl,rfl,rfl,rfl,hch,hs2,hn3,ha7,ho7⟩)
   ·exact z1h
   ·exact z1h
   ·exact z1h
   ·exact z1h
   ·exact z1h
   ·exact z1h
   ·exact z1h
   ·exact z1h
   ·exact z1h
   exact z1h
  refine nc rfl rfl rfl rfl ?_ ?_
  ·intro cv L' H' hl hr hP F Q' hk;obtain⟨x7,x8,x9,x10,x11,x12,rfl⟩:=len6 hl;rcases x7 with _|v7<;>rcases x8 with _|v8<;>rcases x9 with _|v9<;>rcases x10 with _|v10<;>rcases x11 with _|v11<;>rcases x12 with _|v12<;>try exact False.elim hP
   ·exact z1h
   ·exact z1h
   ·exact z1h
   ·exact z1h
   ·exact zdj
   ·exact z1i
   ·exact z5i
   ·exact zyi
   ·exact z1h
   ·exact z1h
   ·exact z1h
   ·exact z1h
   ·exact z1h
   exact z1h
  refine nc rfl rfl rfl rfl ?_ ?_
  ·intro cv L' H' hl hr hP F Q' hk;obtain⟨x7,x8,x9,x10,x11,x12,rfl⟩:=len6 hl;rcases x7 with _|v7<;>rcases x8 with _|v8<;>rcases x9 with _|v9<;>rcases x10 with _|v10<;>rcases x11 with _|v11<;>rcases x12 with _|v12<;>try exact False.elim hP
   ·exact z1h
   ·exact z1h
   ·exact z1h
   ·exact z1h
   ·exact zdj
   ·exact z1i
   ·exact z1h
   ·exact z1h
   ·exact z5i
   ·exact zyi
   ·exact zVi
   ·exact z1h
   ·exact z1h
   exact z1h
  refine nc rfl rfl rfl rfl ?_ ?_
  ·intro cv L' H' hl hr hP F Q' hk;obtain⟨x7,x8,x9,x10,x11,x12,rfl⟩:=len6 hl;rcases x7 with _|v7<;>rcases x8 with _|v8<;>rcases x9 with _|v9<;>rcases x10 with _|v10<;>rcases x11 with _|v11<;>rcases x12 with _|v12<;>try exact False.elim hP
   ·obtain⟨rfl,rfl⟩:=hP;refine zhg ?_;intro b7 ha ho;exact OJ.done (hk _ _ _ ⟨b7,rfl,rfl,rfl,(ha.mem wi zS)⟩)
   ·exact z1h
   ·obtain⟨a1,c1,a2,c2,gs,w7,rfl,rfl,rfl,hch,hs2,hn3⟩:=hP;refine zhg ?_;intro b7 ha ho;have ho7:gs=[]\/∀p,a2=some p->p.block≠b7:=by
     exact zli
    exact OJ.done (hk _ _ _ ⟨a1,c1,a2,c2,gs,w7,b7,rfl,rfl,rfl,rfl,hch,hs2,hn3,(ha.mem wi zS),ho7⟩)
   ·exact z1h
   ·obtain⟨a1,c1,a2,c2,gs,w7,rfl,rfl,rfl,rfl,hch,hs2,hn3⟩:=hP;refine zhg ?_;intro b7 ha ho;have ho7:gs=[]\/∀p,a2=some p->p.block≠b7:=by
     exact zli
    exact OJ.done (hk _ _ _ ⟨a1,c1,a2,c2,gs,w7,b7,rfl,rfl,rfl,rfl,rfl,hch,hs2,hn3,(ha.mem wi zS),ho7⟩)
   ·exact z1h
   ·exact zbk
   ·exact z1h
   ·exact zbk
   ·exact z1h
   ·exact z1h
   ·obtain⟨a1,c1,a2,c2,gs,w7,rfl,rfl,rfl,rfl,rfl,rfl,hch,hs2,hn3⟩:=hP;refine zhg ?_;intro b7 ha ho;have ho7:gs=[]\/∀p,a2=some p->p.block≠b7:=by
     exact zli
    exact OJ.done (hk _ _ _ ⟨a1,c1,a2,c2,gs,w7,b7,rfl,rfl,rfl,rfl,rfl,rfl,rfl,hch,hs2,hn3,(ha.mem wi zS),ho7⟩)
   ·exact z1h
   exact z1h
  refine nc rfl rfl rfl rfl ?_ ?_
  ·intro cv L' H' hl hr hP F Q' hk;obtain⟨x7,x8,x9,x10,x11,x12,rfl⟩:=len6 hl;rcases x7 with _|v7<;>rcases x8 with _|v8<;>rcases x9 with _|v9<;>rcases x10 with _|v10<;>rcases x11 with _|v11<;>rcases x12 with _|v12<;>try exact False.elim hP
   ·exact z1h
   ·exact z1h
   ·exact z1h
   ·exact z1h
   ·exact z1h
   ·exact z1h
   ·exact z1h
   ·exact z1h
   ·exact z1h
   ·exact zyi
   ·exact z1h
   ·exact z1h
   ·exact zVi
   exact z1h
  exact nn
 intro cv L' H' hl hr hP;obtain⟨x7,x8,x9,x10,x11,x12,rfl⟩:=len6 hl;rcases x7 with _|v7<;>rcases x8 with _|v8<;>rcases x9 with _|v9<;>rcases x10 with _|v10<;>rcases x11 with _|v11<;>rcases x12 with _|v12
 ·exact z1h
 ·exact z1h
 ·exact z1h
 ·exact z1h
 ·exact z1h
 ·exact z1h
 ·exact z1h
 ·exact z1h
 ·exact z1h
 ·exact z1h
 ·exact z1h
 ·exact z1h
 ·exact z1h
 ·exact z1h
 ·exact z1h
 ·exact z1h
 ·exact z1h
 ·exact z1h
 ·exact z1h
 ·exact z1h
 ·exact z1h
 ·exact z1h
 ·exact z1h
 ·exact z1h
 ·exact z1h
 ·exact z1h
 ·exact z1h
 ·exact z1h
 ·exact z1h
 ·exact z1h
 ·exact z1h
 ·exact z1h
 ·exact z1h
 ·exact z1h
 ·exact z1h
 ·exact z1h
 ·exact z1h
 ·exact z1h
 ·exact z1h
 ·exact z1h
 ·exact z1h
 ·exact z1h
 ·exact z1h
 ·exact z1h
 ·exact z1h
 ·exact z1h
 ·exact z1h
 ·exact z1h
 ·exact z1h
 ·exact z1h
 ·exact z1h
 ·exact z1h
 ·exact z1h
 ·exact z1h
 ·exact z1h
 ·exact z1h
 ·exact z1h
 ·exact z1h
 ·exact z1h
 ·exact z1h
 ·exact z1h
 ·exact z1h
 ·exact z1h
 obtain⟨a1,c1,a2,c2,gs,w7,b7,rfl,rfl,rfl,rfl,rfl,rfl,rfl,rfl,hch,hs2,hn3,ha7,ho7⟩:=hP;refine stWw (i:=0) rfl sizeOf41 rfl rfl rfl rfl rfl rfl ?_;refine B 4 ?_;have hgl:gs.length<=cs.length:=by have:=hch.len;rwa[aAo]at this
 refine mkMK dkv ei rfl rfl ?_;intro b28 ha28 ho28;replace ha28:=yb ha28;try simp only[Off,and_true,ne_eq]at ho28
 refine zDf ?_;intro b8 ha8 ho8;replace ha8:=yb ha8;replace ho8:=yc ho8;refine stWw (i:=0) rfl sizeOf111 rfl rfl rfl rfl rfl rfl ?_;refine B 5 ?_;refine rv rfl rfl rfl (RV.re (v':=.slice a2 gs.length c2) (ldW_r (i:=2) rfl isAgg41 rfl rfl) (rfl)) ?_;refine nq (α:=Nat) (v:=λb:Nat=>.func (.func 93) #[] #[ptr b 0]) (Φ:=λW b w1=>W.heap.size<=b/\w1.heap[b]? =some (.cells #[.slice a2 gs.length c2] 41 (0,0))) call59 rfl rfl rfl (λW hS=>nGl a2 gs.length c2 W) ?_;rintro Wb q wb hSb hBb ⟨hq1,hq2⟩;try dsimp only at hq1 hq2
 have hlq:=(ago.1 hq2).1;have hzb:=hBb.size;have hzb8:=(hSb.links w7 A0).size;have lb7:=hSb.lt (b7,_) A2;have lb28:=hSb.lt (b28,_) A1;have lb8:=hSb.lt (b8,_) A0;try dsimp only at lb7 lb28 lb8
 refine B 3 ?_;refine CJ.reH (H':=[(b8,.cells #[.map (some b28)] 111 (0,0)),(b28,(Mq.mk [] 0).obj dkv ei (agP gs [])),(b7,.cells #[.slice a2 gs.length c2] 41 (0,0))]) rfl ?_;refine CJ.range2 (f:=93) (cap:=[ptr q 0]) (α:=Gv×Nat) (enc:=bwE) (Pre:=Pfx (bwL gs 0)) (Fin:=Is (bwL gs 0)) (RO:=bwRO q a2 gs) (MI:=λ_=>False) rfl call93 (λW' W2 hS hB=>by have l1:=(hS.links wb A0).size;exact bw_iter gs zG q W'.heap.size a2 c2 W2 hB.size ((hs2.toG hS A1 (abo _) (λb off e=>by by_cases h0:gs=[];(exact .inl h0);exact .inr (λhb=>⟨λh=>h,by have h1:=ho7.resolve_left h0 _ e;dsimp only at h1;simp only[Off,and_true];omega⟩))).up (abo _) (λk hk=>hB.block k hk)) (by rw[hB.block q zG];exact hS.old A0 hq2 zO zEb)) (λ_ _ _ hk=>hk.elim) (λW' hS k hk=>by have l1:=(hS.links wb A0).size;have l7:=(hS.links w7 A1).size;simp only[afo,a0o,aeo,aCo,or_false];rcases hk with rfl|⟨h0,off,e⟩;(exact⟨by omega,by omega,λh=>h⟩);(have h1:=ho7.resolve_left h0 _ e;have h2:=(hs2.ltq _ e).resolve_left h0;dsimp only at h1 h2;exact⟨by omega,by omega,λh=>h⟩)) (λ_=>rfl) (λpre G' Hc=>G'=Gh.no/\∃m:Mq,m.Ok (agP gs pre)/\Hc=[(b8,.cells #[.map (some b28)] 111 (0,0)),(b28,m.obj dkv ei (agP gs pre)),(b7,.cells #[.slice a2 gs.length c2] 41 (0,0))]) (λ_ _ _=>False) ⟨rfl,Mq.mk [] 0,Mq.nil,rfl⟩ zI ?_ ?_ ?_
 ·rintro pre x G' Hc l Dk rec W1 M V Wy hrs hrp hpre ⟨rfl,m,hm,rfl⟩ haD hlD hlW haW hlent hsY;simp only[Above]at haD haW;refine B 1 ?_;refine zYe ?_;intro b10 ha10 ho10;replace ha10:=yb ha10;replace ho10:=yc ho10;refine zje ?_;refine B 1 ?_;refine PJ.reH (H':=book ([(b10,.cells (gpA x.1) 62 (0,0))]++[(b8,.cells #[.map (some b28)] 111 (0,0)),(b28,m.obj dkv ei (agP gs pre)),(b7,.cells #[.slice a2 gs.length c2] 41 (0,0))]) l rec (bxD Dk)) rfl ?_;refine n8b hrs ?_;refine B 1 ?_;have hxm:=bwL_mem (hpre.subset (azo.2 (.inr A0)));have hgp:=nz hxm;obtain⟨y,hy⟩:=nj gs (gs.length-1) zG;obtain⟨bl,ol,csl,tl,frl,rfl,hbl,hcsl,hell⟩:=hs2.get zG;have hol:=(ho7.resolve_left (by intro e;rw[e]at hgp;simp at hgp)) _ rfl;dsimp only at hol;have hmb:¬(Gh.no.ext λk=>M k\/V k).X bl:=hlent.z (k:=bl) zG zO zac zO;have hxe:=hch.ep hxm;have hye:=hch.ep hy;have hEL:=eL_at hy;refine CJ.less (E':=[(0,_),(1,_),(2,_),(3,_),(4,_),(5,_),(7,_),(8,_),(10,_),(11,_),(12,_),(13,_),(14,_),(15,_),(16,_),(17,_),(18,_),(19,_),(20,_),(21,_),(22,_),(23,_),(24,_),(25,_),(26,_),(27,_),(28,_),(29,_),(30,_),(32,_)]) zR ?_;refine nw 13 [.det [] _,.det [] _,.det [1] _,.det [] _,.det [] _,.det [4] _,.det [5] _,.det [3,6] _,.det [7] _,.det [8] _,.det [] _,.det [10] _,.det [9,11] _] zM (xc (by exact λvals=>X.val rfl rfl (RV.re (v':=.map (some b28)) (ldW_r (i:=1) rfl isAgg111 rfl rfl) (rfl)) (λ_ _=>rfl)) (xc (by exact λvals=>X.val rfl rfl (fld_r underlying62 rfl sizeOf43 rfl) (λ_ _=>rfl)) (xc (by exact λvals=>X.val rfl rfl (RV.re (v':=.agg (dg x.1.g.last)) (ldWA_r (i:=0) rfl isAgg43 sizeOf43 rfl (apo rfl)) (rfl)) (λ_ _=>rfl)) (xc zvc (xc zvc (xc (by exact λvals=>X.val rfl rfl (lenS_r underlying41 rfl) (λ_ _=>rfl)) (xc (by exact λvals=>X.val rfl rfl (RV.re (v':=.int .i64 ((gs.length-1:Nat):Int)) (subI_r rfl rfl zG zG) (congrArg (Value.int .i64) zG)) (λ_ _=>rfl)) (xc zsd (xc zbb (xc (by exact λvals=>X.val rfl rfl (RV.re (v':=.int .i64 y.g.epoch) (ldR_r isAgg3 rfl A2 hcsl hmb zOb (nQ hell hy rfl 1 zI)) rfl) (λ_ _=>rfl)) (xc zbb (xc (by exact λvals=>X.val rfl rfl (RV.re (v':=.int .i64 x.1.g.epoch) (ldW_r (i:=0) rfl isAgg3 rfl rfl) (rfl)) (λ_ _=>rfl)) (xc (by exact λvals=>X.val rfl rfl (RV.re (v':=.int .i64 (eL gs-x.1.g.epoch)) (subI_r rfl rfl zG zG) (congrArg (Value.int .i64) zG)) (λ_ _=>rfl)) (xn)))))))))))))) zM zM zM (λvals=>?_)
  refine nNh (i:=2) (k:=dk x.1.g.last) (v:=eL gs-x.1.g.epoch) rfl hm underlying111 keyD rfl rfl rfl rfl ?_;intro m2 hm2;refine zWh ?_;refine njb (G2:=Gh.no) (Hc2:=[(b8,.cells #[.map (some b28)] 111 (0,0)),(b28,m2.obj dkv ei (gput (agP gs pre) (dk x.1.g.last) (eL gs-x.1.g.epoch))),(b7,.cells #[.slice (some ⟨bl,ol,none⟩) gs.length c2] 41 (0,0))]) hlent hlD ⟨λ_ h=>h,λ_ h=>.inl h,λ_ h=>.inl h,z0c,z0c⟩ (nxb hrs hrp) ?_;exact⟨rfl,m2,by rw[n0k];exact hm2,by rw[n0k]⟩
 ·rintro xs' l Dk rec G' Hc rfl haD hlD ⟨rfl,m,hm,rfl⟩;replace haD:=yb haD;refine nCg λWd hSd=>?_;have hbn:=nod hSd;refine B 9 ?_;refine ret1M (.inl rfl) results28 rfl zjc (λW H' hS hmap hst=>?_);refine⟨(((b28,m),fo),gs),rfl,?_,hch,by have:=ha28.1;dsimp only;omega,hm,hS.own _ (hst _ A1 (hbn _ A1).1)⟩;exact(hS.links w A5).below (λk hk hx=>by rcases hx with hx|hx;(exact hx);rw[hmap]at hx;simp only[book,ayo,afo,a0o,azo,aeo,aCo,or_false]at hx;omega)
 exact zRj
inductive Fv where
 |int (n:Int)
 |text (l:List UInt8)
def fvE:Fv->List Value
 | .int n=>[.int .i64 1,.int .i64 n,.string ⟨#[]⟩,.slice none 0 0]
 | .text l=>[.int .i64 2,.int .i64 0,.string (bsT l),.slice none 0 0]
theorem n7c:∀x:Fv,(fvE x).length=4
 | .int _=>rfl
 | .text _=>rfl
theorem ncj:∀(x:Fv),∀u∈fvE x,u.oneCell'=true
 | .int _=>nki rfl
 | .text _=>nki rfl
def Fv.v:Fv->V
 | .int n=>.int n
 | .text l=>.text (bsT l)
theorem Fv.flat:∀l:List Fv,(l.map Fv.v).all nab=true
 | []=>rfl
 | .int _::l=>by simpa[Fv.v,nab]using Fv.flat l
 | .text _::l=>by simpa[Fv.v,nab]using Fv.flat l
theorem Fv.cells:∀l:List Fv,nM (l.map Fv.v)=flt fvE l
 | []=>rfl
 | .int _::l=>by have:=Fv.cells l;simp only[nM,flt,afo,avp]at this ⊢;rw[this];rfl
 | .text _::l=>by have:=Fv.cells l;simp only[nM,flt,afo,avp]at this ⊢;rw[this];rfl
inductive An where
 |i (n:Int)
 |b (a:Option Addr) (l:List UInt8) (c:Nat)
def anV:An->Value
 | .i n=>.iface 3 (.int .i64 n)
 | .b a l c=>.iface 52 (.slice a l.length c)
def anA (x:An):Array Value:=#[anV x]
def anF:An->Fv
 | .i n=>.int n
 | .b _ l _=>.text l
def AnAt (N:Nat) (w:World):An->Prop
 | .i _=>True
 | .b a l _=>ByAt N w a l
theorem con3:Program.concrete prog 3=true:=by kernel_rfl
theorem con52:Program.concrete prog 52=true:=by kernel_rfl
theorem nsi(ys:List An)(hyl:ys.length<=1000)(N:Nat)(a:Option Addr)(cp:Nat)(w:World)(hN:N<=w.heap.size)(hsl:SlAt anA 1 N w a ys)(hby:∀y∈ys,AnAt N w y):Calls prog 53 #[.slice a ys.length cp] w (nC w fvE 4 149 (ys.map anF) (λs=>.agg #[.int .i64 3,.int .i64 0,.string ⟨#[]⟩,s])):=by
 refine enter (vs:=[_]) func53 rfl ntmps53 rfl ?_;refine B 2 ?_;refine zqf ?_;intro b2 ha2 ho2;replace ha2:=yb ha2;replace ho2:=yc ho2;refine B 5 ?_;refine z1f ?_;refine B 11 ?_;refine CJ.loop (α:=Rw×Nat) (λp=>[(2,ptr b2 0),(8,.slice a ys.length cp),(9,.int .i64 (ys.length:Int)),(10,.int .i64 (p.2:Int))]) (λp=>[(b2,.cells #[.int .i64 3,.int .i64 0,.string ⟨#[]⟩,p.1.val ((ys.take p.2).map anF).length] 149 (0,0))]++(p.1.hp fvE 149 ((ys.take p.2).map anF)++[])) (λp=>[w]) (λp=>Gh.no) (λp=>p.2<=ys.length/\p.1.Fr Gh.no [w]/\p.1.Fit 4 ((ys.take p.2).map anF)) (λp=>ys.length-p.2) (.nil,0) ⟨a3o _,True.intro,rfl⟩ zR rfl rfl zS ?_;rintro⟨r,j⟩ ⟨hj,hrf,hrfit⟩;dsimp only at hj hrf hrfit ⊢;have hrge:r.ge w.heap.size:=Rw.ge_of hrf A0;refine B 6 ?_;refine zCD ?_ ?_
 ·intro hc1;refine B 5 ?_;obtain⟨b0,off0,cs0,t0,fr0,rfl,hb0,hcs,hel0⟩:=hsl.get zG;obtain⟨y,hy⟩:=nj ys j zG;refine B 2 ?_;refine rv rfl rfl rfl (ldR_r (v:=anV y) isAgg20 rfl A0 hcs zO (by simp only[Off,ne,aEo,abp,asp,ne_eq,and_true];exact⟨by omega,Rw.off_ge hrge zG⟩) (by have:=nF hel0 hy rfl zI;simpa[anA]using this)) ?_;refine B 4 ?_;have hyb:=hby y (ajo hy);rcases y with n|⟨ab,lb,cb⟩
  ·refine B 7 ?_;refine rv rfl rfl rfl (tAsY_r con3 rfl) ?_;refine B 14 ?_;refine zce ?_;refine zye ?_;intro b22 ha22 ho22;replace ha22:=yb ha22;replace ho22:=yc ho22;refine apT (r:=r) (xs:=((ys.take j).map anF)) (zs:=[(Fv.int n)]) (enc:=fvE) (m:=4) (H0:=[(b22,.cells #[.int .i64 1,.int .i64 n,.string ⟨#[]⟩,.slice none 0 0] 149 (0,0)),(b2,.cells #[.int .i64 3,.int .i64 0,.string ⟨#[]⟩,r.val ((ys.take j).map anF).length] 149 (0,0))]) (H1:=[]) zub ncf n7c rfl rfl rfl rfl (SrcT.one (z:=Fv.int n) n7c ncj underlying147 (Lies.own (i:=0) rfl)) hrfit hrf zS (by simp only[aAo,anp,axo,a1o];omega) ?_;intro b23 cp23 sp23 hf23 hfit23;replace hf23:=yb hf23;refine B 1 ?_;refine zQg ?_;refine zyh ?_;refine PJ.again (Rw.row b23 cp23 sp23,j+1) ⟨by dsimp only;omega,hf23.elim (λh=>Rw.Fr_at hrf h) (λh=>.inr h),by dsimp only;rw[np hy,ayo];exact hfit23⟩ z2 zR (by dsimp only;rw[np hy,ayo];rfl) rfl zS
  refine B 7 ?_;refine rv rfl rfl rfl (tAsN_r con3 zeroValue3 zI rfl) ?_;refine B 7 ?_;refine rv rfl rfl rfl (tAsY_r con52 rfl) ?_;refine B 14 ?_;refine rv rfl rfl rfl (cvtY_r underlying52 underlying5 underlying9 rfl A0 hyb (λb hb2=>⟨λh=>h,by simp only[Off,ne,aEo,abp,asp,ne_eq,and_true];exact⟨by omega,Rw.off_ge hrge zG⟩⟩)) ?_;refine zce ?_;refine zye ?_;intro b33 ha33 ho33;replace ha33:=yb ha33;replace ho33:=yc ho33;refine apT (r:=r) (xs:=((ys.take j).map anF)) (zs:=[(Fv.text lb)]) (enc:=fvE) (m:=4) (H0:=[(b33,.cells #[.int .i64 2,.int .i64 0,.string (bsT lb),.slice none 0 0] 149 (0,0)),(b2,.cells #[.int .i64 3,.int .i64 0,.string ⟨#[]⟩,r.val ((ys.take j).map anF).length] 149 (0,0))]) (H1:=[]) zub ncf n7c rfl rfl rfl rfl (SrcT.one (z:=Fv.text lb) n7c ncj underlying147 (Lies.own (i:=0) rfl)) hrfit hrf zS (by simp only[aAo,anp,axo,a1o];omega) ?_;intro b34 cp34 sp34 hf34 hfit34;replace hf34:=yb hf34;refine B 1 ?_;refine zQg ?_;refine zyh ?_;refine PJ.again (Rw.row b34 cp34 sp34,j+1) ⟨by dsimp only;omega,hf34.elim (λh=>Rw.Fr_at hrf h) (λh=>.inr h),by dsimp only;rw[np hy,ayo];exact hfit34⟩ z2 zR (by dsimp only;rw[np hy,ayo];rfl) rfl zS
 intro hc1;refine B 6 ?_;have hje:j=ys.length:=by omega
 have hall:ys.take j=ys:=afp zG;rw[hall]at hrfit ⊢;refine B 2 ?_;refine stWw (i:=0) rfl sizeOf149 rfl rfl rfl rfl rfl (by cases r<;>rfl) ?_;refine B 3 ?_;exact nU (H0:=[(b2,.cells #[.int .i64 3,.int .i64 0,.string ⟨#[]⟩,r.val (ys.map anF).length] 149 (0,0))]) (H1:=[]) (r:=r) (.inl rfl) results53 (RS.wA (i:=0) rfl isAgg149 sizeOf149 rfl (apo rfl) RS.n) A0 (by simp only[adp,aEo,abp,asp,Over,and_true];exact⟨by omega,Rw.over hrge⟩) rfl hrfit hrge (by first|rfl|simp)
def segA (s:Seg):Option Addr:=if s.c=0 then none else some ⟨s.b,s.off,none⟩
def nkh (ss:List Seg):Array Value:=(ss.map λs=>Value.slice (segA s) s.n s.c).toArray
theorem nfh(ss:List Seg)(j k:Nat)(h:k=j)(hj:j<ss.length):(nkh ss)[k]? =some (.slice (segA ss[j]) ss[j].n ss[j].c):=by subst h;simp[nkh,hj]
structure Seg.At0 (s:Seg) (w:World):Prop where
 z:s.c=0->s.n=0
 at_:s.c≠0->s.At w
theorem SrcJ.seg0{e':Nat}{s:Seg}(hU:C.P.underlying tx=some (.slice e'))(hm:w1∈L)(h:s.At0 w1)(hG:s.c≠0->¬G.X s.b/\Off H s.b):SrcJ C G L H 1 tx (.slice (segA s) s.n s.c) s.n s.l:=by
 by_cases hc:s.c=0
 ·have hn:=h.z hc;have hl:s.l=[]:=by unfold Seg.l;rw[hn];rfl
  rw[hn,hl];exact SrcJ.sl hU Rd.zero rfl zS
 obtain⟨cs,t,fr,h1,h2,h3⟩:=h.at_ hc;have e:segA s=some ⟨s.b,s.off,none⟩:=if_neg hc;rw[e];exact SrcJ.sl hU (Rd.old hm h1 (hG hc).1 (hG hc).2 zG (nkj zG h3)) (by rw[arp];exact nW _ _) (nZk _ _)
theorem nWj(ss:List Seg)(b0 c0 t0:Nat)(fr0:Nat×Nat)(hk:ss.length<1000)(h0:0<(nr ss).length)(h1:(nr ss).length<=1099511627776)(w:World)(hb0:w.heap[b0]? =some (.cells (nkh ss) t0 fr0))(hss:∀s∈ss,s.At0 w)(hsb:∀s∈ss,s.c≠0->s.b<w.heap.size):Calls prog 56 #[.slice (some ⟨b0,0,none⟩) ss.length c0] w (RetX w (λp:Nat×Nat×List Value=>.slice (some ⟨p.1,0,none⟩) (nr ss).length p.2.1) (λp w1=>w.heap.size<=p.1/\((nr ss).length<=p.2.1/\p.2.2.length=p.2.1-(nr ss).length)/\w1.heap[p.1]? =some (.cells (nr ss++p.2.2).toArray 5 (0,0)))):=by
 have hb0l:=(ago.1 hb0).1;refine zGe ?_;rintro j hj;have hl1:=nTc ss (j+1);have hlj:∀h:j<ss.length,(nr (ss.take (j+1))).length=(nr (ss.take j)).length+(ss[j]).n:=λh=>by rw[nHc ss j h,aHo];exact congrArg (_+ ·) (nW _ _)
 refine B 6 ?_;refine zCD ?_ ?_
 ·intro hc1;refine B 5 ?_;have hjl:j<ss.length:=by omega
  have hlj2:=hlj hjl;refine B 2 ?_;refine rv rfl rfl rfl (ldR_r (v:=.slice (segA (ss[j]'zG)) (ss[j]'zG).n (ss[j]'zG).c) isAgg52 rfl A0 hb0 zO trivial (nfh ss j _ zG zG)) ?_;exact zik
 intro hc1;refine B 6 ?_;have e:j=ss.length:=by omega
 subst e;rw[afp (abo _)];refine B 2 ?_;refine zXf ?_;rintro⟨bg,cg⟩ hag hog hcg;simp only[Above]at hag hcg;refine B 12 ?_;refine zse ?_;rintro⟨j,b,cap,sp⟩ ⟨hj,h2,h3,h4⟩;dsimp only at hj h2 h3 h4 ⊢;have hl1:=nTc ss (j+1);have hlj:∀h:j<ss.length,(nr (ss.take (j+1))).length=(nr (ss.take j)).length+(ss[j]).n:=λh=>by rw[nHc ss j h,aHo];exact congrArg (_+ ·) (nW _ _)
 refine B 6 ?_;refine zCD ?_ ?_
 ·intro hc2;refine B 5 ?_;have hjl:j<ss.length:=by omega
  have hlj2:=hlj hjl;refine B 2 ?_;refine rv rfl rfl rfl (ldR_r (v:=.slice (segA (ss[j]'zG)) (ss[j]'zG).n (ss[j]'zG).c) isAgg52 rfl A0 hb0 zO zxb (nfh ss j _ zG zG)) ?_;refine B 6 ?_;refine appW (i:=0) (m:=1) (ys:=nr (ss.take j)) (sp:=sp) (news:=(ss[j]'zG).l) (n:=(ss[j]'zG).n) rfl underlying52 nTh rfl rfl rfl rfl rfl rfl rfl (SrcJ.seg0 underlying52 A0 (hss (ss[j]'zG) (alp _)) (λhc=>⟨λh=>h,by have:=hsb (ss[j]'zG) (alp _) hc;simp only[Off,adp,ne_eq,and_true];omega⟩)) zG zG h3 ⟨h2,trivial⟩ zG (by show _*1<=_;omega) ?_;exact zPi
 exact zWi
theorem n7i(s:ByteArray)(m:Nat->Int)(t2 t3:Nat)(fr2 fr3:Nat×Nat)(hs0:s.size<1000)(w:World)(hg2:w.heap[0]? =some (.cells S8.init.cells t2 fr2))(hg:w.heap[2]? =some (.cells (cf 64 (λi=>u32 (kk i))) t3 fr3)):Calls prog 26 #[.string s,.slice none 0 0] w (Ret w (.agg (dg (tagged s 0 m)))):=by
 have hg2l:=(ago.1 hg2).1;have hgl:=(ago.1 hg).1;refine enter (vs:=[_,_]) func26 rfl ntmps26 rfl ?_;refine B 2 ?_;refine z8e ?_;intro b4 ha4 ho4;replace ha4:=yb ha4;replace ho4:=yc ho4;refine B 5 ?_;refine cvtSB underlying9 underlying52 underlying5 rfl rfl rfl ?_;intro b7 cap7 w7 cs7 fr7 hb7 ha7 ho7 hm7 hz7 hc7 hz7b hs7;replace ha7:=yb ha7;try simp only[Off,ne_eq]at ho7
 refine call call55 rfl rfl rfl (λW hS=>nZd s.size (sB s) b7 0 cap7 _ _ _ _ _ _ cs7 zG zG W (hS.old A0 hb7 hm7 zxb) zG hs7 (hS.old A1 hg2 zO zxb) (hS.old A1 hg zO zxb)) ?_;refine z8e ?_;intro b5 ha5 ho5;replace ha5:=yb ha5;replace ho5:=yc ho5;refine zHe ?_;refine B 3 ?_;have hsl:(nr [⟨b5,0,32,32,sha s.size (sB s)⟩,⟨0,0,0,0,m⟩]).length=32+0:=by simp[nr,Seg.l,nW]
 have hsegs:∀W,W.heap[b5]? =some (.cells (dg (sha s.size (sB s))) 43 (0,0))->∀x∈([⟨b5,0,32,32,sha s.size (sB s)⟩,⟨0,0,0,0,m⟩]:List Seg),x.At0 W:=λW h1 x hx=>by
  simp only[aeo,aCo,or_false]at hx;rcases hx with rfl|rfl
  ·exact⟨λh=>absurd (show(32:Nat)=0 from h) zI,λ_=>⟨_,_,_,h1,abo 32,λi hi=>by rw[aVo];exact dg_at _ i hi⟩⟩
  exact⟨λ_=>rfl,λh=>absurd rfl h⟩
 refine zVh ?_;intro b11 w11 hb11 ha11 ho11 hm11 hz11;replace ha11:=yb ha11;replace ho11:=yc ho11;refine nvg (bo:=λp:Nat×Nat×List Value=>(p.1,.cells (nr [⟨b5,0,32,32,sha s.size (sB s)⟩,⟨0,0,0,0,m⟩]++p.2.2).toArray 5 (0,0))) (Φ:=λp=>(nr [⟨b5,0,32,32,sha s.size (sB s)⟩,⟨0,0,0,0,m⟩]).length<=p.2.1/\p.2.2.length=p.2.1-(nr [⟨b5,0,32,32,sha s.size (sB s)⟩,⟨0,0,0,0,m⟩]).length) call56 rfl rfl rfl (λW hS=>nWj [⟨b5,0,32,32,sha s.size (sB s)⟩,⟨0,0,0,0,m⟩] b11 2 _ _ zS (by rw[hsl];omega) (by rw[hsl];omega) W (hS.old A0 hb11 hm11 zxb) (hsegs W (hS.own _ A0)) (λx hx hc=>by simp only[aeo,aCo,or_false]at hx;rcases hx with rfl|rfl;(exact hS.lt (b5,_) A0);(exact absurd rfl hc))) ?_;rintro⟨bc,cc,spc⟩ hac hoc ⟨hcc,hspc⟩;replace hac:=yb hac;dsimp only at hcc hspc;rw[hsl]at hcc hspc;refine OJ.re (v':=.slice (some ⟨bc,0,none⟩) (32+0) cc) (by show Value.slice _ (nr _).length _=_;rw[hsl]) ?_;refine OJ.reH (H':=[(bc,.cells (byts (32+0) (cat2 32 (sha s.size (sB s)) m)++spc).toArray 5 (0,0)),(b5,.cells (dg (sha s.size (sB s))) 43 (0,0)),(b4,.cells #[.int .u8 0,.int .u8 0,.int .u8 0,.int .u8 0,.int .u8 0,.int .u8 0,.int .u8 0,.int .u8 0,.int .u8 0,.int .u8 0,.int .u8 0,.int .u8 0,.int .u8 0,.int .u8 0,.int .u8 0,.int .u8 0,.int .u8 0,.int .u8 0,.int .u8 0,.int .u8 0,.int .u8 0,.int .u8 0,.int .u8 0,.int .u8 0,.int .u8 0,.int .u8 0,.int .u8 0,.int .u8 0,.int .u8 0,.int .u8 0,.int .u8 0,.int .u8 0] 43 (0,0))]) (by rw[<-nFj];simp only[nr,Seg.l,asp];rfl) ?_
 refine call call55 rfl rfl rfl (λW hS=>nZd (32+0) (cat2 32 (sha s.size (sB s)) m) bc 0 cc _ _ _ _ _ _ _ zG zG W (hS.own _ A0) (by simp only[amp,aHo,nW];omega) (λi hi=>nnm _ _ _ i hi) (hS.old A2 hg2 zO zxb) (hS.old A2 hg zO zxb)) ?_;refine zDh ?_;rfl
theorem taggedN(hZ:FxOk Z)(s:ByteArray)(hs0:s.size<1000)(w:World)(hg:Glb w):Calls prog 26 #[.string s,.slice none 0 0] w (Ret w (.agg (Px.dg (Z.tg s [])))):=by
 rw[<-hZ.tg];obtain⟨⟨t2,fr2,g1⟩,t3,fr3,g2⟩:=hg;exact n7i s (fU []) t2 t3 fr2 fr3 hs0 w g1 g2
end Px
