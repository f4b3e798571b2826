/- Contracts of functions of the program. No conditions. -/
import Derived.Test.YtodpaegknpbomaaGreatDoorKb
import Derived.Test.YtodpaegknpbomaaGreatDoorProg
import Derived.Shelf.SlSortCmp.WholeK
import Derived.Deep.RegionWith
import Derived.Handy
import Derived.Lib.Bytealg
import Derived.Laws.Externs
import Derived.Test.YtodpaegknpbomaaGreatDoorLa
set_option linter.unusedSimpArgs false
set_option linter.unusedVariables false
set_option linter.unusedSectionVars false
set_option maxRecDepth 20000
set_option maxHeartbeats 8000000
namespace Px
open Go Go.RowKit Go.Proofs Go.Proofs.Tryz
noncomputable def bP (Z:Fx) (cs:List Cm):Nat->List (Dk×Int)
 |0=>[]
 |j+1=>match cs[j]? with
  |none=>bP Z cs j
  |some c=>if dk (aC Z c)∈(bP Z cs j).map (·.1)then bP Z cs j else bP Z cs j++[(dk (aC Z c),(j:Int))]
variable {d:Cd} {c:Cm} {Z:Fx} {g:Gp} {x:Gv} {F H:ad} {l:List (Dk×Int)} {vs:List (Nat×Gp)} {cs:List Cm} {cap sp:List Value} {L:List World} {K N b i j k t:Nat} {q:Nat×Gp} {fr:Nat×Nat} {RO:Nat->Prop} {a:Option Addr} {v:Value} {W w:World}
theorem nwh(hc:cs[j]? =some c)(h:dk (aC Z c)∈(bP Z cs j).map (·.1)):bP Z cs (j+1)=bP Z cs j:=by simp only[bP,hc,if_pos h]
theorem nIh(hc:cs[j]? =some c)(h:¬dk (aC Z c)∈(bP Z cs j).map (·.1)):bP Z cs (j+1)=bP Z cs j++[(dk (aC Z c),(j:Int))]:=by simp only[bP,hc,if_neg h]
theorem nBh(Z:Fx)(cs:List Cm):∀j,(bP Z cs j).length<=j:=
 by intro x;induction x<;>(intros;grind [bP])
theorem nQg(Z:Fx)(cs:List Cm):∀j,((bP Z cs j).map (·.1)).Nodup:=
 by intro x;induction x<;>(intros;grind [bP])
theorem Sn(Z:Fx)(cs:List Cm):∀(j:Nat) (p:Dk×Int),p∈bP Z cs j->∃(i:Nat) (c:Cm),p.2=(i:Int)/\i<j/\cs[i]? =some c/\p.1=dk (aC Z c):=
 by intro x;induction x<;>(intros;grind [bP])
def qm (l:List (Dk×Int)):List (Dk×Bool):=l.map λp=>(p.1,true)
theorem nkg(l:List (Dk×Int)):(qm l).map (·.1)=l.map (·.1):=by simp[qm]
theorem nUn(l:List (Dk×Int))(k:Dk):(gQ (qm l) k).getD false=decide (k∈l.map (·.1)):=by
 by_cases h:k∈l.map (·.1)
 ·cases e:gQ (qm l) k with
  |none=>rw[nYg,nkg]at e;exact absurd h e
  |some v=>
   obtain⟨q,hq,rfl⟩:=wu.1 e;have h2:=WI hq;obtain⟨p,_,hp⟩:=bU.1 (cu h2);have:q.2=true:=(Prod.mk.inj hp).2.symm;simp[this,h]
 all_goals grind [gQ,qm,nYg,nkg]
theorem nuo{k:Dk}(h:k∈l.map (·.1)):gf (qm l) k true=qm l:=by
 unfold gf;cases hi:fk k (qm l) 0 with
 |none=>have:=npf.1 hi;rw[nkg]at this;exact absurd h this
 |some q=>
  obtain⟨i,v⟩:=q;have h2:=WI hi;obtain⟨p,_,hp⟩:=bU.1 (cu h2);have hv:v=true:=(Prod.mk.inj hp).2.symm;subst hv;apply C9;intro n;rw[axr];split
  ·rename_i e;subst e;rw[if_pos (hJ.1 h2).1,h2]
  rfl
theorem nHo{k:Dk}{j:Int}(h:¬k∈l.map (·.1)):gf (qm l) k true=qm (l++[(k,j)]):=by
 unfold gf;cases hi:fk k (qm l) 0 with
 |none=>simp[qm]
 |some q=>
  have h2:=WI (l:=qm l) (i:=q.1) (v:=q.2) hi;have:k∈(qm l).map (·.1):=bU.2 ⟨_,cu h2,rfl⟩;rw[nkg]at this;exact absurd this h
theorem nTh(o:Option Bool):(o.map Value.bool).getD (bH)= .bool (o.getD false):=by cases o<;>rfl
theorem nQk{p:Dk×Int}:(l++[p]).map (·.1)=l.map (·.1)++[p.1]:=by simp
theorem nuk{p:Dk×Int}:(l++[p]).map (·.2)=l.map (·.2)++[p.2]:=by simp
structure Pv where
 ia:Option Addr
 ic:Nat
 ta:Option Addr
 tc:Nat
noncomputable def Af (Z:Fx) (cs:List Cm) (la:Option Addr) (lc:Nat) (p:Pv):Array Value:=#[.slice la cs.length lc,.slice p.ia ((bP Z cs cs.length).map (·.1)).length p.ic,.slice p.ta ((bP Z cs cs.length).map (·.2)).length p.tc]
structure pP (Z:Fx) (cs:List Cm) (N:Nat) (w:World) (p:Pv):Prop where
 ids:ai vz 32 N w p.ia ((bP Z cs cs.length).map (·.1))
 at_:ai (λx=>(aA x).toArray) 1 N w p.ta ((bP Z cs cs.length).map (·.2))
theorem pP.up{J:Nat}{w':World}{p:Pv}(h:pP Z cs N w p)(hN:N<=J)(hw:∀k,k<N->w'.heap[k]? =w.heap[k]?):pP Z cs J w' p:=⟨h.ids.up hN hw,h.at_.up hN hw⟩
theorem newPool(hZ:FxOk Z)(cs:List Cm)(bX:cs.length<=1000)(dG:∀c∈cs,bO c)(N:Nat)(la:Option Addr)(lc:Nat)(w:World)(hN:N<=w.heap.size)(aI:ai cP 73 N w la cs)(hC:∀c∈cs,dC N w c)(hg:Glb w):Calls prog 61 #[.slice la cs.length lc] w (dc w (λp:Pv=>.agg (Af Z cs la lc p)) (λp w1=>pP Z cs w1.heap.size w1 p/\(∀q,p.ia=some q->w.heap.size<=q.block)/\∀q,p.ta=some q->w.heap.size<=q.block)):=by
 have bh:=hg.lt;refine eN func61 ntmps61 ?_;refine bM 3 ?_;intro b2 dL dH;refine B 6 ?_;refine kT (i:=0) rfl sizeOf24 rfl rfl rfl rfl (er rfl) rfl ?_;refine B 4 ?_;refine LI vy Value.bool rfl rfl ?_;intro b3 eO fw;replace eO:=yb eO;try simp only[bN,and_true,ne_eq]at fw
 refine B 12 ?_;refine CJ.lp (α:=((Rw×Rw)×Mq)×Nat) [2,3,10,11] (λp=>[(12,ab (p.2:Int))]) (λp=>[(b3,p.1.2.obj vy Value.bool (qm (bP Z cs p.2))),(b2,oC #[.slice la cs.length lc,p.1.1.1.val ((bP Z cs p.2).map (·.1)).length,p.1.1.2.val ((bP Z cs p.2).map (·.2)).length] 156)]++(p.1.1.1.hp cZ 33 ((bP Z cs p.2).map (·.1))++(p.1.1.2.hp aA 3 ((bP Z cs p.2).map (·.2))++[]))) (λp=>p.2<=cs.length/\p.1.1.1.Fr Gh.no [w]/\p.1.1.1.Fit 32 ((bP Z cs p.2).map (·.1))/\p.1.1.2.Fr Gh.no [w]/\p.1.1.2.Fit 1 ((bP Z cs p.2).map (·.2))/\p.1.2.Ok (qm (bP Z cs p.2))) (λp=>cs.length-p.2) (((.nil,.nil),Mq.mk [] 0),0) ⟨cO _,True.intro,rfl,True.intro,rfl,Mq.nil⟩ ?_;rintro⟨⟨⟨r1,r2⟩,m⟩,j⟩ ⟨hj,qN,jv,gO,gI,hm⟩;dsimp only at hj qN jv gO gI hm ⊢;have oN:r1.ge w.heap.size:=Rw.ge_of qN A0;have eE:r2.ge w.heap.size:=Rw.ge_of gO A0;refine aG 6 ?_ ?_
 ·intro av;refine B 5 ?_;obtain⟨bo,oo,br,to,fg,ez,fh,bX,aR⟩:=aI.get aa;obtain⟨c,hc⟩:=ng cs j aa;have Dy:=cu hc;have gq:=nBh Z cs j;refine B 2 ?_;refine rv rfl rfl rfl (bC underlying24 sizeOf61 (congrArg (λq=>some (Value.slice q cs.length lc)) ez) rfl aa aa) ?_;refine du (.agg (cP c)) ?_;refine bM 1 ?_;intro b5 tr tu;refine B 7 ?_;refine call call23 rfl rfl rfl (λW hS=>ZK hZ c (dG c Dy) N W cR ((hC c Dy).up (aj _) (hS.same A0 hN zF zKb)) (hg.old hS A0 zF zKb)) ?_;refine bM 1 ?_;intro b6 ky rh;refine B 5 ?_;by_cases J:(dk (aC Z c))∈((bP Z cs j).map (·.1))
  ·refine B 3 ?_;refine rq cD (rk (m:=m) (k:=(dk (aC Z c))) underlying223 Gb zeroValue4 hm (bF.own (i:=2) rfl) rfl rfl) ((nTh _).trans (vb ((nUn _ _).trans (decide_eq_true J)))) ?_;refine B 9 ?_;refine nYi (i:=2) (k:=(dk (aC Z c))) (v:=true) rfl hm underlying223 Gb rfl rfl rfl rfl ?_;intro m2 bY;refine LC ?_;refine PJ.again (((r1,r2),m2),j+1) ⟨by dsimp only;omega,qN,by rw[nwh hc J];exact jv,gO,by rw[nwh hc J];exact gI,by rw[nwh hc J];rw[nuo J]at bY;exact bY⟩ zS zR (by rw[nwh hc J,nuo J];rfl) rfl zI
  refine B 3 ?_;refine rq bH (rk (m:=m) (k:=(dk (aC Z c))) underlying223 Gb zeroValue4 hm (bF.own (i:=2) rfl) rfl rfl) ((nTh _).trans (vb ((nUn _ _).trans (decide_eq_false J)))) ?_;refine B 4 ?_;refine CJ.less (E':=[(2,_),(3,_),(4,_),(5,_),(6,_),(10,_),(11,_),(12,_),(13,_),(14,_),(15,_),(16,_),(17,_),(18,_),(19,_),(20,_),(21,_),(22,_)]) zR ?_;refine dN 11 [3,4,8,9] [[],[0],[],[0,1,2]] (λcv L' H'=>let ew:Nat×Obj:=(b6,oC (dg (aC Z c)) 33);match cv with| [none,none,none,none]=>L'=[w]/\H'=[ew,(b5,oC (cP c) 61),(b3,m.obj vy Value.bool (qm (bP Z cs j))),(b2,oC #[.slice la cs.length lc,r1.val ((bP Z cs j).map (·.1)).length,r2.val ((bP Z cs j).map (·.2)).length] 156)]++(r1.hp cZ 33 ((bP Z cs j).map (·.1))++(r2.hp aA 3 ((bP Z cs j).map (·.2))++[]))| [none,none,some v8,none]=>∃(jc:Nat),v8= .slice (ao jc) 1 1/\L'=[w]/\H'=[(jc,oC #[ab (j:Int)] 3),ew,(b5,oC (cP c) 61),(b3,m.obj vy Value.bool (qm (bP Z cs j))),(b2,oC #[.slice la cs.length lc,r1.val ((bP Z cs j).map (·.1)).length,r2.val ((bP Z cs j).map (·.2)).length] 156)]++(r1.hp cZ 33 ((bP Z cs j).map (·.1))++(r2.hp aA 3 ((bP Z cs j).map (·.2))++[]))/\ah [w] jc| [some v3,none,none,none]=>∃(jG:Nat),v3= .slice (ao jG) 1 1/\L'=[w]/\H'=[(jG,oC (dg (aC Z c)) 33),ew,(b5,oC (cP c) 61),(b3,m.obj vy Value.bool (qm (bP Z cs j))),(b2,oC #[.slice la cs.length lc,r1.val ((bP Z cs j).map (·.1)).length,r2.val ((bP Z cs j).map (·.2)).length] 156)]++(r1.hp cZ 33 ((bP Z cs j).map (·.1))++(r2.hp aA 3 ((bP Z cs j).map (·.2))++[]))/\ah [w] jG| [some v3,none,some v8,none]=>∃(jG:Nat) (jc:Nat),v3= .slice (ao jG) 1 1/\v8= .slice (ao jc) 1 1/\L'=[w]/\H'=[(jc,oC #[ab (j:Int)] 3),(jG,oC (dg (aC Z c)) 33),ew,(b5,oC (cP c) 61),(b3,m.obj vy Value.bool (qm (bP Z cs j))),(b2,oC #[.slice la cs.length lc,r1.val ((bP Z cs j).map (·.1)).length,r2.val ((bP Z cs j).map (·.2)).length] 156)]++(r1.hp cZ 33 ((bP Z cs j).map (·.1))++(r2.hp aA 3 ((bP Z cs j).map (·.2))++[]))/\ah [w] jG/\ah [w] jc| [some v3,some v4,none,none]=>∃(jG:Nat) (mA:Nat) (ib:Nat) (jd:List Value),v3= .slice (ao jG) 1 1/\v4= .slice (ao mA) (((bP Z cs j).map (·.1))++[(dk (aC Z c))]).length ib/\L'=[w]/\H'=[(jG,oC (dg (aC Z c)) 33),ew,(b5,oC (cP c) 61),(b3,m.obj vy Value.bool (qm (bP Z cs j))),(b2,oC #[.slice la cs.length lc,r1.val ((bP Z cs j).map (·.1)).length,r2.val ((bP Z cs j).map (·.2)).length] 156)]++((Rw.row mA ib jd).hp cZ 33 (((bP Z cs j).map (·.1))++[(dk (aC Z c))])++(r2.hp aA 3 ((bP Z cs j).map (·.2))++[]))/\ah [w] jG/\(r1.isAt mA\/ah [w] mA)/\(Rw.row mA ib jd).Fit 32 (((bP Z cs j).map (·.1))++[(dk (aC Z c))])| [some v3,some v4,some v8,none]=>∃(jG:Nat) (mA:Nat) (ib:Nat) (jd:List Value) (jc:Nat),v3= .slice (ao jG) 1 1/\v4= .slice (ao mA) (((bP Z cs j).map (·.1))++[(dk (aC Z c))]).length ib/\v8= .slice (ao jc) 1 1/\L'=[w]/\H'=[(jc,oC #[ab (j:Int)] 3),(jG,oC (dg (aC Z c)) 33),ew,(b5,oC (cP c) 61),(b3,m.obj vy Value.bool (qm (bP Z cs j))),(b2,oC #[.slice la cs.length lc,r1.val ((bP Z cs j).map (·.1)).length,r2.val ((bP Z cs j).map (·.2)).length] 156)]++((Rw.row mA ib jd).hp cZ 33 (((bP Z cs j).map (·.1))++[(dk (aC Z c))])++(r2.hp aA 3 ((bP Z cs j).map (·.2))++[]))/\ah [w] jG/\(r1.isAt mA\/ah [w] mA)/\(Rw.row mA ib jd).Fit 32 (((bP Z cs j).map (·.1))++[(dk (aC Z c))])/\ah [w] jc| [some v3,some v4,some v8,some v9]=>∃(jG:Nat) (mA:Nat) (ib:Nat) (jd:List Value) (jc:Nat) (Dz:Nat) (xg:Nat) (Ah:List Value),v3= .slice (ao jG) 1 1/\v4= .slice (ao mA) (((bP Z cs j).map (·.1))++[(dk (aC Z c))]).length ib/\v8= .slice (ao jc) 1 1/\v9= .slice (ao Dz) (((bP Z cs j).map (·.2))++[(j:Int)]).length xg/\L'=[w]/\H'=[(jc,oC #[ab (j:Int)] 3),(jG,oC (dg (aC Z c)) 33),ew,(b5,oC (cP c) 61),(b3,m.obj vy Value.bool (qm (bP Z cs j))),(b2,oC #[.slice la cs.length lc,r1.val ((bP Z cs j).map (·.1)).length,r2.val ((bP Z cs j).map (·.2)).length] 156)]++((Rw.row mA ib jd).hp cZ 33 (((bP Z cs j).map (·.1))++[(dk (aC Z c))])++((Rw.row Dz xg Ah).hp aA 3 (((bP Z cs j).map (·.2))++[(j:Int)])++[]))/\ah [w] jG/\(r1.isAt mA\/ah [w] mA)/\(Rw.row mA ib jd).Fit 32 (((bP Z cs j).map (·.1))++[(dk (aC Z c))])/\ah [w] jc/\(r2.isAt Dz\/ah [w] Dz)/\(Rw.row Dz xg Ah).Fit 1 (((bP Z cs j).map (·.2))++[(j:Int)])|_=>False) ⟨rfl,rfl⟩ (qn 1 (k:=by exact lH zcp (lH zcp (qn 3 (k:=by exact lH zcp LJ))))) ?_ ?_
  ·refine nc rfl rfl ?_ ?_
   ·intro cv L' H' hl hr hP F Q' hk;obtain⟨x3,x4,x8,x9,rfl⟩:=vm hl;rcases x3 with _|v3<;>rcases x4 with _|v4<;>rcases x8 with _|v8<;>rcases x9 with _|v9<;>try exact False.elim hP
    ·obtain⟨rfl,rfl⟩:=hP;refine z2d ?_;intro jG ha ho;exact OJ.done (hk _ _ _ ⟨jG,rfl,rfl,rfl,ha⟩)
    ·obtain⟨jc,rfl,rfl,rfl,mJ⟩:=hP;refine z2d ?_;intro jG ha ho;refine OJ.perm (List.Perm.swap _ _ _) ?_;exact OJ.done (hk _ _ _ ⟨jG,jc,rfl,rfl,rfl,rfl,ha,mJ⟩)
    ·exact cQ
    ·exact cQ
    ·exact cQ
    ·exact cQ
    exact cQ
   refine nc rfl rfl ?_ ?_
   ·intro cv L' H' hl hr hP F Q' hk;obtain⟨x3,x4,x8,x9,rfl⟩:=vm hl;rcases x3 with _|v3<;>rcases x4 with _|v4<;>rcases x8 with _|v8<;>rcases x9 with _|v9<;>try exact False.elim hP
    ·exact cQ
    ·exact cQ
    ·obtain⟨jG,rfl,rfl,rfl,l9⟩:=hP;refine jV (r:=r1) (xs:=((bP Z cs j).map (·.1))) (zs:=[(dk (aC Z c))]) (enc:=cZ) (m:=32) (H0:=[(jG,oC (dg (aC Z c)) 33),(b6,oC (dg (aC Z c)) 33),(b5,oC (cP c) 61),(b3,m.obj vy Value.bool (qm (bP Z cs j))),(b2,oC #[.slice la cs.length lc,r1.val ((bP Z cs j).map (·.1)).length,r2.val ((bP Z cs j).map (·.2)).length] 156)]) (H1:=r2.hp aA 3 ((bP Z cs j).map (·.2))++[]) rfl ndj yj rfl rfl rfl rfl (ck.one (z:=(dk (aC Z c))) yj WG underlying72 (bF.own (i:=0) rfl)) jv qN zI Q2 ?_;intro mA ib jd qO ie;exact OJ.done (hk _ _ _ ⟨jG,mA,ib,jd,rfl,rfl,rfl,rfl,l9,qO,ie⟩)
    ·obtain⟨jG,jc,rfl,rfl,rfl,rfl,l9,mJ⟩:=hP;refine jV (r:=r1) (xs:=((bP Z cs j).map (·.1))) (zs:=[(dk (aC Z c))]) (enc:=cZ) (m:=32) (H0:=[(jc,oC #[ab (j:Int)] 3),(jG,oC (dg (aC Z c)) 33),(b6,oC (dg (aC Z c)) 33),(b5,oC (cP c) 61),(b3,m.obj vy Value.bool (qm (bP Z cs j))),(b2,oC #[.slice la cs.length lc,r1.val ((bP Z cs j).map (·.1)).length,r2.val ((bP Z cs j).map (·.2)).length] 156)]) (H1:=r2.hp aA 3 ((bP Z cs j).map (·.2))++[]) rfl ndj yj rfl rfl rfl rfl (ck.one (z:=(dk (aC Z c))) yj WG underlying72 (bF.own (i:=1) rfl)) jv qN zI Q2 ?_;intro mA ib jd qO ie;exact OJ.done (hk _ _ _ ⟨jG,mA,ib,jd,jc,rfl,rfl,rfl,rfl,rfl,l9,qO,ie,mJ⟩)
    ·exact cQ
    ·exact cQ
    exact cQ
   refine nc rfl rfl ?_ ?_
   ·intro cv L' H' hl hr hP F Q' hk;obtain⟨x3,x4,x8,x9,rfl⟩:=vm hl;rcases x3 with _|v3<;>rcases x4 with _|v4<;>rcases x8 with _|v8<;>rcases x9 with _|v9<;>try exact False.elim hP
    ·obtain⟨rfl,rfl⟩:=hP;refine ET ?_;intro jc ha ho;exact OJ.done (hk _ _ _ ⟨jc,rfl,rfl,rfl,ha⟩)
    ·exact cQ
    ·obtain⟨jG,rfl,rfl,rfl,l9⟩:=hP;refine ET ?_;intro jc ha ho;exact OJ.done (hk _ _ _ ⟨jG,jc,rfl,rfl,rfl,rfl,l9,ha⟩)
    ·exact cQ
    ·obtain⟨jG,mA,ib,jd,rfl,rfl,rfl,rfl,l9,qO,ie⟩:=hP;refine ET ?_;intro jc ha ho;exact OJ.done (hk _ _ _ ⟨jG,mA,ib,jd,jc,rfl,rfl,rfl,rfl,rfl,l9,qO,ie,ha⟩)
    ·exact cQ
    exact cQ
   refine nc rfl rfl ?_ ?_
   ·intro cv L' H' hl hr hP F Q' hk;obtain⟨x3,x4,x8,x9,rfl⟩:=vm hl;rcases x3 with _|v3<;>rcases x4 with _|v4<;>rcases x8 with _|v8<;>rcases x9 with _|v9<;>try exact False.elim hP
    ·exact cQ
    ·exact cQ
    ·exact cQ
    ·exact cQ
    ·exact cQ
    ·obtain⟨jG,mA,ib,jd,jc,rfl,rfl,rfl,rfl,rfl,l9,qO,ie,mJ⟩:=hP;refine jV (r:=r2) (xs:=((bP Z cs j).map (·.2))) (zs:=[(j:Int)]) (enc:=aA) (m:=1) (H0:=[(jc,oC #[ab (j:Int)] 3),(jG,oC (dg (aC Z c)) 33),(b6,oC (dg (aC Z c)) 33),(b5,oC (cP c) 61),(b3,m.obj vy Value.bool (qm (bP Z cs j))),(b2,oC #[.slice la cs.length lc,r1.val ((bP Z cs j).map (·.1)).length,r2.val ((bP Z cs j).map (·.2)).length] 156)]++(Rw.row mA ib jd).hp cZ 33 (((bP Z cs j).map (·.1))++[(dk (aC Z c))])) (H1:=[]) rfl OC nz rfl rfl rfl rfl (ck.one (z:=(j:Int)) nz OE underlying55 (bF.own (i:=0) rfl)) gI gO zI Q2 ?_;intro Dz xg Ah Ai vA;exact OJ.done (hk _ _ _ ⟨jG,mA,ib,jd,jc,Dz,xg,Ah,rfl,rfl,rfl,rfl,rfl,rfl,l9,qO,ie,mJ,Ai,vA⟩)
    exact cQ
   exact nn
  intro cv L' H' hl hr hP;obtain⟨x3,x4,x8,x9,rfl⟩:=vm hl;rcases x3 with _|v3<;>rcases x4 with _|v4<;>rcases x8 with _|v8<;>rcases x9 with _|v9
  ·exact cQ
  ·exact cQ
  ·exact cQ
  ·exact cQ
  ·exact cQ
  ·exact cQ
  ·exact cQ
  ·exact cQ
  ·exact cQ
  ·exact cQ
  ·exact cQ
  ·exact cQ
  ·exact cQ
  ·exact cQ
  ·exact cQ
  obtain⟨jG,mA,ib,jd,jc,Dz,xg,Ah,rfl,rfl,rfl,rfl,rfl,rfl,l9,qO,ie,mJ,Ai,vA⟩:=hP;simp only[ah]at l9 mJ;refine kT (i:=5) rfl sizeOf72 rfl rfl rfl rfl (er rfl) rfl ?_;refine B 1 ?_;refine kT (i:=5) rfl sizeOf55 rfl rfl rfl rfl (er rfl) rfl ?_;refine B 5 ?_;refine nYi (i:=4) (k:=(dk (aC Z c))) (v:=true) rfl hm underlying223 Gb rfl rfl rfl rfl ?_;intro m2 bY;refine LC ?_;refine uI ?_;refine PJ.again (((Rw.row mA ib jd,Rw.row Dz xg Ah),m2),j+1) ⟨by dsimp only;omega,qO.elim (λh=>Rw.Fr_at qN h) (λh=>.inr h),by rw[nIh hc J,nQk];exact ie,Ai.elim (λh=>Rw.Fr_at gO h) (λh=>.inr h),by rw[nIh hc J,nuk];exact vA,by rw[nIh hc J,<-nHo J];exact bY⟩ zS zR (by rw[nIh hc J,nQk,nuk,<-nHo J];rfl) rfl zI
 intro av;refine B 6 ?_;have gq:=nBh Z cs j;have az:j=cs.length:=by omega
 subst az;refine B 2 ?_;refine jN (i:=1) rfl sizeOf156 rfl rfl rfl rfl rfl (by cases r1<;>cases r2<;>rfl) ?_;refine B 3 ?_;refine bS (.inl rfl) results61 bD λW hS=>?_;have Aj:r1.At cZ 33 ((bP Z cs cs.length).map (·.1)) W:=by
  exact zoi
 have Sq:r2.At aA 3 ((bP Z cs cs.length).map (·.2)) W:=by
  exact zni
 obtain⟨a1,c1,uq,uJ⟩:=Rw.sl yj jv Aj (aj W.heap.size);obtain⟨a2,c2,Jg,O6⟩:=Rw.sl nz gI Sq (aj W.heap.size);refine⟨⟨a1,c1,a2,c2⟩,?_,?_,⟨uJ,O6⟩,Rw.val_new oN uq,Rw.val_new eE Jg⟩
 ·show Ending.returned (.agg #[.slice la cs.length lc,r1.val _,r2.val _])=_;rw[uq,Jg];rfl
 exact(hS.links w A0).below (λk hk hx=>by rcases hx with hx|hx;(exact hx);simp only[dA,eh,iv,eY,ec,gN,dP,fu,aY,cd,dZ,or_false]at hx;rcases hx with hx|hx|hx|hx;(omega);(omega);(have:=Rw.mem_ge oN hx;omega);(have:=Rw.mem_ge eE hx;omega))
structure CO {α:Type} (cf:α->α->Int):Prop where
 anti:∀x y,cf x y= -cf y x
 trans:∀x y z,cf x y<=0->cf y z<=0->cf x z<=0
theorem CO.swo{α:Type}{cf:α->α->Int}(h:CO cf):Go.Sort.SWO (Go.Proofs.ltOf cf):=by
 refine⟨λx=>?_,λx y z h1 h2=>?_,λx y z h1 h2=>?_⟩<;>simp only[Go.Proofs.ltOf,decide_eq_true_eq,decide_eq_false_iff_not]at*
 ·have:=h.anti x x;omega
 ·have a1:=h.anti x z;have a2:=h.anti y z;have a3:=h.anti z y;have a4:=h.anti x y
  have t1:=h.trans x y z aa aa;by_cases e:cf x z=0
  ·have t2:=h.trans z x y (by have:=h.anti z x;omega) aa;have:=h.anti y z;omega
  omega
 have a1:=h.anti x y;have a2:=h.anti y z;have a3:=h.anti x z
 have:=h.trans z y x aa aa;omega
def CA {α:Type} (f g:α->α->Int) (x y:α):Int:=if f x y=0 then g x y else f x y
theorem CO.lt{α:Type}{cf:α->α->Int}(h:CO cf){x y z:α}(h1:cf x y<=0)(h2:cf y z<=0)(h3:cf x y≠0\/cf y z≠0):cf x z≠0:=by
 intro e;have a1:=h.anti x z;have a2:=h.anti y z;have a3:=h.anti x y
 rcases h3 with h3|h3
 ·have:=h.trans y z x h2 aa;omega
 have:=h.trans z x y aa h1;omega
theorem CO.lex{α:Type}{f g:α->α->Int}(hf:CO f)(hg:CO g):CO (CA f g):=by
 refine⟨λx y=>?_,λx y z h1 h2=>?_⟩
 ·have a:=hf.anti x y;have b:=hg.anti x y
  unfold CA;by_cases e:f x y=0
  ·rw[if_pos e,if_pos aa];exact b
  rw[if_neg e,if_neg aa];exact a
 have a:=hf.lt (x:=x) (y:=y) (z:=z);have t:=hf.trans x y z;have u:=hg.trans x y z
 unfold CA at *;by_cases e1:f x y=0<;>by_cases e2:f y z=0<;>simp only[e1,e2,if_true,if_false]at h1 h2
 ·have z0:f x z=0:=by
   have t1:=t aa aa;have t2:=hf.trans z y x (by have:=hf.anti z y;omega) (by have:=hf.anti y x;omega);have:=hf.anti x z;omega
  rw[if_pos z0];exact u h1 h2
 ·rw[if_neg (a aa aa (.inr e2))];exact t aa aa
 ·rw[if_neg (a aa aa (.inl e1))];exact t aa aa
 rw[if_neg (a aa aa (.inl e1))];exact t aa aa
theorem CO.key{α β:Type}{cf:β->β->Int}(h:CO cf)(k:α->β):CO λx y=>cf (k x) (k y):=⟨λx y=>h.anti _ _,λx y z=>h.trans _ _ _⟩
theorem CO.int:CO dy:=by
 refine⟨λx y=>?_,λx y z h1 h2=>?_⟩;all_goals grind [dy]
theorem O7:∀(a b:List UInt8),Go.Lib.compareBytes a b=0->a=b
 | [],[],_=>rfl
 | [],_::_,h=>by simp[Go.Lib.compareBytes]at h
 |_::_,[],h=>by simp[Go.Lib.compareBytes]at h
 |x::a,y::b,h=>by
  unfold Go.Lib.compareBytes at h;by_cases h1:x<y
  ·simp[h1]at h
  by_cases h2:y<x
  ·simp[h1,h2]at h
  simp only[h1,h2,if_false]at h;have e:x=y:=UInt8.le_antisymm (UInt8.not_lt.1 h2) (UInt8.not_lt.1 h1);rw[e,O7 a b h]
theorem ngj(x y:UInt8):x<y\/x=y\/y<x:=by grind
theorem n6i{x y:UInt8}(a b:List UInt8)(h:x<y):Go.Lib.compareBytes (x::a) (y::b)= -1:=by unfold Go.Lib.compareBytes;rw[if_pos h]
theorem nhj{x y:UInt8}(a b:List UInt8)(h:y<x):Go.Lib.compareBytes (x::a) (y::b)=1:=by unfold Go.Lib.compareBytes;rw[if_neg (λk=>UInt8.lt_irrefl x (UInt8.lt_trans k h)),if_pos h]
theorem n4j(x:UInt8)(a b:List UInt8):Go.Lib.compareBytes (x::a) (x::b)=Go.Lib.compareBytes a b:=by conv=>lhs;unfold Go.Lib.compareBytes;rw[if_neg (UInt8.lt_irrefl x),if_neg (UInt8.lt_irrefl x)]
theorem nbo:∀a b:List UInt8,Go.Lib.compareBytes a b= -Go.Lib.compareBytes b a
 | [],[]=>rfl
 | [],_::_=>rfl
 |_::_,[]=>rfl
 |x::a,y::b=>by
  rcases ngj x y with h|rfl|h
  ·rw[n6i _ _ h,nhj _ _ h]
  ·rw[n4j,n4j];exact nbo a b
  rw[nhj _ _ h,n6i _ _ h];rfl
theorem n4l:∀a b c:List UInt8,Go.Lib.compareBytes a b<=0->Go.Lib.compareBytes b c<=0->Go.Lib.compareBytes a c<=0
 | [],_,[],_,_=>by decide
 | [],_,_::_,_,_=>by show(-1:Int)<=0;decide
 |_::_,[],_,h1,_=>absurd (show(1:Int)<=0 from h1) zz
 |_::_,_::_,[],_,h2=>absurd (show(1:Int)<=0 from h2) zz
 |x::a,y::b,z::c,h1,h2=>by
  rcases ngj x y with h|rfl|h
  ·rcases ngj y z with k|rfl|k
   ·rw[n6i _ _ (UInt8.lt_trans h k)];decide
   ·rw[n6i _ _ h];decide
   rw[nhj _ _ k]at h2;exact absurd h2 zz
  ·rcases ngj x z with k|rfl|k
   ·rw[n6i _ _ k];decide
   ·rw[n4j]at h1 h2 ⊢;exact n4l a b c h1 h2
   rw[nhj _ _ k]at h2;exact absurd h2 zz
  rw[nhj _ _ h]at h1;exact absurd h1 zz
theorem CO.bytes:CO Go.Lib.compareBytes:=⟨nbo,n4l⟩
def ky3 (x y:Int×Int×List UInt8):Int:=CA (λx y=>dy x.1 y.1) (CA (λx y=>dy x.2.1 y.2.1) (λx y=>Go.Lib.compareBytes x.2.2 y.2.2)) x y
theorem CO.ky3:CO ky3:=(CO.int.key (λx:Int×Int×List UInt8=>x.1)).lex ((CO.int.key (λx:Int×Int×List UInt8=>x.2.1)).lex (CO.bytes.key (λx:Int×Int×List UInt8=>x.2.2)))
theorem Sr{x y:Int×Int×List UInt8}(h:ky3 x y=0):x.2.2=y.2.2:=by grind [ky3,CA,O7]
theorem nAk{le:Nat->Nat->Bool}:∀{l J:List Nat},(∀a∈l,∀b∈l,le a b=true->le b a=true->a=b)->l.Pairwise (λa b=>le a b=true)->J.Pairwise (λa b=>le a b=true)->l.Perm J->l=J
 | [],J,_,_,_,hp=>(List.nil_perm.1 hp).symm▸rfl
 |a::l,[],_,_,_,hp=>absurd hp.length_eq zI
 |a::l,b::J,ha,h1,h2,hp=>by
  have qP:a=b:=by
   have m1:a∈b::J:=hp.mem_iff.1 A0;have m2:b∈a::l:=hp.mem_iff.2 A0;rcases cd.1 m1 with e|m1
   ·exact e
   rcases cd.1 m2 with e|al
   ·exact e.symm
   exact ha a A0 b m2 ((List.pairwise_cons.1 h1).1 b al) ((List.pairwise_cons.1 h2).1 a m1)
  subst qP;have Ss:=hp.cons_inv;rw[nAk (λx hx y hy=>ha x (.tail _ hx) y (.tail _ hy)) (List.pairwise_cons.1 h1).2 (List.pairwise_cons.1 h2).2 Ss]
section
open Go.Proofs Go.Shelf Go.Lib Go.Sort
theorem aae(x y:Cd)(W:World):Calls prog 183 #[.agg (pg x).toArray,.agg (pg y).toArray] W λe w'=>e= .returned (ab (dy x.since y.since))/\∃q Ad,w'=grow (W.drewN q) Ad:=by
 have J:=λW'=>Bc x.since y.since W';generalize dy x.since y.since=r at J ⊢;unfold pg
 go_enter func183,ntmps183
 go_wp2_with (go_at_call 103;refine(J _).mono ?_;rintro e w' ⟨rfl,rfl⟩)
 go_ret
 exact zkh
theorem aaf(x y:Cd)(W:World):Calls prog 184 #[.agg (pg x).toArray,.agg (pg y).toArray] W λe w'=>e= .returned (ab (dy x.c.author y.c.author))/\∃q Ad,w'=grow (W.drewN q) Ad:=by
 have J:=λW'=>Bc x.c.author y.c.author W';generalize dy x.c.author y.c.author=r at J ⊢;unfold pg
 go_enter func184,ntmps184
 go_wp2_with (go_at_call 103;refine(J _).mono ?_;rintro e w' ⟨rfl,rfl⟩)
 go_ret
 exact zkh
end
theorem nUg{P:Program}{W:World}{b:Nat}:∀(zs:List Int) (off:Nat) (acc:List UInt8),(∀(i:Nat) (h:i<zs.length),W.cell? ⟨b,off+i,none⟩=some (.int .u8 zs[i]))->(Extern.Bytes.loadBytes ⟨b,off,none⟩ zs.length ⟨acc.toArray⟩).run P W= .ok ⟨(acc++zs.map λz=>z.toNat.toUInt8).toArray⟩ W
 | [],off,acc,_=>by simp[Extern.Bytes.loadBytes]
 |z::zs,off,acc,h=>by
  have h0:W.cell? ⟨b,off,none⟩=some (.int .u8 z):=h 0 zI;have ih:=nUg (P:=P) (W:=W) (b:=b) zs (off+1) (acc++[z.toNat.toUInt8]) (λi hi=>by
   have:=h (i+1) (by simpa using hi);rw[show off+1+i=off+(i+1) by omega];simpa using this)
  have e:(ByteArray.mk acc.toArray).push z.toNat.toUInt8=⟨(acc++[z.toNat.toUInt8]).toArray⟩:=by simp[ByteArray.push]
  have ha:(⟨b,off,none⟩:Addr).add 1=⟨b,off+1,none⟩:=rfl;simp only[dI,Extern.Bytes.loadBytes,Sem.run_bind];rw[show(load ⟨b,off,none⟩:Sem Value).run P W= .ok (.int .u8 z) W by simp[load,Sem.run,h0]];simp only[Result.andThen,e,ha];rw[ih];simp
section
open Go.Lib Go.Sort
theorem Gd{P:Program}{b1 o1 c1 b2 o2 c2:Nat}{xs ys:List Int}(h1:∀(i:Nat) (h:i<xs.length),W.cell? ⟨b1,o1+i,none⟩=some (.int .u8 xs[i]))(h2:∀(i:Nat) (h:i<ys.length),W.cell? ⟨b2,o2+i,none⟩=some (.int .u8 ys[i])):(Extern.BytealgCompare.compare #[.slice (some ⟨b1,o1,none⟩) xs.length c1,.slice (some ⟨b2,o2,none⟩) ys.length c2]).run P W= .ok (ab (compareBytes (xs.map λz=>z.toNat.toUInt8) (ys.map λz=>z.toNat.toUInt8))) W:=by
 change Sem.run P (do pure (goInt (Extern.BytealgCompare.cmp (<-Extern.Bytes.bytesOf (.slice (some ⟨b1,o1,none⟩) xs.length c1)) (<-Extern.Bytes.bytesOf (.slice (some ⟨b2,o2,none⟩) ys.length c2))))) W=_;have e1:=nUg (P:=P) (W:=W) xs o1 [] h1;have e2:=nUg (P:=P) (W:=W) ys o2 [] h2;simp only[Extern.Bytes.bytesOf,Sem.run_bind,Sem.run_pure,Result.andThen];rw[show ByteArray.empty=⟨(#[]:Array UInt8)⟩from rfl,e1];simp only[eY];rw[e2];simp only[eY];rw[cmp_eq];rfl
theorem nEf{b1 o1 c1 b2 o2 c2:Nat}{xs ys:List Int}(h1:∀(i:Nat) (h:i<xs.length),W.cell? ⟨b1,o1+i,none⟩=some (.int .u8 xs[i]))(h2:∀(i:Nat) (h:i<ys.length),W.cell? ⟨b2,o2+i,none⟩=some (.int .u8 ys[i])):Calls prog 104 #[.slice (some ⟨b1,o1,none⟩) xs.length c1,.slice (some ⟨b2,o2,none⟩) ys.length c2] W λe w'=>e= .returned (ab (compareBytes (xs.map λz=>z.toNat.toUInt8) (ys.map λz=>z.toNat.toUInt8)))/\w'=W:=by
 have hr:=Gd (P:=prog) (c1:=c1) (c2:=c2) h1 h2;clear h1 h2
 go_enter func104,ntmps104
 go_wp2
 rw[run_callFunc_extern func170 zN zN zN (e:=Extern.BytealgCompare.compare) zN,hr];simp only[Result.andThen];rw[Oper.upon_value]
 go_wp2
 go_ret
 exact⟨rfl,rfl⟩
theorem aag{o2:Obj}{X:Array Value}(q:Nat)(h:X[k]? =some v):(((W.alloc (.cells X t)).alloc o2).drewN q).cell? ⟨W.heap.size,k,none⟩=some v:=by
 rw[alloc_eq_grow,alloc_eq_grow,grow_grow];have:(W.heap++(#[.cells X t]++#[o2]))[W.heap.size]? =some (.cells X t):=by rw[Array.getElem?_append_right (aj _)];simp
 simp only[World.cell?,World.drewN,grow,this];exact h
theorem aah{o1:Obj}{Y:Array Value}(q:Nat)(h:Y[k]? =some v):(((W.alloc o1).alloc (.cells Y t)).drewN q).cell? ⟨W.heap.size+1,k,none⟩=some v:=by simp_all
theorem aai(X Y:Array Value)(xs ys:List Int)(hx:xs.length=32)(hy:ys.length=32)(hX:∀(i:Nat) (h:i<xs.length),X[74+i]? =some (.int .u8 xs[i]))(hY:∀(i:Nat) (h:i<ys.length),Y[74+i]? =some (.int .u8 ys[i]))(W:World):Calls prog 185 #[.agg X,.agg Y] W λe w'=>e= .returned (ab (compareBytes (xs.map λz=>z.toNat.toUInt8) (ys.map λz=>z.toNat.toUInt8)))/\∃q Ad,w'=grow (W.drewN q) Ad:=by
 have J:∀q,Calls prog 104 #[.slice (some ⟨W.heap.size,74,none⟩) 32 32,.slice (some ⟨W.heap.size+1,74,none⟩) 32 32] (((W.alloc (.cells X 159)).alloc (.cells Y 159)).drewN q) λe w'=>e= .returned (ab (compareBytes (xs.map λz=>z.toNat.toUInt8) (ys.map λz=>z.toNat.toUInt8)))/\w'=((W.alloc (.cells X 159)).alloc (.cells Y 159)).drewN q:=by
  intro q;have:=nEf (W:=((W.alloc (.cells X 159)).alloc (.cells Y 159)).drewN q) (b1:=W.heap.size) (o1:=74) (c1:=32) (b2:=W.heap.size+1) (o2:=74) (c2:=32) (xs:=xs) (ys:=ys) (λi h=>aag _ (by simp[hX i h])) (λi h=>aah _ (by simp[hY i h]));rw[hx,hy]at this;exact this
 generalize compareBytes (xs.map λz=>z.toNat.toUInt8) (ys.map λz=>z.toNat.toUInt8)=c at J ⊢;clear hX hY
 go_enter func185,ntmps185
 go_wp2
 go_region_with (go_at_call 104;refine(J _).mono ?_;rintro e w' ⟨rfl,rfl⟩)
 go_wp2
 go_ret
 exact⟨rfl,_,_,by rw[alloc_eq_grow,alloc_eq_grow,grow_grow];rfl⟩
end
theorem nMi(f:Nat->Int):((dk f).1.map λz=>z.toNat.toUInt8)=cM f:=rfl
theorem aaj(x y:Cd)(W:World):Calls prog 185 #[.agg (jl x),.agg (jl y)] W λe w'=>e= .returned (ab (Go.Lib.compareBytes (cM x.id) (cM y.id)))/\Gz W w':=by
 rw[<-nMi,<-nMi];have key:∀(z:Cd) (i:Nat) (h:i<(dk z.id).1.length),(jl z)[74+i]? =some (.int .u8 (dk z.id).1[i]):=by
  intro z i h;have h2:i<32:=by rw[(dk z.id).2]at h;exact h
  have e1:((dk z.id).1.map (Value.int .u8))[i]? =some (.int .u8 ((dk z.id).1[i]'h)):=by rw[oh,ll h];rfl
  have e2:(dg z.id)[i]? =((dk z.id).1.map (Value.int .u8))[i]? :=by rw[<-nPn,Ez];rfl
  exact(vB (k:=74) (n:=32) (r:=dg z.id) rfl i h2).trans (e2.trans e1)
 exact aai (jl x) (jl y) (dk x.id).1 (dk y.id).1 (dk x.id).2 (dk y.id).2 (key x) (key y) W
def rkF:Nat->Nat
 |0=>183
 |1=>184
 |_=>185
def Su (w:World) (b:Nat):Prop:=∃b',w.heap[b]? =some (oC #[.slice (ao b') 3 3] 390)/\w.heap[b']? =some (oC #[.func (.func 183) #[] #[],.func (.func 184) #[] #[],.func (.func 185) #[] #[]] 227)
theorem Sv(j:Nat)(h:j<3):(#[Value.func (.func 183) #[] #[],.func (.func 184) #[] #[],.func (.func 185) #[] #[]]:Array Value)[0+((j:Int)).toNat*1]? =some (.func (.func (rkF j)) #[] #[]):=by
 match j,h with
 |0,_=>rfl
 |1,_=>rfl
 |2,_=>rfl
theorem LK(j:Nat)(h:j<3):eV prog (rkF j):=by
 match j,h with
 |0,_=>exact call183
 |1,_=>exact call184
 |2,_=>exact call185
def Ju (x y:Cd):Nat->Int
 |0=>dy x.since y.since
 |1=>dy x.c.author y.c.author
 |_=>Go.Lib.compareBytes (cM x.id) (cM y.id)
theorem aak(x y:Cd)(j:Nat)(h:j<3)(W:World):Calls prog (rkF j) #[.agg (jl x),.agg (jl y)] W λe w'=>e= .returned (ab (Ju x y j))/\Gz W w':=by
 match j,h with
 |0,_=>exact aae x y W
 |1,_=>exact aaf x y W
 |2,_=>exact aaj x y W
def kyD (d:Cd):Int×Int×List UInt8:=(d.since,d.c.author,cM d.id)
def rkI (x y:Cd):Int:=if dy x.since y.since=0 then(if dy x.c.author y.c.author=0 then Go.Lib.compareBytes (cM x.id) (cM y.id)else dy x.c.author y.c.author)else dy x.since y.since
theorem Sw{x y:Cd}(h:∀i,i<j->Ju x y i=0)(hj:j<3)(hn:¬Ju x y j=0):Ju x y j=rkI x y:=by
 have h0:=h 0;have h1:=h 1
 unfold rkI;all_goals grind [Ju]
theorem LL{x y:Cd}(h:∀i,i<3->Ju x y i=0):0=rkI x y:=by
 have h0:=h 0 aa;have h1:=h 1 aa;have h2:=h 2 aa
 all_goals grind [Ju,rkI]
theorem ajB(x y:Cd)(b:Nat)(w:World)(hr:Su w b):Calls prog 249 #[.agg (jl x),.agg (jl y),ptr b 0] w λe w'=>e= .returned (ab (rkI x y))/\Gz w w':=by
 obtain⟨b2,hb,dz⟩:=hr;refine Ge (vs:=[_,_,_]) func249 rfl ntmps249 rfl ?_;refine Bd ?_;refine aal rfl rfl rfl (λW0 h0=>?_);refine aal rfl rfl rfl (λW1 h1=>?_);obtain⟨W2,h2⟩:∃W2,W2=W1.alloc (oC (jl y) 159):=⟨_,rfl⟩;have gV:Gz w W1:=by rw[h1,h0];exact Gz.alloc _ _
 have ft:Gz w W2:=by rw[h2];exact gV.trans (Gz.alloc _ _)
 have rj:W2.heap[W1.heap.size]? =some (oC (jl y) 159):=by rw[h2];exact heap_alloc_new _ _
 have yk:W2.heap[W0.heap.size]? =some (oC (jl x) 159):=by
  have e:W1.heap[W0.heap.size]? =some (oC (jl x) 159):=by rw[h1];exact heap_alloc_new _ _
  rw[h2,(n5c W1 _).block _ (bB.1 e).1];exact e
 have eX:∀{W:World},Gz W2 W->St Gh.no [W2,w] [] W:=λ{W} h=>O8 (by
  intro v hv;simp only[cd,dZ,or_false]at hv;rcases hv with rfl|rfl
  ·exact h.below
  exact(ft.trans h).below)
 refine qo (L:=[W2,w]) (λW e=>by rw[e];have:=eX (Gz.refl W2);rw[h2]at this ⊢;exact this) rfl rfl rfl (uo rfl) ?_;refine Gf ?_;refine CX.seq ?_;refine Bd ?_;refine qo (L:=[W2,w]) (λW e=>by rw[e];have:=eX (Gz.refl W2);rw[h2]at this ⊢;exact this) rfl rfl rfl (ar (v:=.slice (ao b2) 3 3) isAgg390 rfl A1 hb zH trivial rfl) ?_;refine qo (L:=[W2,w]) (λW e=>by rw[e];have:=eX (Gz.refl W2);rw[h2]at this ⊢;exact this) rfl rfl rfl (mG underlying390 rfl) ?_;refine qo (L:=[W2,w]) (λW e=>by rw[e];have:=eX (Gz.refl W2);rw[h2]at this ⊢;exact this) rfl rfl rfl (pQ rfl) ?_;refine Gf ?_;refine CX.block ?_;refine CX.loop (α:=Nat×World) (λp=>[(2,ptr b 0),(3,ptr W0.heap.size 0),(4,ptr W1.heap.size 0),(9,.slice (ao b2) 3 3),(10,ab 3),(11,ab (p.1:Int))]) (λp=>(· =p.2)) (λp=>p.1<=3/\(∀i,i<p.1->Ju x y i=0)/\Gz W2 p.2) (λp=>3-p.1) (0,W2) ⟨by omega,λi h=>absurd h aa,Gz.refl _⟩ zR (λW e=>e.trans h2.symm) ?_;rintro⟨j,W⟩ ⟨hj,hz,hg⟩;dsimp only at hj hz hg ⊢;have hT:∀W',W'=W->St Gh.no [W2,w] [] W':=λW' e=>by rw[e];exact eX hg
 refine Bd ?_;by_cases av:j<3
 ·refine zgf ?_;refine qo hT rfl rfl rfl (bC underlying390 sizeOf227 rfl rfl aa aa) ?_;refine qo hT rfl rfl rfl (ar (v:=.func (.func (rkF j)) #[] #[]) isAgg227 rfl A1 dz zH trivial (Sv j av)) ?_;refine Sx ?_;refine Bd ?_;refine O9 ?_;refine qo hT rfl rfl rfl (gh isAgg159 sizeOf159 rfl A0 yk zH trivial rfl) ?_;refine qo hT rfl rfl rfl (gh isAgg159 sizeOf159 rfl A0 rj zH trivial rfl) ?_;refine Sy (first:=[]) (cap:=[]) (v:=ab (Ju x y j)) (T':=Gz W) rfl (LK j av) rfl rfl rfl (λW' e=>by rw[e];exact aak x y j av W) ?_;refine OX.fix (λW3 ay=>?_);have al:=hg.trans ay;have J:∀W',W'=W3->St Gh.no [W2,w] [] W':=λW' e=>by rw[e];exact eX al
  refine qo J rfl rfl rfl (uo rfl) ?_;refine Gf ?_;refine Bd ?_;refine qo J rfl rfl rfl (pQ rfl) ?_;by_cases aS:Ju x y j=0
  ·refine qo J rfl rfl rfl (RV.re (v':=bH) (dB rfl rfl) (vb (by simp[aS]))) ?_;refine zpf ?_;refine qo J rfl rfl rfl (jw rfl rfl aa aa) ?_;refine qo J rfl rfl rfl (pQ rfl) ?_;refine OX.done ?_;exact PX.again (j+1,W3) ⟨by dsimp only;omega,λi hi=>by dsimp only at hi;by_cases e:i=j;(rw[e];exact aS);exact hz i aa,al⟩ zS zR (λW' e=>e)
  refine qo J rfl rfl rfl (RV.re (v':=cD) (dB rfl rfl) (vb (by simp[aS]))) ?_;refine Gf ?_;refine CX.condT rfl ?_;refine Bd ?_;refine qo J rfl rfl rfl (pQ rfl) ?_;refine qo J rfl rfl rfl (uo rfl) ?_;refine Gf ?_;refine zCe ?_;exact Be (.inl rfl) results249 rfl (λW' e=>⟨congrArg (λn=>Ending.returned (ab n)) (Sw hz av aS),by rw[e];exact ft.trans al⟩)
 refine zGf ?_;refine Sx ?_;refine CX.ret ?_;exact Be (.inl rfl) results249 rfl (λW' e=>⟨congrArg (λn=>Ending.returned (ab n)) (LL (λi hi=>hz i aa)),by rw[e];exact ft.trans hg⟩)
theorem CO.rkI:CO rkI:=CO.ky3.key kyD
def jH (d:Cd):Nat:=d.at_.toNat
structure tQ (Z:Fx) (cs:List Cm) (g:Gp) (d:Cd):Prop where
 nn:0<=d.at_
 at_:cs[jH d]? =some d.c
 id:d.id=aC Z d.c
 since:d.since=Cy g.ms d.c.author
 x:d.x.g=jY Z g d.c
 ok:iB Z g d.c=0
noncomputable def Gg (Z:Fx) (cs:List Cm) (g:Gp) (i:Nat):Bool:=match cs[i]? with|some c=>iD c.par g.last&&decide (iB Z g c=0)|none=>false
noncomputable def wv (Z:Fx) (cs:List Cm) (g:Gp) (k:Nat):List Nat:=(((bP Z cs cs.length).take k).map λp=>p.2.toNat).filter (Gg Z cs g)
section
variable {q:Dk×Int}(hq:(bP Z cs cs.length)[k]? =some q)(hi:q.2=(i:Int))
include hq hi
theorem LM(h:Gg Z cs g i=true):wv Z cs g (k+1)=wv Z cs g k++[i]:=by simp_all[wv,np]
theorem Gj(h:Gg Z cs g i=false):wv Z cs g (k+1)=wv Z cs g k:=by simp_all[wv,np]
end
theorem LN(hc:cs[i]? =some c)(h:¬iD c.par g.last=true):Gg Z cs g i=false:=by simp[Gg,hc,h]
theorem LO(hc:cs[i]? =some c)(h:¬iB Z g c=0):Gg Z cs g i=false:=by simp[Gg,hc,h]
theorem LP(hc:cs[i]? =some c)(h:iD c.par g.last=true)(h2:iB Z g c=0):Gg Z cs g i=true:=by simp[Gg,hc,h,h2]
theorem n5j(h:i∈wv Z cs g k):∃c,cs[i]? =some c/\(dk (aC Z c),(i:Int))∈(bP Z cs cs.length):=by
 obtain⟨h1,_⟩:=xh.1 h;all_goals grind [Sn,dk,aC]
noncomputable def Gk (Z:Fx) (cs:List Cm) (g:Gp) (i:Nat):Int×Int×List UInt8:=match cs[i]? with|some c=>(Cy g.ms c.author,c.author,cM (aC Z c))|none=>(0,0,[])
theorem tQ.key(h:tQ Z cs g d):kyD d=Gk Z cs g (jH d):=by simp only[kyD,Gk,h.at_,h.since,h.id]
noncomputable def Pb (Z:Fx) (cs:List Cm) (g:Gp) (i j:Nat):Bool:=decide (ky3 (Gk Z cs g i) (Gk Z cs g j)<=0)
noncomputable def Bf (Z:Fx) (cs:List Cm) (g:Gp):List Nat:=(wv Z cs g (bP Z cs cs.length).length).mergeSort (Pb Z cs g)
theorem LQ{f g:Nat->Int}(hf:ey f)(hg:ey g)(h:cM f=cM g):dk f=dk g:=by
 have key:∀i,i<32->f i=g i:=by
  intro i hi;have h1:=Vy f hf i hi;have h2:=Vy g hg i hi;rw[<-h1,<-h2,h]
 all_goals grind [dk]
theorem LR(hZ:FxOk Z):∀a∈wv Z cs g k,∀b∈wv Z cs g k,Pb Z cs g a b=true->Pb Z cs g b a=true->a=b:=by
 intro a ha b hb h1 h2;obtain⟨c,hc,hm⟩:=n5j ha;obtain⟨c2,aS,bY⟩:=n5j hb;simp only[Pb,decide_eq_true_eq]at h1 h2;have h3:=CO.ky3.anti (Gk Z cs g a) (Gk Z cs g b);have h4:=Sr (x:=Gk Z cs g a) (y:=Gk Z cs g b) aa;simp only[Gk,hc,aS]at h4;have h5:dk (aC Z c)=dk (aC Z c2):=LQ (hZ.byt _ _) (hZ.byt _ _) h4;have nd:=nQg Z cs cs.length;obtain⟨i,hi⟩:=ju.1 hm;obtain⟨j,hj⟩:=ju.1 bY;have lQ:=nq hi;have C8:=nq hj;have J:i=j:=by
  have e1:((bP Z cs cs.length).map (·.1))[i]? =some (dk (aC Z c)):=by rw[oh,hi];rfl
  have e2:((bP Z cs cs.length).map (·.1))[j]? =some (dk (aC Z c)):=by rw[oh,hj,h5];rfl
  exact(List.getElem?_inj (by rw[eK];exact lQ) nd).1 (e1.trans e2.symm)
 subst J;rw[hi]at hj;have:=(Prod.mk.inj (Option.some.inj hj)).2;omega
instance:Inhabited Cd:=⟨⟨0,⟨0,0,λ_=>0,0,[],none,0,[],none,0,[],none,0,[],none,0,λ_=>0,0,0⟩,λ_=>0,0,gj⟩⟩
theorem nKp{α:Type}[Inhabited α]{cf:α->α->Int}(h:CO cf)(xs:List α):(gY cf xs).Pairwise (λa b=>cf a b<=0):=by
 have J:=(Go.Sort.pdq_sorts (Go.Proofs.ltOf cf) h.swo xs.toArray 0 xs.toArray.size (Go.Lib.bitLen xs.toArray.size) true true (cO _) (aj _) (Or.inl rfl)).2;have hl:(gY cf xs).length=xs.toArray.size:=by rw[O1 h.swo];simp
 rw[List.pairwise_iff_getElem];intro i j hi hj ve;have h2:=J i j (cO _) ve aa;simp only[Go.Proofs.ltOf,decide_eq_false_iff_not]at h2;have e:∀k (hk:k<(gY cf xs).length),(Go.Sort.pdq (Go.Proofs.ltOf cf) xs.toArray 0 xs.toArray.size (Go.Lib.bitLen xs.toArray.size) true true)[k]! =(gY cf xs)[k]:=by
  intro k hk;unfold gY at hk ⊢;rw[Ox]at hk;rw[Array.getElem_toList];exact getElem!_pos (Go.Sort.pdq (Go.Proofs.ltOf cf) xs.toArray 0 xs.toArray.size (Go.Lib.bitLen xs.toArray.size) true true) k hk
 rw[e i hi,e j hj]at h2;have:=h.anti ((gY cf xs)[i]) ((gY cf xs)[j]);omega
theorem LS(hZ:FxOk Z){ds:List Cd}(hm:ds.map jH=wv Z cs g (bP Z cs cs.length).length)(hd:∀d∈ds,tQ Z cs g d):(gY rkI ds).map jH=Bf Z cs g:=by
 have hp:(gY rkI ds).Perm ds:=WC CO.rkI.swo ds;have J:((gY rkI ds).map jH).Perm (wv Z cs g (bP Z cs cs.length).length):=hm▸hp.map jH;have Ss:(Bf Z cs g).Perm (wv Z cs g (bP Z cs cs.length).length):=List.mergeSort_perm _ _;refine nAk (le:=Pb Z cs g) (λa ha b hb=>LR hZ a (J.mem_iff.1 ha) b (J.mem_iff.1 hb)) ?_ ?_ (J.trans Ss.symm)
 ·rw[List.pairwise_map];refine(nKp CO.rkI ds).imp_of_mem ?_;intro a b ha hb h;have h1:=(hd a (hp.mem_iff.1 ha)).key;have h2:=(hd b (hp.mem_iff.1 hb)).key;simp only[Pb,decide_eq_true_eq,<-h1,<-h2];exact h
 refine List.pairwise_mergeSort (λa b c h1 h2=>?_) (λa b=>?_) _
 ·simp only[Pb,decide_eq_true_eq]at *;exact CO.ky3.trans _ _ _ h1 h2
 have:=CO.ky3.anti (Gk Z cs g a) (Gk Z cs g b);simp only[Pb,Bool.or_eq_true,decide_eq_true_eq];omega
structure qp (F:ad) (x:Gv):Prop where
 ms:iN qH 3 F x.ma x.g.ms
 ns:iN fZ 2 F x.na x.g.ns
 mn:x.g.ms.length<=10000
 nn:x.g.ns.length<=80000
theorem qp.mono{F':ad}(h:qp F x)(hF:∀p∈F,p∈F'):qp F' x:=⟨h.ms.mono hF,h.ns.mono hF,h.mn,h.nn⟩
theorem qp.lies(h:qp F x)(hW:∀p∈F,p.1<N/\W.heap[p.1]? =some p.2):cj N W x:=⟨h.ms.at hW,h.ns.at hW,h.mn,h.nn⟩
def dW (K:Nat) (x:Gv):Prop:=(∀q,x.ma=some q->x.g.ms=[]\/K<=q.block)/\(∀q,x.na=some q->x.g.ns=[]\/K<=q.block)
theorem qp.new(h:qp F x)(hF:∀p∈F,K<=p.1):dW K x:=⟨h.ms.ge hF,h.ns.ge hF⟩
theorem nml(hZ:FxOk Z)(G:Gv)(c:Cm)(dG:bO c)(N:Nat)(w:World)(hN:N<=w.heap.size)(hG:cj N w G)(hC:dC N w c)(hg:Glb w):Calls prog 83 #[.agg (bJ G),.agg (cP c)] w (λe w'=>∃(X:Gv) (F':ad),e= .returned (.tuple #[.agg (bJ X),ab (iB Z G.g c)])/\Below w.heap.size w w'/\(∀p∈F',w.heap.size<=p.1/\w'.heap[p.1]? =some p.2)/\X.g=yi Z G.g c/\qp F' X):=by
 refine(nxd hZ G c dG N w hN hG hC hg).mono ?_;rintro e w' ⟨X,rfl,hb,al,fF,J,mS⟩;obtain⟨F1,wB,uJ⟩:=fF.ms.fs J;obtain⟨F2,Pd,O6⟩:=fF.ns.fs mS;refine⟨X,F1++F2,rfl,hb,λp hp=>(aY.1 hp).elim (wB p) (Pd p),al,uJ.mono (λp hp=>aY.2 (.inl hp)),O6.mono (λp hp=>aY.2 (.inr hp)),fF.mn,fF.nn⟩
theorem Sz{xs:List Cd}(hl:xs.length<=1000000){cap:Nat}(bQ:(Rw.row b cap sp).Fit 143 xs)(h:W.heap[b]? =some (bj pg 159 xs sp))(bk:Nat)(WJ:∀w:World,aT (· =b) W w->Su w bk):Calls prog 109 #[.slice (ao b) xs.length cap,.func (.func 249) #[] #[ptr bk 0]] W (λe w'=>∃J,e= .returned ((λ_=>.tuple #[]) (Rw.row b cap J))/\aT (· =b) W w'/\(Rw.row b cap J).Fit 143 (gY rkI xs)/\w'.heap[b]? =some (bj pg 159 (gY rkI xs) J)):=by
 have Jk:∀ys:List Cd,ys.length=xs.length->∀(m:Nat) (os:Array Obj),aT (· =b) W (Go.Proofs.sortWorldK pg 143 W b 0 m ys.toArray os):=λys hy m os=>(ZS (n:=m) (os:=os) F7 h (ys:=ys) hy).1;have hc:=Go.Proofs.AnyQ.slices_SortFunc_eq Go.Proofs.Tryz.laySC 143 isAgg159 sizeOf159 pg F7 ntk rkI CO.rkI.swo 249 #[ptr bk 0] b 0 cap xs.toArray W (Go.Proofs.enters_of func249 zN rfl) (λm os dk hd x y=>ajB x y bk _ (WJ _ (by have:=Jk dk.toList (by rw[Ox,hd];simp) m os;simpa using this))) (nnj F7 h) (bB.1 h).1 mZ;change Calls prog 109 _ _ _ at hc;refine hc.mono ?_;rintro e w' ⟨rfl,n,os,rfl⟩;have hp:=ZS (n:=n) (os:=os) F7 h (ys:=gY rkI xs) (O1 CO.rkI.swo xs);exact⟨sp,rfl,hp.1,by simp only[Rw.Fit,O1 CO.rkI.swo];exact bQ,hp.2⟩
def Ak (w:World) (b N:Nat):Prop:=N<=b/\∃b',N<=b'/\w.heap[b]? =some (oC #[.slice (ao b') 3 3] 390)/\w.heap[b']? =some (oC #[.func (.func 183) #[] #[],.func (.func 184) #[] #[],.func (.func 185) #[] #[]] 227)
theorem Ak.keep{X:Nat->Prop}(h:Ak w b N)(hk:aT X w W)(hX:∀k,X k->k<N):Ak W b N:=by
 obtain⟨h0,b',eQ,h1,h2⟩:=h;have J:=(bB.1 h1).1;have l2:=(bB.1 h2).1;refine⟨h0,b',eQ,?_,?_⟩
 ·rw[hk.block b J (λhx=>by have:=hX _ hx;omega)];exact h1
 rw[hk.block b' l2 (λhx=>by have:=hX _ hx;omega)];exact h2
theorem Ak.at(h:Ak w b N):Su w b:=⟨h.2.choose,h.2.choose_spec.2⟩
theorem nbp(b:Nat)(w:World):Calls prog 182 #[.slice (ao b) 3 3] w (dc w (λb1:Nat=>.func (.func 249) #[] #[ptr b1 0]) (λb1 w1=>w.heap.size<=b1/\w1.heap[b1]? =some (oC #[.slice (ao b) 3 3] 390))):=by
 refine eN func182 ntmps182 ?_;refine cK 2 ?_;intro b1 w1 hb1 cN J gb jJ;refine B 10 ?_;refine sM b1 results182 rfl A1 rfl ?_;exact λW hS=>⟨by omega,hS.old A0 hb1 cN trivial⟩
theorem nXl(w:World):Calls prog 110 #[] w (dc w (λb1:Nat=>.func (.func 249) #[] #[ptr b1 0]) (λb1 w1=>Ak w1 b1 w.heap.size)):=by
 refine ei 7 func110 ntmps110 ?_;refine rJ underlying390 sizeOf227 zeroValue227 rfl rfl rfl rfl rfl rfl rfl ?_;refine yV ?_;intro b1 w1 hb1 cN gV gb jJ;refine ny (α:=Nat) (v:=λb9:Nat=>.func (.func 249) #[] #[ptr b9 0]) (Φ:=λW b9 w9=>W.heap.size<=b9/\w9.heap[b9]? =some (oC #[.slice (ao b1) 3 3] 390)) call182 rfl rfl rfl (λW hS=>nbp b1 W) ?_;rintro W9 b9 w9 cF xX ⟨hq1,uz⟩;have Zl:=(cF.links w1 A0).size;have J:=(cF.links w A1).size;refine B 4 ?_;refine sM b9 results110 rfl A2 rfl ?_;exact λW hS=>⟨by omega,b1,by omega,hS.old A0 uz zH trivial,hS.old A1 hb1 cN trivial⟩
theorem nnl(bk:Nat)(w:World):Calls prog 241 #[ak,ab 0,ab 0,.func (.func 249) #[] #[ptr bk 0]] w (aU w (.tuple #[])):=by
 refine ei 8 func241 ntmps241 ?_;refine zGd ?_;rintro j _;refine B 5 ?_;refine wX ?_;exact cA (.inr rfl) results241 bD A0 trivial rfl
theorem n7o(bk:Nat)(l:Int)(w:World):Calls prog 181 #[ak,ab 0,ab 0,ab l,.func (.func 249) #[] #[ptr bk 0]] w (aU w (.tuple #[])):=by
 refine ei 11 func181 ntmps181 ?_;refine zHd ?_;rintro j _;refine QK ?_;refine B 9 ?_;refine call call241 rfl rfl rfl (λW hS=>nnl bk W) ?_;refine B 7 ?_;exact cA (.inl rfl) results181 bD A0 trivial rfl
theorem njn(bk:Nat)(w:World):Calls prog 109 #[ak,.func (.func 249) #[] #[ptr bk 0]] w (aU w (.tuple #[])):=by
 refine eN func109 ntmps109 ?_;refine z0f ?_;refine call call181 rfl rfl rfl (λW hS=>n7o bk _ W) ?_;refine B 1 ?_;exact cA (.inr rfl) results109 bD A0 trivial rfl
theorem n9i(hZ:FxOk Z)(cs:List Cm)(bX:cs.length<=1000)(dG:∀c∈cs,bO c)(N:Nat)(la:Option Addr)(lc:Nat)(w:World)(hN:N<=w.heap.size)(aI:ai cP 73 N w la cs)(hC:∀c∈cs,dC N w c)(ia:Option Addr)(ic:Nat)(ta:Option Addr)(tc:Nat)(hp:pP Z cs N w ⟨ia,ic,ta,tc⟩)(G:Gv)(hG:cj N w G)(hg:Glb w):Calls prog 63 #[.agg (Af Z cs la lc ⟨ia,ic,ta,tc⟩),.agg (bJ G)] w (λe w'=>∃ds:List Cd,(ds.map jH=Bf Z cs G.g/\∀d∈ds,tQ Z cs G.g d/\cj w'.heap.size w' d.x/\dW w.heap.size d.x)/\aD w pg 143 159 ds id e w'):=by
 have bQ:=hg.lt;have gq:=nBh Z cs cs.length;have my:((bP Z cs cs.length).map (·.1)).length=(bP Z cs cs.length).length:=eK ..;have Jk:((bP Z cs cs.length).map (·.2)).length=(bP Z cs cs.length).length:=eK ..;have Gm:=hp.ids;have Gn:=hp.at_;dsimp only at Gm Gn;refine nB (dJ []) [] (vs:=[_,_]) func63 rfl ntmps63 rfl (Lo w) ?_;refine cK 2 ?_;intro b2 w2 dz bY ft dL dH;refine yX ?_;intro b3 w3 dE da gi eO fw;refine aF 7 (.slice ta ((bP Z cs cs.length).map (·.2)).length tc) ?_;refine B 5 ?_;refine CJ.loop (α:=((Rw×List Cd)×ad)×Nat) (λp9=>[(2,ptr b2 0),(3,ptr b3 0),(4,p9.1.1.1.val p9.1.1.2.length),(11,.slice ta ((bP Z cs cs.length).map (·.2)).length tc),(12,ab (((bP Z cs cs.length).map (·.2)).length:Int)),(13,ab (p9.2:Int))]) (λp9=>p9.1.1.1.hp pg 159 p9.1.1.2++[]) (λp9=>[w3,w2,w]) (λp9=>dJ p9.1.2) (λp9=>p9.2<=((bP Z cs cs.length).map (·.2)).length/\p9.1.1.1.Fr (dJ p9.1.2) [w3,w2,w]/\p9.1.1.1.Fit 143 p9.1.1.2/\p9.1.1.2.map jH=wv Z cs G.g p9.2/\(∀d∈p9.1.1.2,tQ Z cs G.g d/\qp p9.1.2 d.x)/\p9.1.1.2.length<=p9.2/\∀q∈p9.1.2,w.heap.size<=q.1) (λp9=>((bP Z cs cs.length).map (·.2)).length-p9.2) (((.nil,[]),[]),0) ⟨cO _,True.intro,rfl,rfl,by simp,aj _,by simp⟩ zR rfl rfl zI ?_;rintro⟨⟨⟨r,ds⟩,F⟩,k⟩ ⟨hk,aK,ae,aX,iS,uP,dD⟩
 dsimp only at hk aK ae aX iS uP dD ⊢;have bK:r.ge w3.heap.size:=Rw.ge_fz aK A0;refine aG 6 ?_ ?_
 ·intro av;refine B 5 ?_;obtain⟨q,hq⟩:=ng (bP Z cs cs.length) k aa;obtain⟨i,c,LU,lQ,hc,ay⟩:=Sn Z cs _ q (cu hq);have Jt:((bP Z cs cs.length).map (·.2))[k]? =some ((i:Nat):Int):=by rw[oh,hq,KB,LU]
  have Qh:((bP Z cs cs.length).map (·.1))[k]? =some (dk (aC Z c)):=by rw[oh,hq,KB,ay]
  have Dy:=cu hc;obtain⟨ba,oa,cT,ta,bA,rfl,SA,Gq,Gs⟩:=Gn.get aa;obtain⟨bq,oq,Rn,tq,Ro,rfl,pI,zg,qG⟩:=Gm.get aa;obtain⟨bl,ol,c3,tl,cz,rfl,jq,tR,mK⟩:=aI.get aa;refine B 3 ?_;refine rv rfl rfl rfl (ar (v:=ab (i:Int)) isAgg3 rfl A2 Gq zH zy zMc) ?_;refine aF 7 (.slice (some ⟨bl,ol,none⟩) cs.length lc) ?_;refine aF 2 (.agg (cP c)) ?_;refine bM 1 ?_;intro b7 kh vY;refine B 5 ?_;by_cases J:iD c.par G.g.last=true
  ·refine aF 2 (.agg (dg c.par)) ?_;refine aF 1 (.agg (dg G.g.last)) ?_;refine rq bH (dV nO zz nF rfl rfl rfl) (congrArg (λq=>Value.bool (!q)) J) ?_;refine aF 7 (.agg (bJ G)) ?_;refine du (.agg (cP c)) ?_;refine Pe (γ:=Gv) (v:=λX=>.tuple #[.agg (bJ X),ab (iB Z G.g c)]) (Φ:=λF X=>X.g=yi Z G.g c/\qp F X) call83 rfl rfl rfl (λW hS=>nml hZ G c (dG c Dy) N W cR (hG.up (aj _) (hS.same A2 hN zF zC)) ((hC c Dy).up (aj _) (hS.same A2 hN zF zC)) (hg.old hS A2 zF zC)) ?_;rintro Xn F2 ⟨gk,jZ⟩ Pd;obtain⟨e,he⟩:∃e,iB Z G.g c=e:=⟨_,rfl⟩;rw[he];refine bM 4 ?_;intro b8 C4 Jb;refine aG 10 ?_ ?_
   ·intro aS;refine eS 15 14 [] (pb:=by exact zU 11 (k:=by exact aM (nf call108 rfl rfl (λW hS _=>Lx G N W cR (hG.up (aj _) (hS.same A2 hN zF zC)) c.author) (λ_=>rfl)) zT)) (sp:=[_,_,some (.agg (cP c)),_,some (.slice (some ⟨bq,oq,none⟩) ((bP Z cs cs.length).map (·.1)).length ic),_,_,some (.agg (dg (aC Z c))),some (.agg (bJ G)),_,some (ab c.author),some (ab (Cy G.g.ms c.author)),some (.agg (bJ Xn)),some (.agg (jl (⟨(i:Int),c,aC Z c,Cy G.g.ms c.author,Xn⟩:Cd))),_]) (h:=?_);intro _ _ hk;refine kp underlying162 sizeOf159 zeroValue159 rfl rfl rfl rfl rfl rfl rfl ?_;intro al pN iA;have cr:w3.heap.size<=al:=pN.1;refine zE ?_;refine jV (r:=r) (xs:=ds) (zs:=[(⟨(i:Int),c,aC Z c,Cy G.g.ms c.author,Xn⟩:Cd)]) (enc:=pg) (m:=143) (H0:=[(al,oC (jl (⟨(i:Int),c,aC Z c,Cy G.g.ms c.author,Xn⟩:Cd)) 159),(b8,oC (bJ Xn) 53),(b7,oC (cP c) 61)]) (H1:=[]) zW Ga F7 rfl rfl rfl rfl (ck.one (z:=(⟨(i:Int),c,aC Z c,Cy G.g.ms c.author,Xn⟩:Cd)) F7 ntk underlying162 (bF.own (i:=0) rfl)) ae aK zI za ?_;intro a8 br aE SB SC;replace SB:=yb SB;refine zd ?_;refine qD ?_;refine ag (((Rw.row a8 br aE,ds++[(⟨(i:Int),c,aC Z c,Cy G.g.ms c.author,Xn⟩:Cd)]),F2++F),k+1) ⟨by dsimp only;omega,SB.elim (λh=>Rw.Fr_at aK h) (λh=>.inr h),SC,by dsimp only;rw[LM hq LU (LP hc J (by rw[he];assumption)),gN,aX];rfl,λd hd=>(aY.1 hd).elim (λh=>⟨(iS d h).1,(iS d h).2.mono (λp hp=>aY.2 (.inr hp))⟩) (λh=>by rw[fC.1 h];exact⟨⟨Int.natCast_nonneg _,hc,rfl,rfl,gk.trans (if_pos (by rw[he];assumption)),by rw[he];assumption⟩,jZ.mono (λp hp=>aY.2 (.inl hp))⟩),by dsimp only;rw[cB,List.length_singleton];omega,λq hq=>(aY.1 hq).elim (λh=>(Pd q h).not A2) (dD q)⟩
   intro aS;refine LC ?_;refine ag (((r,ds),F2++F),k+1) ⟨by dsimp only;omega,aK,ae,by dsimp only;rw[Gj hq LU (LO hc (by rw[he];assumption))];exact aX,λd hd=>⟨(iS d hd).1,(iS d hd).2.mono (λp hp=>aY.2 (.inr hp))⟩,by dsimp only;omega,λq hq=>(aY.1 hq).elim (λh=>(Pd q h).not A2) (dD q)⟩
  refine aF 2 (.agg (dg c.par)) ?_;refine aF 1 (.agg (dg G.g.last)) ?_;refine rq cD (dV nO zz nF rfl rfl rfl) (congrArg (λq=>Value.bool (!q)) (Bool.eq_false_iff.2 J)) ?_;refine B 11 ?_;refine qD ?_;refine ag (((r,ds),F),k+1) ⟨by dsimp only;omega,aK,ae,by dsimp only;rw[Gj hq LU (LN hc J)];exact aX,iS,by dsimp only;omega,dD⟩
 intro av;refine B 6 ?_;have a6:k=(bP Z cs cs.length).length:=by omega
 rw[a6]at aX;refine B 2 ?_;refine ny (α:=Nat) (v:=λb:Nat=>.func (.func 249) #[] #[ptr b 0]) (Φ:=λW b w1=>Ak w1 b W.heap.size) call110 rfl rfl rfl (λW hS=>nXl W) ?_;intro Wk bk wk wg EZ WJ;have cy:=EZ.size;refine EU (r:=r) (enc:=pg) (m:=143) (t:=159) (xs:=ds) (ys:=gY rkI ds) (H0:=[]) (H1:=[]) (v:=λ_=>.tuple #[]) rfl call109 rfl rfl rfl (λhr W hS=>?_) (λb cap sp hr W hS h=>?_) ?_
 ·subst hr;have h0:ds=[]:=ae;subst h0;exact(njn bk W).mono λe w2 h=>⟨h.1,mF (O1 CO.rkI.swo []),h.2⟩
 ·subst hr;have jq:b<Wk.heap.size:=wg.lt (b,_) A0;exact Sz aa ae h bk (λw9 az=>((WJ.keep (X:=λk=>k=b) ((hS.links wk A0).mono (λk _ hx=>by rcases hx with hx|hx;(exact hx.elim);simpa[Rw.hp]using hx)) (λk hk=>by omega)).keep az (λk hk=>by omega)).at)
 intro r2 eP lW rQ kz;have eE:=rQ _ bK;refine B 9 ?_;refine bS (.inl rfl) results63 bD λW hS=>?_;have lU:(gY rkI ds).Perm ds:=WC CO.rkI.swo ds;refine⟨gY rkI ds,⟨LS hZ aX (λd hd=>(iS d hd).1),λd hd=>⟨(iS d (lU.mem_iff.1 hd)).1,(iS d (lU.mem_iff.1 hd)).2.lies hS.fzLies,(iS d (lU.mem_iff.1 hd)).2.new dD⟩⟩,r2,?_,?_,Rw.ge_mono eE aa,eP,?_⟩
 ·show Ending.returned (r.val ds.length)=Ending.returned (r2.val (gY rkI ds).length);rw[kz,O1 CO.rkI.swo]
 ·exact(hS.links w A3).below (λk hk hx=>by rcases hx with hx|hx;(exact hx);simp only[eY,ec]at hx;have:=Rw.mem_ge eE hx;omega)
 cases r2 with
  |nil=>trivial
  |row b cap sp=>exact hS.own (b,_) o8
instance:Inhabited Cm:=⟨⟨0,0,λ_=>0,0,[],none,0,[],none,0,[],none,0,[],none,0,λ_=>0,0,0⟩⟩
def zCd:Cd:=default
def ajH {α:Type} (cf:α->Cm) (l:List α) (d:α):Bool:=l.any λx=>decide ((cf x).author≠(cf d).author)&&(cf x).chs.any (ajh (cf d).author)
def ajI {α:Type} (cf:α->Cm) (b:Option α) (d:α):Option α:=match b with|none=>some d|some w=>if rmN (cf w).chs<rmN (cf d).chs then some d else some w
def wnS {α:Type} (cf:α->Cm) (s:List α×Option α) (d:α):List α×Option α:=if ajH cf s.1 d=true then s else(s.1++[d],ajI cf s.2 d)
def wnT {α:Type} (cf:α->Cm) (l:List α) (k:Nat):List α×Option α:=(l.take k).foldl (wnS cf) ([],none)
def iT (cs:List Cm) (i:Nat):Cm:=(cs[i]?).getD default
noncomputable def wnI (Z:Fx) (cs:List Cm) (g:Gp):Option Nat:=(wnT (iT cs) (Bf Z cs g) (Bf Z cs g).length).2
theorem dW.mono{J:Nat}(h:dW K x)(hk:J<=K):dW J x:=⟨λq e=>(h.1 q e).imp id (eB hk),λq e=>(h.2 q e).imp id (eB hk)⟩
structure Fo where
 id:Int
 first:Nat->Int
def qQ (f:Fo):Array Value:=(ab f.id::lN f.first []).toArray
def g0 (f:Fo):Gp:=⟨f.id,0,λ_=>0,[],[]⟩
def g0v (f:Fo):Gv:=⟨g0 f,none,0,none,0⟩
theorem SD(f:Fo)(N:Nat)(w:World):cj N w (g0v f):=⟨.inl rfl,.inl rfl,by simp[g0v,g0],by simp[g0v,g0]⟩
theorem nDp(l:List Dk)(k:Dk):pO l k= -1\/∃j:Nat,pO l k=(j:Int)/\l[j]? =some k:=by
 unfold pO;cases h:l.findIdx? λx=>decide (x=k)with
 |none=>exact .inl rfl
 |some j=>
  obtain⟨h1,h2,_⟩:=aqr.1 h;refine .inr ⟨j,rfl,?_⟩;rw[ll h1];simpa using h2
noncomputable def LV (Z:Fx) (cs:List Cm) (f:Fo):Option Nat:=if pO ((bP Z cs cs.length).map (·.1)) (dk f.first)<0 then none else((bP Z cs cs.length)[(pO ((bP Z cs cs.length).map (·.1)) (dk f.first)).toNat]?).map λp=>p.2.toNat
noncomputable def sV (Z:Fx) (cs:List Cm) (f:Fo):Option Nat:=(LV Z cs f).bind λi=>if iB Z (g0 f) (iT cs i)=0 then some i else none
structure vC (Z:Fx) (cs:List Cm) (g:Gp) (d:Cd):Prop where
 nn:0<=d.at_
 at_:cs[jH d]? =some d.c
 x:d.x.g=jY Z g d.c
 ok:iB Z g d.c=0
theorem tQ.le(h:tQ Z cs g d):vC Z cs g d:=⟨h.nn,h.at_,h.x,h.ok⟩
def vD (b:Nat) (x:Gv):Prop:=(∀q,x.ma=some q->x.g.ms=[]\/q.block≠b)/\(∀q,x.na=some q->x.g.ns=[]\/q.block≠b)
theorem dW.off(h:(∀q,x.ma=some q->K<=q.block)/\(∀q,x.na=some q->K<=q.block))(hb:b<K):vD b x:=⟨λq e=>.inr (by have:=h.1 q e;omega),λq e=>.inr (by have:=h.2 q e;omega)⟩
theorem ai.ltq{α:Type}{enc:α->Array Value}{n:Nat}{xs:List α}(h:ai enc n N w a xs):∀q,a=some q->xs=[]\/q.block<N:=by
 intro q e;rcases h with h|⟨b,off,cs,t,fr,h1,h2,_⟩;all_goals grind
theorem cj.off(h:cj N w x)(hb:N<=b):vD b x:=⟨λq e=>(h.ms.ltq q e).imp id (λh=>by omega),λq e=>(h.ns.ltq q e).imp id (λh=>by omega)⟩
theorem cj.toO(h:cj N w x)(hS:St Gh.no L H W)(hw:w∈L)(hN:N<=w.heap.size)(ho:∀p∈H,vD p.1 x):cj W.heap.size W x:=by
 have key:∀b,(∀p∈H,p.1≠b)->bN H b:=λb hb=>bN.of_mem (λhm=>by obtain⟨p,hp,e⟩:=bU.1 hm;exact hb p hp e);refine⟨h.ms.toG hS hw hN (λb off e=>?_),h.ns.toG hS hw hN (λb off e=>?_),h.mn,h.nn⟩
 ·by_cases h0:x.g.ms=[]
  ·exact .inl h0
  exact .inr (λ_=>⟨λh=>h,key b (λp hp e2=>((ho p hp).1 _ e).resolve_left h0 e2.symm)⟩)
 by_cases h0:x.g.ns=[]
 ·exact .inl h0
 exact .inr (λ_=>⟨λh=>h,key b (λp hp e2=>((ho p hp).2 _ e).resolve_left h0 e2.symm)⟩)
theorem ngp(hZ:FxOk Z)(cs:List Cm)(bX:cs.length<=1000)(dG:∀c∈cs,bO c)(N:Nat)(la:Option Addr)(lc:Nat)(w:World)(hN:N<=w.heap.size)(aI:ai cP 73 N w la cs)(hC:∀c∈cs,dC N w c)(ia:Option Addr)(ic:Nat)(ta:Option Addr)(tc:Nat)(hp:pP Z cs N w ⟨ia,ic,ta,tc⟩)(fo:Fo)(hg:Glb w):Calls prog 62 #[.agg (Af Z cs la lc ⟨ia,ic,ta,tc⟩),.agg (qQ fo)] w (dc w (λq:Cd×Bool=>.tuple #[.agg (jl q.1),.bool q.2]) (λq w'=>(q.2=true/\sV Z cs fo=some (jH q.1)/\vC Z cs (g0 fo) q.1/\cj w'.heap.size w' q.1.x/\dW w.heap.size q.1.x)\/(q.2=false/\sV Z cs fo=none))):=by
 have bz:=hg.lt;have gq:=nBh Z cs cs.length;have my:((bP Z cs cs.length).map (·.1)).length=(bP Z cs cs.length).length:=eK ..;have Jk:((bP Z cs cs.length).map (·.2)).length=(bP Z cs cs.length).length:=eK ..;have Gm:=hp.ids;have Gn:=hp.at_;dsimp only at Gm Gn;obtain⟨k,an⟩:∃k,pO ((bP Z cs cs.length).map (·.1)) (dk fo.first)=k:=⟨_,rfl⟩;refine eN func62 ntmps62 ?_;refine cK 2 ?_;intro b2 w2 dz bY ft dL dH;refine yX ?_;intro b3 w3 dE da gi eO fw;refine bM 1 ?_;intro b4 iW iX;refine aF 6 (.slice ia ((bP Z cs cs.length).map (·.1)).length ic) ?_;refine aF 1 (.agg (dg fo.first)) ?_;refine call call107 rfl rfl rfl (λW hS=>by rw[<-an];exact Gc ((bP Z cs cs.length).map (·.1)) aa N ia ic W cR (Gm.up (aj _) hS.sm) fo.first) (v:=ab k) ?_;refine B 5 ?_;rcases nDp ((bP Z cs cs.length).map (·.1)) (dk fo.first)with J|⟨j,J,a8⟩
 ·have hk:k= -1:=by rw[<-an];exact J
  refine B 2 ?_;refine VR ?_;refine du (.agg (jl zCd)) ?_;refine B 6 ?_;refine bS (.inl rfl) results62 bD λW hS=>⟨(zCd,false),rfl,hS.base A2 zD,.inr ⟨rfl,?_⟩⟩;show sV Z cs fo=none;unfold sV LV;rw[J,if_pos aa];rfl
 have hk:k=(j:Int):=by rw[<-an];exact J
 refine B 2 ?_;refine Ew ?_;obtain⟨q,hq⟩:=ng (bP Z cs cs.length) j (by have:=nq a8;omega);obtain⟨i,c,LU,lQ,hc,bw⟩:=Sn Z cs _ q (cu hq);have Jt:((bP Z cs cs.length).map (·.2))[j]? =some ((i:Nat):Int):=by rw[oh,hq,KB,LU]
 have C8:=nq Jt;have Dy:=cu hc;obtain⟨e,he⟩:∃e,iB Z (g0 fo) c=e:=⟨_,rfl⟩;subst hk;obtain⟨ba,oa,bQ,ta,bx,rfl,SA,Gq,Gs⟩:=Gn.get aa;obtain⟨bl,ol,bZ,tl,bL,rfl,jq,tR,mK⟩:=aI.get aa;have hk:pO ((bP Z cs cs.length).map (·.1)) (dk fo.first)=(j:Int):=J;refine CJ.less (E':=[(0,_),(1,_),(2,_),(3,_),(4,_),(5,_),(6,_),(9,_),(10,_),(11,_),(12,_),(13,_),(14,_),(15,_)]) zR ?_;refine dN 18 [12,13,14,16,17] [[],[0],[0,1],[],[0,1,2,3]] (λcv L' H'=>let ew:ad:=[(b4,oC (jl zCd) 159)];match cv with| [none,none,none,none,none]=>L'=[w3,w2,w]/\H'=ew| [none,none,none,some xi,none]=>∃(b7:Nat),xi=ptr b7 0/\L'=[w3,w2,w]/\H'=(b7,oC (bJ gj) 53)::ew/\w3.heap.size<=b7| [some v12,none,none,none,none]=>∃(Xn:Gv) (fp:World),v12= .tuple #[.agg (bJ Xn),ab e]/\L'=[fp,w3,w2,w]/\H'=ew/\Xn.g=yi Z (g0 fo) c/\cj fp.heap.size fp Xn/\vD b4 Xn/\dW w.heap.size Xn| [some v12,none,none,some xi,none]=>∃(Xn:Gv) (fp:World) (b7:Nat),v12= .tuple #[.agg (bJ Xn),ab e]/\xi=ptr b7 0/\L'=[fp,w3,w2,w]/\H'=(b7,oC (bJ gj) 53)::ew/\Xn.g=yi Z (g0 fo) c/\cj fp.heap.size fp Xn/\vD b4 Xn/\dW w.heap.size Xn/\w3.heap.size<=b7/\vD b7 Xn| [some v12,some xj,none,none,none]=>∃(Xn:Gv) (fp:World),v12= .tuple #[.agg (bJ Xn),ab e]/\xj= .tuple #[.agg (bJ Xn),ab e]/\L'=[fp,w3,w2,w]/\H'=ew/\Xn.g=yi Z (g0 fo) c/\cj fp.heap.size fp Xn/\vD b4 Xn/\dW w.heap.size Xn| [some v12,some xj,none,some xi,none]=>∃(Xn:Gv) (fp:World) (b7:Nat),v12= .tuple #[.agg (bJ Xn),ab e]/\xj= .tuple #[.agg (bJ Xn),ab e]/\xi=ptr b7 0/\L'=[fp,w3,w2,w]/\H'=(b7,oC (bJ gj) 53)::ew/\Xn.g=yi Z (g0 fo) c/\cj fp.heap.size fp Xn/\vD b4 Xn/\dW w.heap.size Xn/\w3.heap.size<=b7/\vD b7 Xn| [some v12,some xj,some CB,none,none]=>∃(Xn:Gv) (fp:World),v12= .tuple #[.agg (bJ Xn),ab e]/\xj= .tuple #[.agg (bJ Xn),ab e]/\CB= .agg (bJ Xn)/\L'=[fp,w3,w2,w]/\H'=ew/\Xn.g=yi Z (g0 fo) c/\cj fp.heap.size fp Xn/\vD b4 Xn/\dW w.heap.size Xn| [some v12,some xj,some CB,some xi,none]=>∃(Xn:Gv) (fp:World) (b7:Nat),v12= .tuple #[.agg (bJ Xn),ab e]/\xj= .tuple #[.agg (bJ Xn),ab e]/\CB= .agg (bJ Xn)/\xi=ptr b7 0/\L'=[fp,w3,w2,w]/\H'=(b7,oC (bJ gj) 53)::ew/\Xn.g=yi Z (g0 fo) c/\cj fp.heap.size fp Xn/\vD b4 Xn/\dW w.heap.size Xn/\w3.heap.size<=b7/\vD b7 Xn| [some v12,some xj,some CB,some xi,some v17]=>∃(Xn:Gv) (fp:World) (b7:Nat),v12= .tuple #[.agg (bJ Xn),ab e]/\xj= .tuple #[.agg (bJ Xn),ab e]/\CB= .agg (bJ Xn)/\xi=ptr b7 0/\v17= .tuple #[]/\L'=[fp,w3,w2,w]/\H'=(b7,oC (bJ Xn) 53)::ew/\Xn.g=yi Z (g0 fo) c/\cj fp.heap.size fp Xn/\vD b4 Xn/\dW w.heap.size Xn/\w3.heap.size<=b7/\vD b7 Xn|_=>False) ⟨rfl,rfl⟩ (qn 1 (k:=by exact lH zcq (qn 2 (k:=by exact lH zcq (qn 1 (k:=by exact lH zcq (qn 2 (k:=by exact lH zcq (qn 1 (k:=by exact lH zcq (qn 3 (k:=by exact lH (λcv L' H' hl hd hP=>by obtain⟨rl,sW,uK,yl,ym,rfl⟩:=tP hl;(rcases rl with _|v12<;>rcases sW with _|xj<;>rcases uK with _|CB<;>rcases yl with _|xi<;>rcases ym with _|v17<;>try exact False.elim hP);exact(absurd (show false=true from hd) zz);exact(absurd (show false=true from hd) zz);exact(absurd (show false=true from hd) zz);exact(absurd (show false=true from hd) zz);(obtain⟨Xn,fp,rfl,rfl,rfl,rfl,gk,jZ,me,mf⟩:=hP;exact X.v (ji rfl rfl));(obtain⟨Xn,fp,b7,rfl,rfl,rfl,rfl,rfl,gk,jZ,me,mf,kh,sX⟩:=hP;exact X.v (ji rfl rfl));(obtain⟨Xn,fp,rfl,rfl,rfl,rfl,rfl,gk,jZ,me,mf⟩:=hP;exact X.v (ji rfl rfl));(obtain⟨Xn,fp,b7,rfl,rfl,rfl,rfl,rfl,rfl,gk,jZ,me,mf,kh,sX⟩:=hP;exact X.v (ji rfl rfl));(obtain⟨Xn,fp,b7,rfl,rfl,rfl,rfl,rfl,rfl,rfl,gk,jZ,me,mf,kh,sX⟩:=hP;exact X.v (ji rfl rfl))) LJ)))))))))))) (sp:=[_,some (ab fo.id),some (.agg (bJ (g0v fo))),_,some (.slice (some ⟨bl,ol,none⟩) cs.length lc),_,some (.slice (some ⟨ba,oa,none⟩) ((bP Z cs cs.length).map (·.2)).length tc),_,_,some (ab (i:Int)),_,some (.agg (cP c)),_,_,_,some (ab e),_,_]) ?_ ?_
 ·refine nc rfl rfl ?_ ?_
  ·intro cv L' H' hl hr hP F Q' hk;obtain⟨rl,sW,uK,yl,ym,rfl⟩:=tP hl;rcases rl with _|v12<;>rcases sW with _|xj<;>rcases uK with _|CB<;>rcases yl with _|xi<;>rcases ym with _|v17<;>try exact False.elim hP
   ·obtain⟨rfl,rfl⟩:=hP;refine zsd ?_;rintro W9 Xn fp cF xX ⟨gk,jZ,Jv⟩;try dsimp only at gk jZ Jv
    have Gt:=cF.lt (b4,_) A0;try dsimp only at Gt
    have Gu:=(cF.links w A2).size;have me:=dW.off Jv Gt;have mf:dW w.heap.size Xn:=⟨λq e=>.inr (eB Gu (Jv.1 q e)),λq e=>.inr (eB Gu (Jv.2 q e))⟩;exact OJ.done (hk _ _ _ ⟨Xn,fp,rfl,rfl,rfl,gk,jZ,me,mf⟩)
   ·obtain⟨b7,rfl,rfl,rfl,kh⟩:=hP;refine zsd ?_;rintro W9 Xn fp cF xX ⟨gk,jZ,Jv⟩;try dsimp only at gk jZ Jv
    have Gt:=cF.lt (b4,_) A1;try dsimp only at Gt
    have ay:=cF.lt (b7,_) A0;try dsimp only at ay
    have Gu:=(cF.links w A2).size;have me:=dW.off Jv Gt;have mf:dW w.heap.size Xn:=⟨λq e=>.inr (eB Gu (Jv.1 q e)),λq e=>.inr (eB Gu (Jv.2 q e))⟩;have sX:=dW.off Jv ay;exact OJ.done (hk _ _ _ ⟨Xn,fp,b7,rfl,rfl,rfl,rfl,gk,jZ,me,mf,kh,sX⟩)
   ·exact cQ
   ·exact cQ
   ·exact cQ
   ·exact cQ
   ·exact cQ
   ·exact cQ
   exact cQ
  refine nc rfl rfl ?_ ?_
  ·intro cv L' H' hl hr hP F Q' hk;obtain⟨rl,sW,uK,yl,ym,rfl⟩:=tP hl;rcases rl with _|v12<;>rcases sW with _|xj<;>rcases uK with _|CB<;>rcases yl with _|xi<;>rcases ym with _|v17<;>try exact False.elim hP
   ·exact cQ
   ·exact cQ
   ·obtain⟨Xn,fp,rfl,rfl,rfl,gk,jZ,me,mf⟩:=hP;refine B 1 ?_;exact OJ.done (hk _ _ _ ⟨Xn,fp,rfl,rfl,rfl,rfl,gk,jZ,me,mf⟩)
   ·obtain⟨Xn,fp,b7,rfl,rfl,rfl,rfl,gk,jZ,me,mf,kh,sX⟩:=hP;refine B 1 ?_;exact OJ.done (hk _ _ _ ⟨Xn,fp,b7,rfl,rfl,rfl,rfl,rfl,gk,jZ,me,mf,kh,sX⟩)
   ·exact cQ
   ·exact cQ
   ·exact cQ
   ·exact cQ
   exact cQ
  refine nc rfl rfl ?_ ?_
  ·intro cv L' H' hl hr hP F Q' hk;obtain⟨rl,sW,uK,yl,ym,rfl⟩:=tP hl;rcases rl with _|v12<;>rcases sW with _|xj<;>rcases uK with _|CB<;>rcases yl with _|xi<;>rcases ym with _|v17<;>try exact False.elim hP
   ·exact cQ
   ·exact cQ
   ·exact cQ
   ·exact cQ
   ·obtain⟨Xn,fp,rfl,rfl,rfl,rfl,gk,jZ,me,mf⟩:=hP;refine B 1 ?_;exact OJ.done (hk _ _ _ ⟨Xn,fp,rfl,rfl,rfl,rfl,rfl,gk,jZ,me,mf⟩)
   ·obtain⟨Xn,fp,b7,rfl,rfl,rfl,rfl,rfl,gk,jZ,me,mf,kh,sX⟩:=hP;refine B 1 ?_;exact OJ.done (hk _ _ _ ⟨Xn,fp,b7,rfl,rfl,rfl,rfl,rfl,rfl,gk,jZ,me,mf,kh,sX⟩)
   ·exact cQ
   ·exact cQ
   exact cQ
  refine nc rfl rfl ?_ ?_
  ·intro cv L' H' hl hr hP F Q' hk;obtain⟨rl,sW,uK,yl,ym,rfl⟩:=tP hl;rcases rl with _|v12<;>rcases sW with _|xj<;>rcases uK with _|CB<;>rcases yl with _|xi<;>rcases ym with _|v17<;>try exact False.elim hP
   ·obtain⟨rfl,rfl⟩:=hP;refine B 1 ?_;intro b7 ha ho;exact OJ.done (hk _ _ _ ⟨b7,rfl,rfl,rfl,(ha.mem w3 zI)⟩)
   ·exact cQ
   ·obtain⟨Xn,fp,rfl,rfl,rfl,gk,jZ,me,mf⟩:=hP;refine B 1 ?_;intro b7 ha ho;have sX:vD b7 Xn:=jZ.off (by have:=ha.not (w:=fp) A0;omega);exact OJ.done (hk _ _ _ ⟨Xn,fp,b7,rfl,rfl,rfl,rfl,gk,jZ,me,mf,(ha.mem w3 zI),sX⟩)
   ·exact cQ
   ·obtain⟨Xn,fp,rfl,rfl,rfl,rfl,gk,jZ,me,mf⟩:=hP;refine B 1 ?_;intro b7 ha ho;have sX:vD b7 Xn:=jZ.off (by have:=ha.not (w:=fp) A0;omega);exact OJ.done (hk _ _ _ ⟨Xn,fp,b7,rfl,rfl,rfl,rfl,rfl,gk,jZ,me,mf,(ha.mem w3 zI),sX⟩)
   ·exact cQ
   ·obtain⟨Xn,fp,rfl,rfl,rfl,rfl,rfl,gk,jZ,me,mf⟩:=hP;refine B 1 ?_;intro b7 ha ho;have sX:vD b7 Xn:=jZ.off (by have:=ha.not (w:=fp) A0;omega);exact OJ.done (hk _ _ _ ⟨Xn,fp,b7,rfl,rfl,rfl,rfl,rfl,rfl,gk,jZ,me,mf,(ha.mem w3 zI),sX⟩)
   ·exact cQ
   exact cQ
  refine nc rfl rfl ?_ ?_
  ·intro cv L' H' hl hr hP F Q' hk;obtain⟨rl,sW,uK,yl,ym,rfl⟩:=tP hl;rcases rl with _|v12<;>rcases sW with _|xj<;>rcases uK with _|CB<;>rcases yl with _|xi<;>rcases ym with _|v17<;>try exact False.elim hP
   ·exact cQ
   ·exact cQ
   ·exact cQ
   ·exact cQ
   ·exact cQ
   ·exact cQ
   ·exact cQ
   ·obtain⟨Xn,fp,b7,rfl,rfl,rfl,rfl,rfl,rfl,gk,jZ,me,mf,kh,sX⟩:=hP;refine B 1 ?_;exact OJ.done (hk (.tuple #[]) _ _ ⟨Xn,fp,b7,rfl,rfl,rfl,rfl,rfl,rfl,rfl,gk,jZ,me,mf,kh,sX⟩)
   exact cQ
  exact nn
 intro cv L' H' hl hr hP;obtain⟨rl,sW,uK,yl,ym,rfl⟩:=tP hl;rcases rl with _|v12<;>rcases sW with _|xj<;>rcases uK with _|CB<;>rcases yl with _|xi<;>rcases ym with _|v17
 ·exact cQ
 ·exact cQ
 ·exact cQ
 ·exact cQ
 ·exact cQ
 ·exact cQ
 ·exact cQ
 ·exact cQ
 ·exact cQ
 ·exact cQ
 ·exact cQ
 ·exact cQ
 ·exact cQ
 ·exact cQ
 ·exact cQ
 ·exact cQ
 ·exact cQ
 ·exact cQ
 ·exact cQ
 ·exact cQ
 ·exact cQ
 ·exact cQ
 ·exact cQ
 ·exact cQ
 ·exact cQ
 ·exact cQ
 ·exact cQ
 ·exact cQ
 ·exact cQ
 ·exact cQ
 ·exact cQ
 obtain⟨Xn,fp,b7,rfl,rfl,rfl,rfl,rfl,rfl,rfl,gk,jZ,me,mf,kh,sX⟩:=hP;refine B 4 ?_;refine CJ.less (E':=[(0,_),(1,_),(2,_),(3,_),(4,_),(5,_),(6,_),(7,_),(8,_),(9,_),(10,_),(11,_),(12,_),(13,_),(14,_),(15,_),(17,_),(18,_),(19,_),(20,_),(21,_),(22,_),(23,_),(24,_),(25,_),(26,_),(27,_),(28,_),(29,_),(30,_),(31,_),(32,_)]) zR ?_;refine CJ.chn 21 [20] [_,some (.slice (some ⟨ba,oa,none⟩) ((bP Z cs cs.length).map (·.2)).length tc),_,_,some (ab (i:Int)),_,some (.slice (some ⟨bl,ol,none⟩) cs.length lc),_,some (.slice (some ⟨ba,oa,none⟩) ((bP Z cs cs.length).map (·.2)).length tc),_,_,some (ab (i:Int)),_,some (.agg (cP c)),_,some (.agg (dg fo.first)),some (.agg (bJ Xn)),some (.agg (jl (⟨(i:Int),c,fo.first,0,Xn⟩:Cd))),_,_,none] (λcv L' H'=>match cv with| []=>L'=[fp,w3,w2,w]/\H'=[(b7,oC (bJ Xn) 53),(b4,oC (jl zCd) 159)]| [v1]=>v1= .tuple #[]/\L'=[fp,w3,w2,w]/\H'=[(b7,oC (bJ Xn) 53),(b4,oC (jl (⟨(i:Int),c,fo.first,0,Xn⟩:Cd)) 159)]|_=>False) (pc (by exact λcv L' H' hd hP=>X.v (cX underlying156 rfl sizeOf55 rfl)) (pc Jw (pc zL (pc zCb (pc Jw (pc (by exact λcv L' H' hd hP=>X.v (cX underlying156 rfl sizeOf24 rfl)) (pc Jw (pc (by exact λcv L' H' hd hP=>X.v (cX underlying156 rfl sizeOf55 rfl)) (pc Jw (pc zL (pc zCb (pc Jw (pc zyc (pc Jw (pc (by exact λcv L' H' hd hP=>X.v (cX underlying97 rfl sizeOf33 rfl)) (pc Jw (pc Jw (pc (by exact λcv L' H' hd hP=>X.v (vF underlying159 zeroValue159 (qq.c sizeOf3 (qq.c sizeOf61 (qq.c sizeOf33 (qq.c sizeOf3 (qq.c sizeOf53 (qq.n)))))) rfl rfl)) (pc zL (pc (by exact λcv L' H' hd hP=>X.v (kZ rfl rfl)) (pk (pn)))))))))))))))))))))) ?_ ?_
 ·exact z3g
 intro cv L' H' hl hP;obtain⟨v1,rfl⟩:=jK hl;obtain⟨rfl,rfl,rfl⟩:=hP;refine B 4 ?_;have sU:LV Z cs fo=some i:=by unfold LV;rw[hk,if_neg aa,xU,hq,KB,LU,xU]
 have aE:iT cs i=c:=by unfold iT;rw[hc];rfl
 refine bS (.inl rfl) results62 bD λW hS=>⟨((⟨(i:Int),c,fo.first,0,Xn⟩:Cd),decide (e=0)),rfl,hS.base A3 zD,?_⟩;by_cases WK:e=0
 ·refine .inl ⟨decide_eq_true WK,by unfold sV;rw[sU,Option.bind_some,aE,he,if_pos WK];rfl,⟨Int.natCast_nonneg _,hc,gk.trans (if_pos (by rw[he];exact WK)),by rw[<-WK];exact he⟩,jZ.toO hS A0 (aj _) (λp hp=>?_),mf⟩;simp only[dA,eh,cd,dZ,or_false]at hp;rcases hp with rfl|rfl
  ·exact sX
  exact me
 exact .inr ⟨decide_eq_false WK,by unfold sV;rw[sU,Option.bind_some,aE,he,if_neg WK]⟩
def Jx (cs:List Cm) (e:Int):Nat:=(cs.filter λc=>decide (e<c.epoch)).length
theorem SE(cs:List Cm)(e:Int):Jx cs e<=cs.length:=Sd _ _
theorem nAl(e:Int):∀cs:List Cm,Jx cs (e+1)<=Jx cs e
 | []=>aj _
 |c::cs=>by
  have ih:=nAl e cs;unfold Jx at ih ⊢;by_cases h1:e+1<c.epoch
  ·rw[SF Du,SF mZ];simp only[dI];omega
  rw[aCr Du];by_cases h2:e<c.epoch
  ·rw[SF Lb];simp only[dI];omega
  rw[aCr Lb];exact ih
theorem nXm{e:Int}{c:Cm}(he:c.epoch=e+1):∀{cs:List Cm},c∈cs->Jx cs (e+1)<Jx cs e
 | [],h=>by cases h
 |b::cs,h=>by
  rcases cd.1 h with rfl|h
  ·have ih:=nAl e cs;unfold Jx at ih ⊢;rw[aCr mZ,SF mZ];simp only[dI];omega
  have ih:=nXm he h;unfold Jx at ih ⊢;by_cases h1:e+1<b.epoch
  ·rw[SF Du,SF mZ];simp only[dI];omega
  rw[aCr Du];by_cases h2:e<b.epoch
  ·rw[SF Lb];simp only[dI];omega
  rw[aCr Lb];exact ih
theorem Gw(h:c∈cs):1+Jx cs c.epoch<=cs.length:=by
 have h1:=nXm (e:=c.epoch-1) (c:=c) aa h;rw[show c.epoch-1+1=c.epoch by omega]at h1;have:=SE cs (c.epoch-1);omega
theorem ntf(h:iB Z g c=0):c.epoch=g.epoch+1:=by grind [iB,lG]
def ChG (Z:Fx) (cs:List Cm):Gp->List (Nat×Gp)->Prop
 |g,[]=>wnI Z cs g=none
 |g,p::l=>wnI Z cs g=some p.1/\p.2=jY Z g (iT cs p.1)/\ChG Z cs p.2 l
def ChF (Z:Fx) (cs:List Cm) (fo:Fo):List (Nat×Gp)->Prop
 | []=>sV Z cs fo=none
 |p::l=>sV Z cs fo=some p.1/\p.2=jY Z (g0 fo) (iT cs p.1)/\ChG Z cs p.2 l
def pR (d:Cd):Nat×Gp:=(jH d,d.x.g)
def xk (Y:aJ) (x:Gv):Prop:=(∀q,x.ma=some q->x.g.ms=[]\/¬Y q.block)/\(∀q,x.na=some q->x.g.ns=[]\/¬Y q.block)
theorem dW.out{Y:aJ}(h:dW K x)(hy:∀k,Y k->k<K):xk Y x:=⟨λq e=>(h.1 q e).imp id (λh h2=>by have:=hy _ h2;omega),λq e=>(h.2 q e).imp id (λh h2=>by have:=hy _ h2;omega)⟩
theorem dW.offb(h:dW K x)(hb:b<K):vD b x:=⟨λq e=>(h.1 q e).imp id (λh=>by omega),λq e=>(h.2 q e).imp id (λh=>by omega)⟩
theorem xk.up{Y J:aJ}(h:xk Y x)(ha:cj N w x)(hy:∀k,J k->Y k\/N<=k):xk J x:=
 ⟨λq e=>by
  rcases h.1 q e with h1|h1
  ·exact .inl h1
  rcases ha.ms.ltq q e with h2|h2
  ·exact .inl h2
  exact .inr (λh3=>(hy _ h3).elim h1 (λh4=>by omega)),
  λq e=>by
   rcases h.2 q e with h1|h1
   ·exact .inl h1
   rcases ha.ns.ltq q e with h2|h2
   ·exact .inl h2
   exact .inr (λh3=>(hy _ h3).elim h1 (λh4=>by omega))⟩
structure ChS (Z:Fx) (cs:List Cm) (fo:Fo) (M:aJ) (pre:List Cd) (d:Cd) (V:aJ) (wk:World) (b4:Nat):Prop where
 next:∀l,ChG Z cs d.x.g l->ChF Z cs fo (pre.map pR++pR d::l)
 lies:cj wk.heap.size wk d.x
 out:xk (λk=>M k\/V k) d.x
 off:vD b4 d.x
 mu:pre.length+1+Jx cs d.x.g.epoch<=cs.length
theorem vC.nx(h:vC Z cs g d):d.x.g=jY Z g (iT cs (jH d)):=by rw[h.x];unfold iT;rw[h.at_];rfl
variable {fo:Fo}
theorem ChS.first{M:aJ}{w9:World}{b4:Nat}(h:sV Z cs fo=some (jH d))(hd:vC Z cs (g0 fo) d)(ha:cj w9.heap.size w9 d.x)(hn:dW K d.x)(hM:∀k,M k->k<K)(hb:w9.heap.size<=b4):ChS Z cs fo M [] d (λ_=>False) w9 b4 where
 next:=λl hl=>⟨h,hd.nx,hl⟩
 lies:=ha
 out:=hn.out (λk hk=>hk.elim (hM k) (λh=>h.elim))
 off:=ha.off hb
 mu:=by
  have h1:=Gw (cu hd.at_);rw[hd.x];simp only[fJ,jY];omega
theorem ChS.step{M V V2:aJ}{pre:List Cd}{d2:Cd}{wk w9:World}{b4 b5:Nat}(hc:ChS Z cs fo M pre d V wk b4)(h:wnI Z cs d.x.g=some (jH d2))(hd:vC Z cs d.x.g d2)(ha:cj w9.heap.size w9 d2.x)(hn:dW K d2.x)(hM:∀k,M k->k<K)(hV:∀k,V2 k->k<K)(hb:b5<K):ChS Z cs fo M (pre++[d]) d2 V2 w9 b5 where
 next:=λl hl=>by
  have h1:=hc.next (pR d2::l) ⟨h,hd.nx,hl⟩;rw[gN,iY];exact h1
 lies:=ha
 out:=hn.out (λk hk=>hk.elim (hM k) (hV k))
 off:=hn.offb hb
 mu:=by
  have h1:=hc.mu;have h2:=ntf hd.ok;have h3:=nXm h2 (cu hd.at_);rw[hd.x];simp only[cB,dI,fJ,jY,h2];omega
def aax (NQ NR NX:Nat):aJ:=λk=>k<NX/\(k<NQ\/NR<=k)
structure PlB (Z:Fx) (cs:List Cm) (la ia ta:Option Addr) (ic tc NQ NR NX:Nat) (W:World):Prop where
 q:NQ<=NX
 x:NX<=W.heap.size
 n3:6<=NQ
 sl:ai cP 73 NQ W la cs
 C:∀c∈cs,dC NQ W c
 p:pP Z cs NX W ⟨ia,ic,ta,tc⟩
 pi:∀q,ia=some q->NR<=q.block
 pt:∀q,ta=some q->NR<=q.block
 g:Glb W
theorem PlB.same{la ia ta:Option Addr}{ic tc NQ NR J:Nat}{W':World}{M V:aJ}{I:World->Prop}{hM:∀k,M k->k<W.heap.size/\¬(λ_=>False) k/\¬aax NQ NR J k}{hI:gu (λk=>(k<W.heap.size/\¬(λ_=>False) k)\/V k) I}(h:PlB Z cs la ia ta ic tc NQ NR J W)(hS:St (dF hM V hI) L H W')(hw:W∈L)(hV:∀k,V k->W.heap.size<=k)(ho:Over W.heap.size H):∀k,aax NQ NR J k->W'.heap[k]? =W.heap[k]? :=λk hk=>by
 have hx:=h.x;have JV:=hk.1
 refine(hS.links W hw).block k aa ?_;rintro((h1|h1)|h1)
 ·exact(hM k h1).2.2 hk
 ·have:=hV k h1;omega
 obtain⟨p,hp,rfl⟩:=bU.1 h1;have:=ho.mem p hp;omega
theorem CJ.resnap{C:Cx}{c:Code}{Q:bE}{E:Env}{D:List Deferred}{G:Gh}{L':List World}{o:Obj}(hi:H[i]? =some (b,o))(hb:ah L' b)(J:∀w∈L',w∈L)(k:∀W,St G L H W->CJ C c Q E D G (W::L') (H.eraseIdx i)):CJ C c Q E D G L H:=
 λa W hN hD hF hS=>k W hS a W hN hD hF ((hS.lessL J).dropAt hi hb).snap

def tS (c:Cm):Bool:=c.bxs.all (λx=>decide (x.w.body.length<=200))&&c.wes.all (λx=>decide (x.w.body.length<=200))&&decide (c.chs.length<=10)&&decide (c.path.length<=12)&&decide (c.bxs.length<=40)&&decide (c.wes.length<=10)
section
variable {α:Type}{f:α->Bool}{xs:List α}
include α f
theorem npg{x:α}(h:(xs.take j).all f=true)(hx:xs[j]? =some x)(hf:f x=true):(xs.take (j+1)).all f=true:=by rw[np hx,List.all_append,h];simp[hf]
theorem nsh(h:(xs.take j).all f=true)(hj:¬j<xs.length):xs.all f=true:=by rw[iC aa]at h;exact h
theorem njb{x:α}(hx:xs[j]? =some x)(hf:f x=false):xs.all f=false:=by grind
end
theorem nTj(l:List Ch)(a:Option Addr)(c:Nat)(w:World):Calls prog 91 #[.slice a l.length c] w (aU w (.bool (decide (l.length<=10)))):=by
 refine ei 14 func91 ntmps91 ?_;refine aL results91 rfl A0 ?_;exact vb (by rw[D8];simp;omega)
theorem LW(c:Cm)(N:Nat)(w:World)(hN:N<=w.heap.size)(hC:dC N w c)(jq:c.bxs.length<=9223372036854775807)(a8:c.wes.length<=9223372036854775807):Calls prog 46 #[.agg (cP c)] w (aU w (.bool (tS c))):=by
 refine eN func46 ntmps46 ?_;refine cK 2 ?_;intro b1 w1 hb1 cN gV gb jJ;refine B 10 ?_;refine CJ.lp (α:=Nat) [1] (λj=>[(3,ab (j:Int))]) (λj=>[]) (λj=>j<=c.bxs.length/\(c.bxs.take j).all (λx:Bx=>decide (x.w.body.length<=200))=true) (λj=>c.bxs.length-j) 0 ⟨cO _,rfl⟩ ?_;rintro j ⟨hj,yk⟩;refine aG 10 ?_ ?_
 ·intro av;refine B 5 ?_;obtain⟨b0,o0,ay,t0,fg,ez,az,bX,aR⟩:=hC.bxs.get aa;obtain⟨y,hy⟩:=ng c.bxs j aa;refine B 2 ?_;refine rq (.slice (some ⟨b0,o0,none⟩) c.bxs.length c.bc) (ar isAgg56 rfl A0 hb1 cN trivial rfl) (congrArg (λq=>Value.slice q c.bxs.length c.bc) ez) ?_;refine B 4 ?_;refine rv rfl rfl rfl (ar (v:=.slice y.w.ba y.w.body.length y.w.bc) isAgg106 rfl A1 bX zH trivial (by have:=uA aR hy rfl 3 zz;simpa[tM]using this)) ?_;refine aG 4 ?_ ?_
  ·intro aS;refine B 11 ?_;exact WL
  intro aS;refine B 8 ?_;refine ag (j+1) ⟨by omega,npg yk hy (decide_eq_true aa)⟩
 intro av;refine B 7 ?_;have qP:=nsh yk aa;refine B 5 ?_;refine CJ.lp (α:=Nat) [1] (λj=>[(4,ab (j:Int))]) (λj=>[]) (λj=>j<=c.wes.length/\(c.wes.take j).all (λx:We=>decide (x.w.body.length<=200))=true) (λj=>c.wes.length-j) 0 ⟨cO _,rfl⟩ ?_;rintro j ⟨hj,al⟩;refine aG 10 ?_ ?_
 ·intro dh;refine B 5 ?_;obtain⟨b0,o0,ay,t0,fg,ez,az,bX,aR⟩:=hC.wes.get aa;obtain⟨y,hy⟩:=ng c.wes j aa;refine B 2 ?_;refine rq (.slice (some ⟨b0,o0,none⟩) c.wes.length c.wc) (ar isAgg57 rfl A0 hb1 cN trivial rfl) (congrArg (λq=>Value.slice q c.wes.length c.wc) ez) ?_;refine B 4 ?_;refine rv rfl rfl rfl (ar (v:=.slice y.w.ba y.w.body.length y.w.bc) isAgg106 rfl A1 bX zH trivial (by have:=uA aR hy rfl 2 zz;simpa[vg]using this)) ?_;refine aG 4 ?_ ?_
  ·intro iR;refine B 11 ?_;exact WL
  intro iR;refine B 8 ?_;refine ag (j+1) ⟨by omega,npg al hy (decide_eq_true aa)⟩
 intro dh;refine B 6 ?_;have haw:=nsh al aa;refine B 3 ?_;refine call call91 rfl rfl rfl (λW hS=>nTj c.chs c.ca c.cc W) ?_;refine B 1 ?_;refine ni (t:=40) rfl (λJ=>?_) (λJ=>?_)
 ·replace J:=ya J;refine B 6 ?_;refine ni (t:=46) rfl (λkY=>?_) (λkY=>?_)
  ·replace kY:=ya kY;refine B 6 ?_;refine ni (t:=52) rfl (λjU=>?_) (λjU=>?_)
   ·replace jU:=ya jU;refine B 9 ?_;exact WL
   replace jU:=ya jU;refine B 9 ?_;exact WL
  replace kY:=ya kY;refine B 15 ?_;exact WL
 replace J:=ya J;refine B 21 ?_;exact WL
def CC (cs:List Cm):Bool:=decide (cs.length<=7)&&cs.all tS
structure Gx (c:Cm):Prop where
 b:c.bxs.length<=9223372036854775807
 w:c.wes.length<=9223372036854775807
theorem LX(cs:List Cm)(hlm:∀c∈cs,Gx c)(N:Nat)(la:Option Addr)(lc:Nat)(w:World)(hN:N<=w.heap.size)(aI:ai cP 73 N w la cs)(hC:∀c∈cs,dC N w c):Calls prog 25 #[.slice la cs.length lc] w (aU w (.bool (CC cs))):=by
 refine eN func25 ntmps25 ?_;refine aG 13 ?_ ?_
 ·intro av;refine B 7 ?_;exact zVg
 intro av;refine B 9 ?_;refine CJ.lp (α:=Nat) [0] (λj=>[(3,ab (j:Int))]) (λj=>[]) (λj=>j<=cs.length/\(cs.take j).all tS=true) (λj=>cs.length-j) 0 ⟨cO _,rfl⟩ ?_;rintro j ⟨hj,J⟩;refine aG 9 ?_ ?_
 ·intro aS;refine B 5 ?_;obtain⟨bl,ol,an,tl,al,rfl,jq,tR,mK⟩:=aI.get aa;obtain⟨c,hc⟩:=ng cs j aa;have Dy:=cu hc;refine aF 4 (.agg (cP c)) ?_;refine call call46 rfl rfl rfl (λW hS=>LW c N W cR ((hC c Dy).up (aj _) hS.sm) (hlm c Dy).b (hlm c Dy).w) ?_;refine aG 3 ?_ ?_
  ·intro dh;refine B 11 ?_;exact zVg
  intro dh;refine B 8 ?_;refine ag (j+1) ⟨by omega,npg J hc (by simpa using ‹_›)⟩
 intro aS;refine B 6 ?_;have cH:=nsh J aa;refine B 5 ?_;exact zVg

def SG:List TK:=mH 32 [.i]
theorem eqA33:u2 prog 2 33 SG:=u2.array underlying33 sizeOf5 rfl ((mU.int underlying5 isAgg5).up zz:mU prog 1 5 [.i])
theorem aay:prog.eqGuardType prog.depth 33=false:=by kernel_rfl
def aaz:List TK:=[.i]++([.i]++(SG++([.i]++([]))))
theorem Jy:u2 prog 3 35 aaz:=u2.struct underlying35 zN (pS.c rfl zz ((mU.int underlying3 isAgg3).up zz:mU prog 2 3 [.i]) (pS.c rfl zz ((mU.int underlying3 isAgg3).up zz:mU prog 2 3 [.i]) (pS.c rfl zz ((mU.agg isAgg33 sizeOf33 rfl eqA33).up zz:mU prog 2 33 SG) (pS.c rfl zz ((mU.int underlying3 isAgg3).up zz:mU prog 2 3 [.i]) (pS.n)))))
theorem LY:prog.eqGuardType prog.depth 35=false:=by kernel_rfl
def fq (x:Dk) (i:Nat):Int:=x.1.getD i 0
theorem DA(x:Dk):dk (fq x)=x:=by
 obtain⟨l,h⟩:=x
 match l,h with
 | [x0,x1,x2,x3,x4,x5,x6,x7,x8,x9,DB,Gy,rl,sW,uK,an,yl,ym,bu,al,ay,br,bh,J,bz,a8,az,bx,a6,bw,aE,aq],_=>rfl
structure Se where
 kind:Int
 pub:Int
 com:Dk
 lev:Int
instance:DecidableEq Se:=λa b=>decidable_of_iff (a.kind=b.kind/\a.pub=b.pub/\a.com=b.com/\a.lev=b.lev) (by cases a;cases b;simp)
def seA (s:Se):Array Value:=(ab s.kind::ab s.pub::lN (fq s.com) [ab s.lev]).toArray
def dX (s:Se):List Value:=(ab s.kind::ab s.pub::lN (fq s.com) [ab s.lev])
def cV (s:Se):Value:=.agg (seA s)
theorem n1m(s:Se):(seA s).toList=[ab s.kind,ab s.pub]++(s.com.1.map (Value.int .u8)++[ab s.lev]):=by
 obtain⟨k,p,c,l⟩:=s;obtain⟨f,rfl⟩:∃f,dk f=c:=⟨_,DA c⟩;rfl
theorem nv(s:Se):(dX s).length=35:=rfl
theorem Jz(s:Se):∀u∈dX s,u.oneCell'=true:=LD rfl
theorem JA(a b:Se):kM aaz (seA a).toList (seA b).toList=true:=rfl
theorem JB(a b:Se):oY (seA a).toList (seA b).toList=decide (a=b):=by
 rw[n1m,n1m,nFd (show([ab a.kind,ab a.pub]:List Value).length=([ab b.kind,ab b.pub]:List Value).length from rfl),nFd (by simp[a.com.2,b.com.2]),WH _ _ (by rw[a.com.2,b.com.2])];have e:decide (a=b)=(decide (a.kind=b.kind)&&decide (a.pub=b.pub)&&(decide (a.com.1=b.com.1)&&decide (a.lev=b.lev))):=by
  rw[D8];cases a;cases b
  simp[Subtype.ext_iff,and_assoc]
 all_goals grind [oY,Q0]
theorem LZ:xf prog 35 cV where
 und:=⟨_,underlying35,λk v=>by cases v<;>rfl⟩
 chk:=λb s W=>by
  show(Instr.checkKey b (9997+1+1+1) 35 _).run _ _=_;generalize 9997=n;refine SH (fs:=[_,_,_,_]) underlying35 λf hf=>?_;simp only[cd,dZ,or_false]at hf;rcases hf with rfl|rfl|rfl|rfl
  ·exact⟨by decide,_,nVl isAgg3 rfl,nok underlying3⟩
  ·exact⟨by decide,_,nVl isAgg3 rfl,nok underlying3⟩
  ·exact⟨by decide,.agg (lN (fq s.com) []).toArray,(SI isAgg33 sizeOf33).trans (congrArg (λq=>Result.ok (Value.agg q) W) (show cut (seA s) 2 32=_ from rfl)),GA underlying33 underlying5 sizeOf5 isAgg5 b _ rfl _⟩
  exact⟨by decide,_,nVl isAgg3 rfl,nok underlying3⟩
 eq:=λa b W=>by
  rw[<-JB];exact Jy 9997 _ _ W (JA a b)
 bits:=λs=>by
  show Instr.sameBits (9999+1) (cV s) (cV s)=true;generalize 9999=n;simp only[cV,seA,Instr.sameBits,beq_self_eq_true,Bool.true_and,List.zip_cons_cons,List.all_cons,List.zip_nil_right,List.all_nil,GB,Bool.and_self]
theorem L1:prog.info? 35=some Tryz.t35:=by kernel_rfl
theorem Pf:jM prog 38 35 35:=⟨underlying38,Tryz.t35,.agg (ab 0::ab 0::ui [ab 0]).toArray,L1,rfl,rfl,rfl,by decide⟩
def aN (p:Int):Se:=⟨1,p,dk λ_=>0,0⟩
def nj (d:Dk) (l:Int):Se:=⟨2,0,d,l⟩
def aP (d:Dk):Se:=⟨3,0,d,0⟩
theorem nPe(p:Int)(w:World):Calls prog 29 #[ab p] w (aU w (cV (aN p))):=by
 refine eN func29 ntmps29 ?_;refine bM 3 ?_;intro b2 J dH;refine B 10 ?_;refine cA (.inl rfl) results29 bD A0 zA ?_;rfl
theorem nkd(p:Int)(w:World):Calls prog 18 #[ab p] w (aU w (cV (aN p))):=by
 refine eN func18 ntmps18 ?_;refine bM 3 ?_;intro b2 J dH;refine B 10 ?_;refine cA (.inl rfl) results18 bD A0 zA ?_;rfl
theorem nsd(f:Nat->Int)(l:Int)(w:World):Calls prog 31 #[.agg (dg f),ab l] w (aU w (cV (nj (dk f) l))):=by
 refine eN func31 ntmps31 ?_;refine cK 2 ?_;intro b2 w2 dz bY ft J dH;refine bM 1 ?_;intro b4 iW iX;refine B 11 ?_;refine cA (.inl rfl) results31 bD A1 zA ?_;rfl
theorem nLc(f:Nat->Int)(w:World):Calls prog 97 #[.agg (dg f)] w (aU w (cV (aP (dk f)))):=by
 refine eN func97 ntmps97 ?_;refine cK 2 ?_;intro b1 w1 hb1 cN J gb jJ;refine bM 1 ?_;intro b2 dL dH;refine B 10 ?_;refine cA (.inl rfl) results97 bD A1 zA ?_;rfl
theorem L2(f:Nat->Int)(w:World):Calls prog 16 #[.agg (dg f)] w (aU w (cV (aP (dk f)))):=by
 refine eN func16 ntmps16 ?_;refine cK 2 ?_;intro b1 w1 hb1 cN J gb jJ;refine bM 1 ?_;intro b2 dL dH;refine B 10 ?_;refine cA (.inl rfl) results16 bD A1 zA ?_;rfl
theorem noi(p:Prop)[Decidable p]:(!decide p)=decide ¬p:=by simp
def GC {α:Type} (xs:List α) (p:α->Bool):Int:=match xs.findIdx? p with|some j=>(j:Int)|none=> -1
theorem SJ{α:Type}{p:α->Bool}{xs:List α}{x:α}(h:gE p xs j)(hx:xs[j]? =some x)(hp:p x=true):GC xs p=(j:Int):=by
 obtain⟨h1,h2⟩:=hJ.1 hx;have e:xs.findIdx? p=some j:=aqr.2 ⟨h1,by rw[h2];exact hp,λk hk=>by simp[h k xs[k] hk (ll aa)]⟩;simp[GC,e]
theorem aaD{α:Type}{p:α->Bool}{xs:List α}(h:gE p xs j)(hj:xs.length<=j):GC xs p= -1:=by
 have e:xs.findIdx? p=none:=List.findIdx?_eq_none_iff.2 λx hx=>by
  obtain⟨i,hi⟩:=ju.1 hx;exact h i x (by have:=nq hi;omega) hi
 simp[GC,e]
theorem nZl{α:Type}(p:α->Bool)(xs:List α):(GC xs p= -1/\∀x∈xs,p x=false)\/∃(j:Nat) (x:α),GC xs p=(j:Int)/\xs[j]? =some x/\p x=true/\gE p xs j:=by
 unfold GC;cases h:xs.findIdx? p with
 |none=>exact .inl ⟨rfl,λx hx=>by simpa using List.findIdx?_eq_none_iff.1 h x hx⟩
 |some j=>
  obtain⟨h1,h2,h3⟩:=aqr.1 h;refine .inr ⟨j,_,rfl,ll h1,h2,λi x hi hx=>?_⟩;have:=h3 i hi;rw[ll aa]at hx;cases hx
  simpa using this
theorem SK(s:Se)(xs:List Se):decide (0<=GC xs (λy=>decide (s=y)))=decide (s∈xs):=by grind [nZl]
variable {xs:List Se}
theorem nho{x s:Se}(hx:xs[j]? =some x)(h:x=s):true=decide (s∈xs):=by subst h;simp[cu hx]
theorem SL{s:Se}(h:gE (λy=>decide (y=s)) xs j)(hj:xs.length<=j):false=decide (s∈xs):=by
 symm;rw[decide_eq_false_iff_not];intro hm;obtain⟨i,hi⟩:=ju.1 hm;have:=h i s (by have:=nq hi;omega) hi;simp at this
def Al {α:Type} (xs ys:List α) (j:Nat):Prop:=xs.take j=ys.take j
theorem Al.next{α:Type}{xs ys:List α}{x y:α}(h:Al xs ys j)(hx:xs[j]? =some x)(hy:ys[j]? =some y)(e:x=y):Al xs ys (j+1):=by
 unfold Al at h ⊢;rw[np hx,np hy,h,e]
theorem nIf{α:Type}[DecidableEq α]{xs ys:List α}(h:Al xs ys j)(hl:xs.length=ys.length)(hj:xs.length<=j):true=decide (xs=ys):=by
 unfold Al at h;rw[iC hj,iC aa]at h;simp[h]
theorem nKh{α:Type}[DecidableEq α]{xs ys:List α}{x y:α}(hx:xs[j]? =some x)(hy:ys[j]? =some y)(e:x≠y):false=decide (xs=ys):=by grind
theorem nWf{α:Type}[DecidableEq α]{xs ys:List α}(h:xs.length≠ys.length):false=decide (xs=ys):=by grind
section
variable (xs:List Se)(hxl:xs.length<=1000000000)(N:Nat)(a:Option Addr)(cp:Nat)(w:World)(hN:N<=w.heap.size)(aI:ai seA 35 N w a xs)(s:Se)
include hxl cp hN aI s
theorem n2l:Calls prog 27 #[.slice a xs.length cp,cV s] w (aU w (ab (GC xs (λy=>decide (s=y))))):=by
 refine eN func27 ntmps27 ?_;refine cK 2 ?_;intro b3 w3 dE da gi eO fw;refine B 12 ?_;refine CJ.lp (α:=Nat) [0,3,7] (λj=>[(8,ab (j:Int))]) (λj=>[]) (λj=>j<=xs.length/\gE (λy=>decide (s=y)) xs j) (λj=>xs.length-j) 0 ⟨cO _,λi x hi=>absurd hi aa⟩ ?_;rintro j ⟨hj,dR⟩;refine aG 6 ?_ ?_
 ·intro av;refine B 11 ?_;obtain⟨bo,oo,J,to,fg,rfl,fh,bX,aR⟩:=aI.get aa;obtain⟨x,hx⟩:=ng xs j aa;refine eA 5 (sp:=[_,_,_,_,some (.agg (seA x))]) (k:=?_);refine rq (.bool (decide (s=x))) (hQ Jy zz LY rfl rfl (JA _ _)) (vb (JB _ _)) ?_;refine aG 2 ?_ ?_
  ·intro aS;refine B 12 ?_;refine aL results27 rfl A1 ?_;exact congrArg ab zsc
  intro aS;refine B 7 ?_;exact zUh
 intro av;refine B 11 ?_;refine aL results27 rfl A1 ?_;exact congrArg ab zsc
theorem nyn:Calls prog 28 #[.slice a xs.length cp,cV s] w (aU w (.bool (decide (s∈xs)))):=by
 refine eN func28 ntmps28 ?_;refine cK 2 ?_;intro b3 w3 dE da gi eO J;refine B 7 ?_;refine C3 (f:=27) (cap:=[]) rfl call27 rfl rfl rfl (λW hS=>n2l xs hxl N a cp W cR (aI.up (aj _) hS.sm) s) ?_;refine B 5 ?_;refine aL results28 rfl A1 ?_;exact vb (SK s xs)
theorem nQc:Calls prog 13 #[.slice a xs.length cp,cV s] w (aU w (.bool (decide (s∈xs)))):=by
 refine eN func13 ntmps13 ?_;refine cK 2 ?_;intro b3 w3 dE da gi eO fw;refine B 10 ?_;refine CJ.lp (α:=Nat) [0,3] (λj=>[(5,ab (j:Int))]) (λj=>[]) (λj=>j<=xs.length/\gE (λy=>decide (y=s)) xs j) (λj=>xs.length-j) 0 ⟨cO _,λi x hi=>absurd hi aa⟩ ?_;rintro j ⟨hj,dR⟩;refine aG 9 ?_ ?_
 ·intro av;refine B 5 ?_;obtain⟨bo,oo,J,to,fg,rfl,fh,bX,aR⟩:=aI.get aa;obtain⟨x,hx⟩:=ng xs j aa;refine eA 5 (sp:=[_,_,_,some (.agg (seA x)),_]) (k:=?_);refine rq (.bool (decide (x=s))) (hQ Jy zz LY rfl rfl (JA _ _)) (vb (JB _ _)) ?_;refine aG 2 ?_ ?_
  ·intro aS;exact zNh
  intro aS;refine B 8 ?_;exact zUh
 intro av;exact zNh
end
theorem nFl(xs ys:List Se)(hxl:xs.length<=1000000000)(Kq:ys.length<=1000000000)(N:Nat)(a c:Option Addr)(cp cq:Nat)(w:World)(hN:N<=w.heap.size)(aI:ai seA 35 N w a xs)(wC:ai seA 35 N w c ys):Calls prog 19 #[.slice a xs.length cp,.slice c ys.length cq] w (aU w (.bool (decide (xs=ys)))):=by
 refine eN func19 ntmps19 ?_;refine aG 15 ?_ ?_
 ·intro av;refine B 7 ?_;exact zXh
 intro av;refine B 4 ?_;have hlen:xs.length=ys.length:=by omega
 refine B 5 ?_;refine zie ?_;rintro j ⟨hj,dR⟩;refine aG 9 ?_ ?_
 ·intro aS;refine B 5 ?_;obtain⟨bo,oo,al,to,fg,rfl,fh,bX,aR⟩:=aI.get aa;obtain⟨x,hx⟩:=ng xs j aa;obtain⟨bp,op,an,tp,az,rfl,AM,gW,J⟩:=wC.get aa;obtain⟨y,hy⟩:=ng ys j aa;refine eA 8 (sp:=[_,_,_,some (.agg (seA x)),_,_,_,some (.agg (seA y))]) (k:=?_);refine rq (.bool (decide (¬x=y))) (dV Jy zz LY rfl rfl (JA _ _)) (vb ((congrArg not (JB _ _)).trans (noi _))) ?_;refine aG 2 ?_ ?_
  ·intro dh;refine B 11 ?_;exact zXh
  exact z3h
 intro aS;refine B 11 ?_;exact zXh
theorem SM(x y:Dk):oY (vz x).toList (vz y).toList=decide (x=y):=by
 have h:=WH x.1 y.1 (by rw[x.2,y.2]);have e:decide (x=y)=decide (x.1=y.1):=by simp only[Subtype.ext_iff]
 rw[e,<-h];rfl
theorem SN(x y:Dk):kM (mH 32 [.i]) (vz x).toList (vz y).toList=true:=n8f 32 x.1 y.1 x.2 y.2
theorem nhp(xs ys:List Dk)(hxl:xs.length<=1000000000)(Kq:ys.length<=1000000000)(N:Nat)(a c:Option Addr)(cp cq:Nat)(w:World)(hN:N<=w.heap.size)(aI:ai vz 32 N w a xs)(wC:ai vz 32 N w c ys):Calls prog 24 #[.slice a xs.length cp,.slice c ys.length cq] w (aU w (.bool (decide (xs=ys)))):=by
 refine eN func24 ntmps24 ?_;refine aG 15 ?_ ?_
 ·intro av;refine B 7 ?_;exact zVh
 intro av;refine B 4 ?_;have hlen:xs.length=ys.length:=by omega
 refine B 5 ?_;refine zie ?_;rintro j ⟨hj,dR⟩;refine aG 9 ?_ ?_
 ·intro aS;refine B 5 ?_;obtain⟨bo,oo,al,to,fg,rfl,fh,bX,aR⟩:=aI.get aa;obtain⟨x,hx⟩:=ng xs j aa;obtain⟨bp,op,an,tp,az,rfl,AM,gW,J⟩:=wC.get aa;obtain⟨y,hy⟩:=ng ys j aa;refine eA 8 (sp:=[_,_,_,some (.agg (vz x)),_,_,_,some (.agg (vz y))]) (k:=?_);refine rq (.bool (decide (¬x=y))) (dV eqA33 zz aay rfl rfl (SN _ _)) (vb ((congrArg not (SM _ _)).trans (noi _))) ?_;refine aG 2 ?_ ?_
  ·intro dh;refine B 11 ?_;exact zVh
  exact z3h
 intro aS;refine B 11 ?_;exact zVh
section
variable (p:Se->Bool)(f:Nat)(cap:List Value)(aB:eV prog f)(xs:List Se)(hxl:xs.length<=1000000000)(N:Nat)(a:Option Addr)(cp:Nat)(w:World)(hN:N<=w.heap.size)(aI:ai seA 35 N w a xs)(hp:∀(j:Nat) (x:Se),xs[j]? =some x->∀W,Below w.heap.size w W->Calls prog f (.agg (seA x)::cap).toArray W (aU W (.bool (p x))))
include p f aB hxl cp hN aI hp
theorem nIl:Calls prog 99 #[.slice a xs.length cp,.func (.func f) #[] cap.toArray] w (dc w (λi:Int=>ab i) (λi _=>fE p xs i)):=by
 refine eN func99 ntmps99 ?_;refine VS ?_;rintro j ⟨hj,dR⟩;refine aG 6 ?_ ?_
 ·intro av;refine B 11 ?_;obtain⟨bo,oo,J,to,fg,rfl,fh,bX,aR⟩:=aI.get aa;obtain⟨x,hx⟩:=ng xs j aa;refine aF 5 (.agg (seA x)) ?_;refine VT ?_;refine uf ?_ ?_
  ·intro aS;refine B 12 ?_;refine sM (j:Int) results99 rfl A0 rfl ?_;exact VU
  exact VV
 intro av;refine B 11 ?_;refine sM (-1:Int) results99 rfl A0 rfl ?_;exact VW
theorem nfj:Calls prog 50 #[.slice a xs.length cp,.func (.func f) #[] cap.toArray] w (aU w (.bool (xs.any p))):=by
 refine ei 9 func50 ntmps50 ?_;refine ny (α:=Int) (v:=λi:Int=>ab i) (Φ:=λ_ i _=>fE p xs i) call99 rfl rfl rfl (λW hS=>nIl p f cap aB xs hxl N a cp W cR (aI.up (aj _) hS.sm) (λj x hx W2 hB=>hp j x hx W2 (((hS.links w A0).below KR).trans (hB.mono (hS.links w A0).size)))) ?_;intro Wi i wi J Fj hi;refine B 5 ?_;refine aL results50 rfl A1 ?_;exact vb hi.any
end
def xl:List Int->Int
 | []=>0
 |x::l=>if x=0 then xl l else x
theorem GD:∀{xs:List Int} {j:Nat} {x:Int},(∀(i:Nat) (y:Int),i<j->xs[i]? =some y->y=0)->xs[j]? =some x->x≠0->x=xl xs
 | [],_,_,_,h,_=>by simp at h
 |y::xs,0,x,_,h,hn=>by
  simp only[Ka,wK]at h;subst h;simp[xl,hn]
 |y::xs,j+1,x,h0,h,hn=>by
  have e:=h0 0 y aa rfl;unfold xl;rw[if_pos e];exact GD (j:=j) (λi z hi hz=>h0 (i+1) z aa (by simpa using hz)) BT hn
theorem nCo:∀{xs:List Int},(∀(i:Nat) (y:Int),xs[i]? =some y->y=0)->0=xl xs
 | [],_=>rfl
 |y::xs,h=>by
  unfold xl;rw[if_pos (h 0 y rfl)];exact nCo λi z hz=>h (i+1) z (by simpa using hz)
theorem ajT(xs:List Int)(b cap t:Nat)(cs:Array Value)(fr:Nat×Nat)(hl:xs.length<=1000)(w:World)(hb:w.heap[b]? =some (.cells cs t fr))(bX:∀(i:Nat) (x:Int),xs[i]? =some x->cs[i]? =some (ab x)):Calls prog 102 #[.slice (ao b) xs.length cap] w λe w'=>e= .returned (ab (xl xs))/\w'=w:=by
 refine Ge (vs:=[_]) func102 rfl ntmps102 rfl ?_;have hT:∀W',W'=w->St Gh.no [w] [] W':=λW' e=>by
  rw[e];exact O8 (by intro v hv;simp only[cd,dZ,or_false]at hv;subst hv;exact Below.refl _ _)
 refine Bd ?_;refine Sx ?_;refine Bd ?_;refine Sx ?_;refine CX.seq ?_;refine Bd ?_;refine O9 ?_;refine qo hT rfl rfl rfl (mG underlying55 rfl) ?_;refine O9 ?_;refine Gf ?_;refine CX.block ?_;refine CX.loop (α:=Nat) (λj=>[(3,ab 0),(6,.slice (ao b) xs.length cap),(7,ab (xs.length:Int)),(8,ab (j:Int))]) (λ_=>(· =w)) (λj=>j<=xs.length/\∀(i:Nat) (y:Int),i<j->xs[i]? =some y->y=0) (λj=>xs.length-j) 0 ⟨cO _,λi y h=>absurd h aa⟩ zR (λW e=>e) ?_;rintro j ⟨hj,hz⟩;refine Bd ?_;by_cases av:j<xs.length
 ·obtain⟨x,hx⟩:=ng xs j av;have hv:=bX j x hx;refine zgf ?_;refine qo hT rfl rfl rfl (bC underlying55 sizeOf3 rfl rfl aa aa) ?_;refine qo hT rfl rfl rfl (ar (v:=ab x) isAgg3 rfl A0 hb zH trivial (by simpa using hv)) ?_;refine Sx ?_;refine Bd ?_;refine O9 ?_;refine O9 ?_;by_cases aS:x=0
  ·refine qo hT rfl rfl rfl (RV.re (v':=bH) (dB rfl rfl) (vb (by simp[aS]))) ?_;refine zpf ?_;refine qo hT rfl rfl rfl (jw rfl rfl aa aa) ?_;refine O9 ?_;refine OX.done ?_;exact PX.again (j+1) ⟨by omega,λi y hi hy=>by by_cases e:i=j;(subst e;rw[hx]at hy;cases hy;exact aS);exact hz i y aa hy⟩ aa zR (λW' e=>e)
  refine qo hT rfl rfl rfl (RV.re (v':=cD) (dB rfl rfl) (vb (by simp[aS]))) ?_;refine Gf ?_;refine CX.condT rfl ?_;refine Bd ?_;refine O9 ?_;refine Sx ?_;refine zCe ?_;exact Be (.inl rfl) results102 rfl (λW' e=>⟨congrArg (λn=>Ending.returned (ab n)) (GD hz hx aS),e⟩)
 refine zGf ?_;refine O9 ?_;refine Sx ?_;refine CX.ret ?_;exact Be (.inl rfl) results102 rfl (λW' e=>⟨congrArg (λn=>Ending.returned (ab n)) (nCo (λi y hy=>hz i y (by have:=nq hy;omega) hy)),e⟩)
def mh (x y:Se):Int:=xl [dy x.kind y.kind,dy x.pub y.pub,Go.Lib.compareBytes (cM (fq x.com)) (cM (fq y.com)),dy x.lev y.lev]
theorem CO.or{α:Type}{f:α->α->Int}{g:α->α->List Int}(hf:CO f)(hg:CO λx y=>xl (g x y)):CO λx y=>xl (f x y::g x y):=by
 have:=hf.lex hg;exact this
theorem CO.ord:CO mh:=by
 have h4:CO λx y:Se=>xl [dy x.lev y.lev]:=by
  have e:(λx y:Se=>xl [dy x.lev y.lev])=λx y:Se=>dy x.lev y.lev:=by funext x y;simp only[xl];split<;>simp_all
  rw[e];exact CO.int.key (λx:Se=>x.lev)
 exact(CO.int.key (λx:Se=>x.kind)).or ((CO.int.key (λx:Se=>x.pub)).or ((CO.bytes.key (λx:Se=>cM (fq x.com))).or h4))
theorem Pg{X:Array Value}(hb:W.heap[b]? =some (.cells X t fr))(h:X[k]? =some v):W.cell? ⟨b,k,none⟩=some v:=by
 simp only[World.cell?,hb];exact h
theorem aaE{w':World}(h:Below w.heap.size w w'):∃q Ad,w'=Go.Sort.grow (w.drewN q) Ad:=by
 refine⟨w'.drawn-w.drawn,w'.heap.extract w.heap.size w'.heap.size,?_⟩;have e1:w.heap++w'.heap.extract w.heap.size w'.heap.size=w'.heap:=by
  apply Array.ext_getElem?;intro k;by_cases hk:k<w.heap.size
  ·rw[WM hk];exact(h.block k hk).symm
  rw[Array.getElem?_append_right aa,Array.getElem?_extract];have:=h.size;split
  ·rw[show w.heap.size+(k-w.heap.size)=k by omega]
  rw[Array.getElem?_eq_none aa]
 have e2:w.drawn+(w'.drawn-w.drawn)=w'.drawn:=by have:=h.drawn;omega
 have h1:=h.os;have h2:=h.tape;have h3:=h.output
 obtain⟨hp,tp,dn,os,op⟩:=w';obtain⟨WA,aq,J,ay,al⟩:=w;simp only[Go.Sort.grow,World.drewN]at *;all_goals grind
theorem nqn(x y:Se){b1 b2 t1 t2:Nat}{J xQ:Nat×Nat}(h1:W.heap[b1]? =some (.cells (seA x) t1 J))(h2:W.heap[b2]? =some (.cells (seA y) t2 xQ)):Calls prog 104 #[.slice (some ⟨b1,2,none⟩) 32 32,.slice (some ⟨b2,2,none⟩) 32 32] W (aU W (ab (Go.Lib.compareBytes (cM (fq x.com)) (cM (fq y.com))))):=by
 have key:∀(z:Se) (i:Nat) (h:i<(dk (fq z.com)).1.length),(seA z)[2+i]? =some (.int .u8 (dk (fq z.com)).1[i]):=by
  intro z i h;have h2:i<32:=by rw[(dk (fq z.com)).2]at h;exact h
  have e1:((dk (fq z.com)).1.map (Value.int .u8))[i]? =some (.int .u8 ((dk (fq z.com)).1[i]'h)):=by rw[oh,ll h];rfl
  have e2:(dg (fq z.com))[i]? =((dk (fq z.com)).1.map (Value.int .u8))[i]? :=by rw[<-nPn,Ez];rfl
  exact(vB (k:=2) (n:=32) (r:=dg (fq z.com)) rfl i h2).trans (e2.trans e1)
 have:=nEf (W:=W) (b1:=b1) (o1:=2) (c1:=32) (b2:=b2) (o2:=2) (c2:=32) (xs:=(dk (fq x.com)).1) (ys:=(dk (fq y.com)).1) (λi h=>Pg h1 (key x i h)) (λi h=>Pg h2 (key y i h));rw[(dk (fq x.com)).2,(dk (fq y.com)).2,nMi,nMi]at this;refine this.mono ?_;exact zdi
theorem ajU(a b c d:Int){n:Nat}(h:W.heap[n]? =some (.cells #[ab a,ab b,ab c,ab d] t fr)):Calls prog 102 #[.slice (ao n) 4 4] W (aU W (ab (xl [a,b,c,d]))):=by
 refine(ajT [a,b,c,d] n 4 t _ fr zI W h (by
  intro i x hi
  match i,hi with
  |0,hi=>exact congrArg (λq=>some (ab q)) (Option.some.inj hi)
  |1,hi=>exact congrArg (λq=>some (ab q)) (Option.some.inj hi)
  |2,hi=>exact congrArg (λq=>some (ab q)) (Option.some.inj hi)
  |3,hi=>exact congrArg (λq=>some (ab q)) (Option.some.inj hi))).mono ?_
 exact zdi
theorem GF(x y:Se)(w:World):Calls prog 54 #[cV x,cV y] w (aU w (ab (mh x y))):=by
 refine eN func54 ntmps54 ?_;refine cK 2 ?_;intro b2 w2 dz bY ft dL dH;refine yX ?_;intro b3 w3 dE da gi eO fw;refine B 4 ?_;refine eA 19 (pb:=by exact zU 4 (k:=by exact aM (nf call103 rfl rfl (λW hS _=>nxh _ _ W) (λ_=>rfl)) (zU 4 (k:=by exact aM (nf call103 rfl rfl (λW hS _=>nxh _ _ W) (λ_=>rfl)) (zU 1 (k:=by exact aM (X.v (RV.re (v':=.slice (some ⟨b2,2,none⟩) 32 32) (gd (h:=32) underlying33 sizeOf5 rfl rfl aa) rfl)) (zU 1 (k:=by exact aM (X.v (RV.re (v':=.slice (some ⟨b3,2,none⟩) 32 32) (gd (h:=32) underlying33 sizeOf5 rfl rfl aa) rfl)) (aM (nf call104 rfl rfl (λW hS _=>nqn x y (hS.old A1 dz bY trivial) (hS.old A0 dE da trivial)) (λ_=>rfl)) zT))))))))) (k:=?_);refine call call103 rfl rfl rfl (λW hS=>nxh _ _ W) ?_;refine ET ?_;refine yW ?_;intro VJ al J;refine call (v:=ab (mh x y)) call102 rfl rfl rfl (λW hS=>ajU _ _ _ _ (hS.own _ A0)) ?_;refine B 4 ?_;refine cA (.inl rfl) results54 bD A2 zA ?_;rfl
theorem aaF(x y:Se)(W:World):Calls prog 54 #[cV x,cV y] W λe w'=>e= .returned (ab (mh x y))/\∃q J,w'=Go.Sort.grow (W.drewN q) J:=(GF x y W).mono λe w' h=>⟨h.1,aaE h.2⟩
instance:Inhabited Se:=⟨aN 0⟩
abbrev gR (xs:List Se):List Se:=gY mh xs
theorem L3(xs:List Se):(gR xs).length=xs.length:=O1 CO.ord.swo xs
theorem nni:gR []=[]:=mF (L3 [])
theorem nvi(xs:List Se)(s:Se):s∈gR xs↔s∈xs:=(WC CO.ord.swo xs).mem_iff
theorem Pj(hl:xs.length<=1000000){cap:Nat}(bQ:(Rw.row b cap sp).Fit 35 xs)(h:W.heap[b]? =some (bj dX 35 xs sp)):Calls prog 59 #[.slice (ao b) xs.length cap,.func (.func 54) #[] #[]] W (λe w'=>∃J,e= .returned ((λ_=>.tuple #[]) (Rw.row b cap J))/\aT (· =b) W w'/\(Rw.row b cap J).Fit 35 (gR xs)/\w'.heap[b]? =some (bj dX 35 (gR xs) J)):=by
 have hc:=Go.Proofs.AnyQ.slices_SortFunc_eq Go.Proofs.Tryz.laySS 35 isAgg35 sizeOf35 dX nv Jz mh CO.ord.swo 54 #[] b 0 cap xs.toArray W (Go.Proofs.enters_of func54 zN rfl) (λ_ _ _ _ x y=>aaF x y _) (nnj nv h) (bB.1 h).1 mZ;change Calls prog 59 _ _ _ at hc;refine hc.mono ?_;rintro e w' ⟨rfl,n,os,rfl⟩;have hp:=ZS (n:=n) (os:=os) nv h (ys:=gR xs) (L3 xs);exact⟨sp,rfl,hp.1,by simp only[Rw.Fit,L3];exact bQ,hp.2⟩
def mL (xs:List Se):Nat->List Se
 |0=>[]
 |j+1=>match xs[j]? with
  |none=>mL xs j
  |some x=>if 0<j/\xs[j-1]? =some x then mL xs j else mL xs j++[x]
def GG (xs:List Se):List Se:=mL xs xs.length
theorem nXn{x y:Se}(hj:0<j)(hx:xs[j]? =some x)(hy:xs[j-1]? =some y)(e:x=y):mL xs (j+1)=mL xs j:=by grind [mL]
theorem GH{x y:Se}(hx:xs[j]? =some x)(hy:xs[j-1]? =some y)(e:x≠y):mL xs (j+1)=mL xs j++[x]:=by grind [mL]
theorem L4:mL xs 1=xs.take 1:=by
 cases xs with
 |nil=>rfl
 |cons x l=>rfl
theorem nCj(xs:List Se):∀(j:Nat) (s:Se),s∈mL xs j↔s∈xs.take j
 |0,s=>by simp[mL]
 |j+1,s=>by
  have ih:=nCj xs j;cases hx:xs[j]? with
  |none=>
   have e1:mL xs (j+1)=mL xs j:=by conv=>lhs;unfold mL;rw[hx]
   rw[e1,ih,iC (by have:=List.getElem?_eq_none_iff.1 hx;omega),iC (by have:=List.getElem?_eq_none_iff.1 hx;omega)]
  |some x=>
   rw[np hx,aY,fC];by_cases h:0<j/\xs[j-1]? =some x
   ·have e1:mL xs (j+1)=mL xs j:=by conv=>lhs;unfold mL;rw[hx];simp only;rw[if_pos h]
    rw[e1,ih];refine⟨.inl,λh1=>h1.elim id λh1=>?_⟩;subst h1;have:(xs.take j)[j-1]? =some s:=by rw[R0 aa];exact h.2
    exact cu this
   have e1:mL xs (j+1)=mL xs j++[x]:=by conv=>lhs;unfold mL;rw[hx];simp only;rw[if_neg h]
   rw[e1,aY,fC,ih]
theorem L5(xs:List Se)(s:Se):s∈GG xs↔s∈xs:=by unfold GG;rw[nCj,ur]
theorem L6(xs:List Se):∀j,(mL xs j).length<=j:=
 by intro x;induction x<;>(intros;grind [mL])
theorem L7(xs:List Se):(GG xs).length<=xs.length:=L6 xs _
def Am (xs:List Se) (j:Nat):Prop:=mL xs j=xs.take j
theorem Am.next{x y:Se}(h:Am xs j)(hx:xs[j]? =some x)(hy:xs[j-1]? =some y)(e:¬x=y):Am xs (j+1):=by
 unfold Am at h ⊢;rw[GH hx hy e,h,np hx]
theorem Am.end_(h:Am xs j)(hj:j=xs.length):GG xs=xs:=by
 subst hj;unfold GG;rw[show mL xs xs.length=xs.take xs.length from h,ur]
theorem n3g(h:xs.length<2):GG xs=xs:=by
 match xs,h with
 | [],_=>rfl
 | [x],_=>rfl
 |_::_::_,h=>simp at h;omega
def cI (xs:List Se):List Se:=GG (gR xs)
theorem xm(xs:List Se)(s:Se):s∈cI xs↔s∈xs:=(L5 _ _).trans (nvi _ _)
theorem ngg(xs:List Se):(cI xs).length<=xs.length:=by have:=L7 (gR xs);rw[L3]at this;exact this
theorem nhi:cI []=[]:=by unfold cI;rw[nni];rfl
theorem n2f{α:Type}{enc:α->List Value}{m o:Nat}{cur:List α}{x:α}(hm:∀x,(enc x).length=m)(hx:cur[o+k]? =some x){i:Int}(hi:i=(k:Int)):cut (iE enc cur++sp).toArray (o*m+i.toNat*m) m=(enc x).toArray:=by
 subst hi;have:=Sa (enc:=enc) (sp:=sp) hm hx;rw[xU,mx,qL]at this;rw[xU];exact this
theorem nMh{α:Type}{enc:α->List Value}{m o:Nat}{cur:List α}(hm:∀x,(enc x).length=m)(hj:o+k<cur.length){i:Int}(hi:i=(k:Int)):o*m+i.toNat*m+m<=(iE enc cur++sp).toArray.size:=by
 subst hi;have:=Sb (enc:=enc) (sp:=sp) hm hj;rw[xU,mx,qL]at this;rw[xU];exact this
theorem nym(n c:Nat)(w:World):Calls prog 58 #[.slice none n c] w (aD w dX 35 35 ([]:List Se) id):=by
 refine ei 9 func58 ntmps58 ?_;refine rr cD (vq underlying38 rfl rfl) ?_;refine B 10 ?_;exact nQ (H0:=[]) (H1:=[]) (r:=.nil) (.inl rfl) results58 bD A0 trivial rfl rfl True.intro rfl
theorem nkl(xs:List Se)(hxl:xs.length<=100000)(N:Nat)(q:Addr)(cp:Nat)(w:World)(hN:N<=w.heap.size)(aI:ai seA 35 N w (some q) xs):Calls prog 58 #[.slice (some q) xs.length cp] w (aD w dX 35 35 xs id):=by
 refine ei 9 func58 ntmps58 ?_;refine rr bH (vr underlying38 rfl rfl) ?_;refine B 7 ?_;refine DC ?_;refine yW ?_;intro b5 tr tu;refine B 1 ?_;refine apR (xs:=([]:List Se)) (zs:=xs) (enc:=dX) (m:=35) (H0:=[]) (H1:=[]) (sp:=[]) (by rfl) Pf nv rfl rfl rfl rfl (ck.sl nv Jz underlying38 A0 aI (λb hb=>⟨λh=>h,by simp only[bN,and_true];omega⟩)) ⟨aj _,rfl⟩ (.inr zB) mZ ?_;intro b7 Dm ZN um J;have FE:w.heap.size<=b7:=by rcases um with h|h;(omega);exact h.not A0
 rw[eY]at J ⊢;refine B 4 ?_;exact nQ (H0:=[]) (H1:=[]) (r:=.row b7 Dm ZN) (.inl rfl) results58 bD A0 (by simp only[eY,Over,and_true];omega) rfl J FE (by rfl)
theorem GI(xs:List Se)(hxl:xs.length<=100000)(N:Nat)(a:Option Addr)(cp:Nat)(w:World)(hN:N<=w.heap.size)(aI:ai seA 35 N w a xs):Calls prog 58 #[.slice a xs.length cp] w (aD w dX 35 35 xs id):=by
 cases a with
 |none=>
  have h0:xs=[]:=by rcases aI with h|⟨b,off,cs,t,fr,h,_⟩;(exact h);cases h
  subst h0;exact nym 0 cp w
 |some q=>exact nkl xs hxl N q cp w hN aI
theorem n5k(w:World):Calls prog 171 #[ak,ab 0,ab 0,.func (.func 54) #[] #[]] w (aU w (.tuple #[])):=by
 refine ei 8 func171 ntmps171 ?_;refine zGd ?_;rintro j _;refine B 5 ?_;refine wX ?_;exact cA (.inr rfl) results171 bD A0 trivial rfl
theorem n3o(l:Int)(w:World):Calls prog 105 #[ak,ab 0,ab 0,ab l,.func (.func 54) #[] #[]] w (aU w (.tuple #[])):=by
 refine ei 11 func105 ntmps105 ?_;refine zHd ?_;rintro j _;refine QK ?_;refine B 9 ?_;refine call call171 rfl rfl rfl (λW hS=>n5k W) ?_;refine B 7 ?_;exact cA (.inl rfl) results105 bD A0 trivial rfl
theorem n6h(w:World):Calls prog 59 #[ak,.func (.func 54) #[] #[]] w (aU w (.tuple #[])):=by
 refine eN func59 ntmps59 ?_;refine z0f ?_;refine call call105 rfl rfl rfl (λW hS=>n3o _ W) ?_;refine B 1 ?_;exact cA (.inr rfl) results59 bD A0 trivial rfl
theorem nmp(xs:List Se)(hxl:xs.length<=100000)(b cp:Nat)(sp:List Value)(w:World)(hb:w.heap[b]? =some (bj dX 35 xs sp))(bQ:(Rw.row b cp sp).Fit 35 xs):Calls prog 60 #[.slice (ao b) xs.length cp] w (λe w'=>∃bZ,e= .returned ((λr=>r.val (GG xs).length) (Rw.row b cp bZ))/\aT (· =b) w w'/\(Rw.row b cp bZ).Fit 35 (GG xs)/\w'.heap[b]? =some (bj dX 35 (GG xs) bZ)):=by
 have iL:=bQ.1;have eP:=bQ.2;have jq:=(bB.1 hb).1;refine nB (Gh.lent (· =b)) [(b,bj dX 35 xs sp)] (vs:=[_]) func60 rfl ntmps60 rfl (Eo hb) ?_;refine aG 13 ?_ ?_
 ·intro av;refine B 8 ?_;exact bS (.inl rfl) results60 bD λW hS=>⟨sp,by rw[n3g aa];rfl,hS.baseX A0 OH,by rw[n3g aa];exact bQ,by rw[n3g aa];exact hS.own _ A0⟩
 intro av;refine B 9 ?_;refine CJ.lp (α:=Nat) [0] (λj=>[(3,ab (j:Int))]) (λj=>[(b,bj dX 35 xs sp)]) (λj=>1<=j/\j<=xs.length/\Am xs j) (λj=>xs.length-j) 1 ⟨aj _,by omega,L4⟩ ?_;rintro j ⟨Vl,hj,sR⟩;refine aG 9 ?_ ?_
 ·intro aS;refine B 5 ?_;obtain⟨x,hx⟩:=ng xs j aa;obtain⟨y,hy⟩:=ng xs (j-1) aa;refine eA 9 (pb:=by exact zU 3 (k:=by exact aM (X.v (RV.re (v':=.agg (seA x)) (fO (i:=0) rfl isAgg35 sizeOf35 rfl (Sb nv aa)) (va (Sa (sp:=sp) nv hx)))) (zU 4 (k:=by exact aM (X.v (RV.re (v':=.agg (seA y)) (fO (i:=0) rfl isAgg35 sizeOf35 rfl (Sb nv aa)) (va (Sa (sp:=sp) nv hy)))) (ra rfl))))) (sp:=[_,_,_,_,_,_,some (ab ((j-1:Nat):Int)),_,_]) (k:=?_);refine rq (.bool (decide (x=y))) (hQ Jy zz LY rfl rfl (JA _ _)) (vb (JB _ _)) ?_;refine aG 2 ?_ ?_
  ·intro dh;refine B 4 ?_;refine rq (.slice (some ⟨b,j*35,none⟩) (xs.length-j) (cp-j)) (gy (l:=j) (h:=xs.length) underlying38 sizeOf35 rfl ⟨_,_,rfl,rfl⟩ rfl aa aa rfl) (by rw[if_neg aa,mx]) ?_;refine B 10 ?_;refine CJ.lp (α:=(Nat×List Se)×Nat) [0,4] (λp9=>[(3,ab (p9.1.1:Int)),(5,ab (p9.2:Int))]) (λp9=>[(b,bj dX 35 p9.1.2 sp)]) (λp9=>1<=p9.2/\p9.1.1<=j+p9.2-1/\p9.2<=xs.length-j/\p9.1.2.length=xs.length/\p9.1.2.take p9.1.1=mL xs (j+p9.2)/\p9.1.2.drop (j+p9.2-1)=xs.drop (j+p9.2-1)) (λp9=>xs.length-p9.2) ((j,xs),1) ⟨aj _,by dsimp only;omega,by dsimp only;omega,rfl,by dsimp only;rw[nXn aa hx hy cY];exact sR.symm,rfl⟩ ?_;rintro⟨⟨i2,cur⟩,k2⟩ ⟨JV,a6,WN,mB,vt,Aa⟩;dsimp only at JV a6 WN mB vt Aa ⊢;refine aG 9 ?_ ?_
   ·intro iR;refine B 5 ?_;obtain⟨x2,Jt⟩:=ng xs (j+k2) aa;obtain⟨y2,J⟩:=ng xs (j+k2-1) aa;obtain⟨aE,sa⟩:=ZP Aa J;rw[show j+k2-1+1=j+k2 by omega]at sa;obtain⟨wj,bL⟩:=ZP sa Jt;have aq:cur[j+(k2-1)]? =some y2:=by rw[show j+(k2-1)=j+k2-1 by omega];exact aE
    refine eA 9 (pb:=by exact zU 3 (k:=by exact aM (X.v (RV.re (v':=.agg (seA x2)) (fO (i:=0) rfl isAgg35 sizeOf35 rfl (nMh (o:=j) (k:=k2) nv aa rfl)) (va (n2f (sp:=sp) (o:=j) (k:=k2) nv wj rfl)))) (zU 4 (k:=by exact aM (X.v (RV.re (v':=.agg (seA y2)) (fO (i:=0) rfl isAgg35 sizeOf35 rfl (nMh (o:=j) (k:=(k2-1)) nv aa rfl)) (va (n2f (sp:=sp) (o:=j) (k:=(k2-1)) nv aq rfl)))) (ra rfl))))) (sp:=[_,_,_,_,_,_,some (ab ((k2-1:Nat):Int)),_,_]) (k:=?_);refine rq (.bool (decide (¬x2=y2))) (dV Jy zz LY rfl rfl (JA _ _)) (vb ((congrArg not (JB _ _)).trans (noi _))) ?_;refine aG 2 ?_ ?_
    ·intro gU;refine B 7 ?_;refine rq (.agg (seA x2)) (fO (i:=0) rfl isAgg35 sizeOf35 rfl (nMh (o:=j) (k:=k2) nv aa rfl)) (va (n2f (sp:=sp) (o:=j) (k:=k2) nv wj rfl)) ?_;refine B 1 ?_;refine Ls (enc:=dX) (m:=35) (i:=0) (j:=i2) (z:=x2) rfl nv Jz sizeOf35 rfl rfl rfl zI aa rfl rfl ?_;refine B 14 ?_;refine ag ((i2+1,cur.set i2 x2),k2+1) ⟨by dsimp only;omega,by dsimp only;omega,by dsimp only;omega,by dsimp only;rw[List.length_set];exact mB,by dsimp only;rw[nad aa,vt,<-Nat.add_assoc,GH Jt J cY],by dsimp only;rw[show j+(k2+1)-1=j+k2 by omega,n3d aa];exact sa⟩
    intro gU;refine B 8 ?_;refine ag ((i2,cur),k2+1) ⟨by dsimp only;omega,by dsimp only;omega,by dsimp only;omega,mB,by dsimp only;rw[vt,<-Nat.add_assoc,nXn aa Jt J (Decidable.not_not.1 cY)],by dsimp only;rw[show j+(k2+1)-1=j+k2 by omega];exact sa⟩
   intro iR;refine B 6 ?_;have Ab:j+k2=xs.length:=by omega
   have kC:cur.take i2=GG xs:=by rw[vt,Ab];rfl
   refine B 3 ?_;refine rq (.slice (some ⟨b,if cp=i2 then 0 else 0+i2*35,none⟩) (cur.drop i2).length (cp-i2)) (gy (l:=i2) (h:=xs.length) underlying38 sizeOf35 rfl ⟨_,_,rfl,rfl⟩ rfl aa aa rfl) (by rw[Cf,mB]) ?_;refine OJ.reH (H':=[(b,bj dX 35 (cur.take i2++cur.drop i2) sp)]) (by rw[Ba]) ?_;refine Bb (i:=0) rfl nv underlying38 zeroValue35 rfl (nuf rfl _) rfl rfl zqb ?_;intro Sc Ac;refine B 6 ?_;refine rq (.slice (ao b) (cur.take i2).length cp) (fM (h:=i2) underlying38 sizeOf35 rfl ⟨_,_,rfl,rfl⟩ aa) WB ?_;refine B 9 ?_;exact bS (.inl rfl) results60 bD λW hS=>⟨Sc,by rw[<-kC];rfl,hS.baseX A0 OH,by rw[<-kC];exact⟨by rw[kU];omega,by rw[Ac,Cf,kU,eP,Nat.min_eq_left aa,mB,<-qL];congr 1;omega⟩,by rw[<-kC];exact hS.own _ A0⟩
  intro dh;refine B 8 ?_;refine ag (j+1) ⟨by omega,by omega,sR.next hx hy cY⟩
 intro aS;refine B 12 ?_;exact bS (.inl rfl) results60 bD λW hS=>⟨sp,by rw[sR.end_ aa];rfl,hS.baseX A0 OH,by rw[sR.end_ aa];exact bQ,by rw[sR.end_ aa];exact hS.own _ A0⟩
theorem nck(w:World):Calls prog 60 #[ak] w (aU w (ak)):=by
 refine ei 10 func60 ntmps60 ?_;refine Jr ?_;refine aL results60 rfl A0 ?_;rfl
theorem nVg(xs:List Se)(hxl:xs.length<=100000)(N:Nat)(a:Option Addr)(cp:Nat)(w:World)(hN:N<=w.heap.size)(aI:ai seA 35 N w a xs):Calls prog 32 #[.slice a xs.length cp] w (aD w dX 35 35 (cI xs) id):=by
 refine ei 8 func32 ntmps32 ?_;refine Jh (enc:=dX) (m:=35) (t:=35) (xs:=xs) (v:=id) (first:=[]) (cap:=[]) rfl call58 rfl rfl rfl (λW hS=>GI xs hxl N a cp W cR (aI.up (aj _) hS.sm)) ?_;intro r aK ae;have bK:=Rw.ge_of aK A0;refine B 6 ?_;refine EU (r:=r) (enc:=dX) (m:=35) (t:=35) (xs:=xs) (ys:=gR xs) (H0:=[]) (H1:=[]) (v:=λ_=>.tuple #[]) rfl call59 rfl rfl rfl (λhr W hS=>?_) (λb cap sp hr W hS h=>?_) ?_
 ·exact zei
 ·subst hr;exact Pj aa ae h
 intro r2 gI lW rQ kz;have gO:=lW aK;have eE:=rQ _ bK;refine B 5 ?_;refine EU (r:=r2) (enc:=dX) (m:=35) (t:=35) (xs:=gR xs) (ys:=cI xs) (H0:=[]) (H1:=[]) (v:=λr=>r.val (cI xs).length) rfl call60 rfl rfl rfl (λhr W hS=>?_) (λb cap sp hr W hS h=>?_) ?_
 ·have J:=kz (xs).length;rw[<-J,<-L3 xs];subst hr;have h0:gR xs=[]:=gI;unfold cI;rw[h0];exact(nck W).mono λe w2 h=>⟨h.1,rfl,h.2⟩
 ·have J:=kz (xs).length;rw[<-J,<-L3 xs];subst hr;have e9:=L3 xs;exact nmp (gR xs) aa b cap sp W h gI
 intro r3 SO u7 EV EW;have KO:=u7 gO;have qe:=EV _ eE;refine B 4 ?_;exact nQ (H0:=[]) (H1:=[]) (r:=r3) (.inl rfl) results32 bD A0 (by rw[ec];exact Rw.over qe) rfl SO qe zI
def tU {K β:Type} [Inhabited K] (kv:List (K×β)) (j:Nat):K:=((kv[j]?).map (·.1)).getD default
theorem nvp{K β:Type}[Inhabited K]{kv:List (K×β)}{p:K×β}(hp:kv[j]? =some p)(js:List Nat):(js++[j]).map (tU kv)=js.map (tU kv)++[p.1]:=by simp[tU,hp]
theorem nrp{K β:Type}[Inhabited K]{kv:List (K×β)}{js:List Nat}(hd:js.Nodup)(hl:∀j∈js,j<kv.length)(cH:∀j,j<kv.length->j∈js):(js.map (tU kv)).Perm (kv.map (·.1)):=by
 have h1:js.Perm (List.range kv.length):=(List.perm_ext_iff_of_nodup hd List.nodup_range).2 λa=>⟨λh=>uu.2 (hl a h),λh=>cH a (uu.1 h)⟩;have h2:(List.range kv.length).map (tU kv)=kv.map (·.1):=by
  apply List.ext_getElem zI;intro i h3 h4;simp only[eK,List.length_range]at h3;simp[tU,h3]
 rw[<-h2];exact h1.map _
theorem nzh{K β:Type}{kv:List (K×β)}{js:List Nat}{jn:Nat}{pn:K×β}(hnd:js.Nodup)(qf:∀j∈js,j<kv.length)(wR:kv[jn]? =some pn)(tD:jn∉js):(js++[jn]).Nodup/\(∀j∈js++[jn],j<kv.length)/\js.length+1<=kv.length:=by
 exact zJg
theorem nip(mp:Option Nat)(w:World):Calls prog 53 #[.map mp] w (dc w (λb:Nat=>.func (.func 101) #[] #[ptr b 0]) (λb w1=>w.heap.size<=b/\w1.heap[b]? =some (oC #[.map mp] 137))):=by
 refine eN func53 ntmps53 ?_;refine cK 2 ?_;intro b1 w1 hb1 cN J gb jJ;refine B 10 ?_;refine sM b1 results53 rfl A1 rfl ?_;exact zLh
theorem nWo{kv:List (Se×Bool)}(J bx:Nat)(m:Mq)(hm:m.Ok kv)(W:World)(hb1:W.heap[bx]? =some (oC #[.map (some J)] 137))(tE:W.heap[J]? =some (m.obj cV Value.bool kv)):uS prog 101 [ptr bx 0] (λs:Se=>[cV s]) (λp=>p.length<=kv.length) (λxs=>xs.Perm (kv.map (·.1))) (λ_=>False) (λk=>k=bx\/k=J) W:=by
 intro l M I X0 hM hI hX hy h0;have cN:¬(dF hM (λ_=>False) (hI [] _)).X bx:=by rintro(h|h);exact(hM _ h).2.2 (.inl rfl);exact h.elim
 have B8:¬(dF hM (λ_=>False) (hI [] _)).X J:=by rintro(h|h);exact(hM _ h).2.2 (.inr rfl);exact h.elim
 have Ra:=(bB.1 tE).1;refine nB (dF hM (λ_=>False) (hI [] _)) [] (vs:=[_,_]) func101 rfl ntmps101 rfl (Oi hM (hI [] _) h0 zI (by simp[lS]) zI) ?_;refine B 3 ?_;refine aj5 (ek:=cV) (ev:=Value.bool) underlying137 (bF.old A0 tE B8 trivial) rfl rfl rfl ?_;intro rb wS YK;replace wS:=yb wS;refine B 3 ?_;refine CJ.loop (α:=List Nat×aJ) (λp=>[(0,yv l),(5,ptr rb 0)]) (λp=>[(rb,m.it J p.1)]) (λp=>[W]) (λp=>dF hM p.2 (hI (p.1.map (tU kv)) p.2)) (λp=>p.1.Nodup/\(∀j∈p.1,j<kv.length)/\∀k,p.2 k->W.heap.size<=k) (λp=>kv.length-p.1.length) ([],λ_=>False) ⟨List.nodup_nil,by simp,λ_ h=>h.elim⟩ ⟨rfl,rfl,trivial⟩ rfl rfl zI ?_;rintro⟨js,V⟩ ⟨hnd,qf,hV⟩;dsimp only at hnd qf hV ⊢;have B8:¬(dF hM V (hI (js.map (tU kv)) V)).X J:=by rintro(h|h);exact(hM _ h).2.2 (.inr rfl);have:=hV _ h;omega
 have YL:=YI kv.length js hnd qf;refine B 2 ?_;refine aaG (ek:=cV) (ev:=Value.bool) (i:=0) rfl hm (bF.old A0 tE B8 zy) qf rfl rfl rfl (λcH=>?_) (λjn pn wR tD=>?_)
 ·refine B 9 ?_;exact BX (.inr rfl) results101 A0 hV zJb (λA hA=>.inl ⟨_,nrp hnd qf cH,hA⟩)
 refine B 10 ?_;refine rv rfl rfl rfl (SP (ek:=cV) (ev:=Value.bool) (i:=0) rfl hm (bF.old A0 tE B8 zy) wR rfl) ?_;refine bM 2 ?_;intro b3 eO fw;refine aF 6 (cV pn.1) ?_;refine BW (λV=>hI (js.map (tU kv)++[pn.1]) V) hX hV zI rfl rfl rfl rfl (λW1 uT lM=>hy (js.map (tU kv)) (pn.1) V W1 (by have h9:=(nzh hnd qf wR tD).2.2;simp only[cB,eK,dI,fJ];omega) uT lM) ?_ ?_
 ·intro V hV;refine B 6 ?_;refine qD ?_;refine PJ.again (js++[jn],V) ⟨(nzh hnd qf wR tD).1,(nzh hnd qf wR tD).2.1,hV⟩ (by have h9:=(nzh hnd qf wR tD).2.2;simp only[cB,dI,fJ];omega) ⟨rfl,rfl,trivial⟩ rfl (by dsimp only;rw[nvp wR]) zI
 intro V hV;refine B 8 ?_;exact BX (.inl rfl) results101 A0 hV zJb (λA hA=>.inr hA)
variable {Fin Pre:List Se->Prop}
section
variable {f:Nat}(aB:eV prog f)(w:World)(pE:∀k,RO k->k<w.heap.size)(hlen:∀p,Pre p->p.length<=100000)(qE:∀W2,Below w.heap.size w W2->uS prog f cap (λs:Se=>[cV s]) Pre Fin (λ_=>False) RO W2)
include f aB pE hlen qE
theorem nxn:Calls prog 168 #[ak,.func (.func f) #[] cap.toArray] w (λe w'=>∃xs,Fin xs/\aD w dX 35 35 xs id e w'):=by
 refine Qq Gh.no [] (vs:=[_,_]) func168 rfl ntmps168 rfl (JW w) ?_;refine OI ?_;refine yW ?_;intro b2 dL dH;refine B 10 ?_;refine XI (f:=f) (cap:=cap) (α:=Se) (enc:=(λs:Se=>[cV s])) (Pre:=Pre) (Fin:=Fin) (RO:=RO) (MI:=λ_=>False) rfl aB (λW W2 hS hB=>qE W2 ((hS.links w A0).below (by simp only[dP,fu,cd,dZ,or_false,Gh.no,false_or];omega) |>.trans (hB.mono (hS.links w A0).size))) (λ_ _ _ hk=>hk.elim) (λW hS k hk=>by have h1:=pE k hk;have h2:=(hS.links w A0).size;exact⟨by omega,by simp only[dP,fu,cd,dZ,or_false];omega,λh=>h⟩) (λ_=>rfl) (λpre G' Hc=>G'=Gh.no/\∃r:Rw,r.Fr Gh.no [w]/\r.Fit 35 pre/\Hc=[(b2,oC #[r.val pre.length] 38)]++(r.hp dX 35 pre++[])) (λ_ _ _=>False) ⟨rfl,.nil,True.intro,rfl,rfl⟩ zz ?_ ?_ ?_
 ·rintro pre x G' Hc l Dk rec W1 M V Wy qd xN eM ⟨rfl,r,aK,ae,rfl⟩ jh mw Qs yG dO DZ;simp only[ah]at jh yG;have bK:r.ge w.heap.size:=Rw.ge_of aK A0;have gq:=hlen _ eM;simp only[cB,dI,fJ]at gq;have EM:∀p∈r.hp dX 35 pre,M p.1\/V p.1:=λp hp=>dO.loc.h p VF;refine bM 2 ?_;intro b5 tr tu;refine B 2 ?_;refine PJ.reH (H':=book ([(b5,oC (seA x) 35)]++([(b2,oC #[r.val pre.length] 38)]++(r.hp dX 35 pre++[]))) l rec (jj Dk)) rfl ?_;refine Om qd ?_;refine aF 3 (.agg (seA x)) ?_;refine DC ?_;refine yW ?_;intro fN lq oj;refine jV (r:=r) (xs:=pre) (zs:=[x]) (enc:=dX) (m:=35) (H0:=[(fN,oC (seA x) 35),(b5,oC (seA x) 35),(b2,oC #[r.val pre.length] 38)]) (H1:=(l,.loop {rec with state:=.busy})::jj Dk) zW Pf nv rfl rfl rfl rfl (ck.one (z:=x) nv Jz underlying38 (bF.own (i:=0) rfl)) ae (Rw.Fr_ext EM) zI za ?_;intro gD pF pG jL lu;replace jL:=yb jL;refine B 3 ?_;refine uI ?_;refine JY (G2:=Gh.no) (Hc2:=[(b2,oC #[(Rw.row gD pF pG).val (pre++[x]).length] 38)]++((Rw.row gD pF pG).hp dX 35 (pre++[x])++[])) dO mw ⟨λ_ h=>h,λ_ h=>.inl h,λ_ h=>.inl h,(VG rfl (jL.imp id (λh=>h.1))),zTc⟩ (JZ qd xN) ?_;exact zlh
 ·rintro J l Dk rec G' Hc ee jh mw ⟨rfl,r,aK,ae,rfl⟩;replace jh:=yb jh;have bK:r.ge w.heap.size:=Rw.ge_of aK A0;refine Q3 λWd yF=>?_;have oe:=VH yF;refine B 9 ?_;have hq:=λ(k:Nat)=>Rw.mem_ge (enc:=dX) (t:=35) (xs:=J) (k:=k) bK;refine PJ.reH (H':=(b2,oC #[r.val J.length] 38)::(r.hp dX 35 J++(l,.loop rec)::jj Dk)) VI ?_;refine B9 (.inl rfl) zI λa W H' hF hS eX aX=>?_;refine⟨_,by rw[results_tmp results168];exact congrArg (λu=>Result.ok u W) (hF 4 _ rfl),J,ee,r,rfl,?_,bK,ae,?_⟩
  ·refine(hS.links w A0).below λk hk hx=>?_;exact YA
  cases r with
  |nil=>trivial
  |row b cap sp=>exact hS.own _ (eX (b,bj dX 35 J sp) o8 (oe _ o8).1)
 exact Qt
theorem npp:Calls prog 100 #[.func (.func f) #[] cap.toArray] w (λe w'=>∃xs,Fin xs/\aD w dX 35 35 xs id e w'):=by
 refine ei 8 func100 ntmps100 ?_;refine VL (enc:=dX) (m:=35) (t:=35) (Fin:=Fin) (v:=id) call168 rfl rfl rfl (λW hS=>nxn aB W (λk hk=>qF (pE k hk) (hS.links w A0).size) hlen (λW2 hB=>qE W2 (((hS.links w A0).below KR).trans (hB.mono (hS.links w A0).size)))) ?_;intro xs r ee aK ae;refine B 4 ?_;exact bS (.inl rfl) results100 bD λW hS=>⟨xs,ee,r,rfl,hS.base A0 YB,Rw.ge_of aK A0,ae,by cases r with|nil=>exact True.intro|row b cap sp=>exact hS.own _ A0⟩
theorem nxl(kC:∀xs,Fin xs->xs.length<=100000):Calls prog 52 #[.func (.func f) #[] cap.toArray,.func (.func 54) #[] #[]] w (λe w'=>∃xs,Fin xs/\aD w dX 35 35 (gR xs) id e w'):=by
 refine ei 8 func52 ntmps52 ?_;refine VL (enc:=dX) (m:=35) (t:=35) (Fin:=Fin) (v:=id) call100 rfl rfl rfl (λW hS=>npp aB W (λk hk=>qF (pE k hk) (hS.links w A0).size) hlen (λW2 hB=>qE W2 (((hS.links w A0).below KR).trans (hB.mono (hS.links w A0).size)))) ?_;intro xs r ee aK ae;have hxl:=kC xs ee;have bK:=Rw.ge_of aK A0;refine B 7 ?_;refine EU (r:=r) (enc:=dX) (m:=35) (t:=35) (xs:=xs) (ys:=gR xs) (H0:=[]) (H1:=[]) (v:=λ_=>.tuple #[]) rfl call59 rfl rfl rfl (λhr W hS=>?_) (λb cap sp hr W hS h=>?_) ?_
 ·exact zei
 ·subst hr;exact Pj aa ae h
 intro r2 gI lW rQ J;have gO:=lW aK;have eE:=rQ _ bK;refine B 9 ?_;exact bS (.inl rfl) results52 bD λW hS=>⟨xs,ee,r2,by show Ending.returned (r.val _)=Ending.returned (r2.val _);rw[<-J,L3],hS.base A0 (by rw[ec];exact Rw.over eE),eE,gI,by cases r2 with|nil=>exact True.intro|row b cap sp=>exact hS.own _ A0⟩
end
noncomputable def cJ (ns:List Nd) (node:Int):Option Int:=aH (dq ns) node
noncomputable def aj6 (o:Option Int):Value:=.tuple #[ab (o.getD 0),.bool o.isSome]
theorem L8(o:Option Int):((o.map ab).getD (ab 0))=ab (o.getD 0):=by cases o<;>rfl
theorem nUb(ns:List Nd)(hn:ns.length<=100000)(N:Nat)(a:Option Addr)(cp:Nat)(w:World)(hN:N<=w.heap.size)(aI:ai fZ 2 N w a ns)(node:Int):Calls prog 36 #[.agg #[.slice a ns.length cp],ab node] w (aU w (aj6 (cJ ns node))):=by
 refine eN func36 ntmps36 ?_;refine cK 2 ?_;intro b2 w2 dz bY ft dL dH;refine B 6 ?_;refine KX ?_;refine zvd ?_;intro bf m J OD hm;replace J:=yb J;refine B 1 ?_;refine rq (.tuple #[ab ((cJ ns node).getD 0),.bool (cJ ns node).isSome]) (ri (ev:=ab) underlying165 underlying3 zeroValue3 hm (bF.own (i:=0) rfl) rfl rfl) (by unfold cJ;rw[L8]) ?_;refine B 16 ?_;refine cA (.inl rfl) results36 bD A1 zA ?_;rfl
theorem nDg(ns:List Nd)(wZ:ns.length<=90000)(l:List Ch)(yS:l.length<=64)(lA:∀x∈l,di x.dev)(N:Nat)(na:Option Addr)(nc:Nat)(a:Option Addr)(cp:Nat)(w:World)(hN:N<=w.heap.size)(SQ:ai fZ 2 N w na ns)(aI:ai gM 5 N w a l):Calls prog 57 #[.agg #[.slice na ns.length nc],.slice a l.length cp] w (dc w (λq:Option Addr×Nat=>.agg #[.slice q.1 (aQ ns l).length q.2]) (λq w1=>ai fZ 2 w1.heap.size w1 q.1 (aQ ns l)/\((l=[]/\q=(na,nc))\/∀b off,q.1=some ⟨b,off,none⟩->w.heap.size<=b))):=by
 refine eN func57 ntmps57 ?_;refine OI ?_;refine yW ?_;intro b2 dL dH;refine bM 1 ?_;intro b4 iW iX;refine B 11 ?_;refine CJ.loop (α:=(Option Addr×Nat)×World×Nat) (λp=>[(2,ptr b2 0),(4,ptr b4 0),(7,.slice a l.length cp),(8,ab (l.length:Int)),(9,ab (p.2.2:Int))]) (λp=>[(b4,oC #[ak] 51),(b2,oC #[.slice p.1.1 (aQ ns (l.take p.2.2)).length p.1.2] 51)]) (λp=>[p.2.1,w]) (λp=>Gh.no) (λp=>p.2.2<=l.length/\w.heap.size<=p.2.1.heap.size/\ai fZ 2 p.2.1.heap.size p.2.1 p.1.1 (aQ ns (l.take p.2.2))/\(∀b off,p.1.1=some ⟨b,off,none⟩->aQ ns (l.take p.2.2)=[]\/(b≠b2/\b≠b4/\(b<N\/w.heap.size<=b)))/\((p.2.2=0/\p.1=(na,nc))\/∀b off,p.1.1=some ⟨b,off,none⟩->w.heap.size<=b)) (λp=>l.length-p.2.2) ((na,nc),w,0) ⟨cO _,aj _,SQ.up hN R2,λb off e=>by rcases SQ.lt e with h|h;(exact .inl h);exact .inr aa,.inl ⟨rfl,rfl⟩⟩ zR rfl rfl zI ?_;rintro⟨⟨ta,tc⟩,wk,j⟩ ⟨hj,tI,J,dR,al⟩;dsimp only at hj tI J dR al ⊢;refine aG 6 ?_ ?_
 ·intro av;refine B 5 ?_;obtain⟨bo,oo,a8,to,fg,rfl,fh,bX,aR⟩:=aI.get aa;obtain⟨x,hx⟩:=ng l j aa;have hd:=lA x (cu hx);have Lc:=n2g ns l j aa;refine B 2 ?_;refine VY ?_;refine yW ?_;intro b6 ky rh;refine aG 10 ?_ ?_
  ·intro aS;refine B 4 ?_;refine OJ.dropAt (i:=0) rfl zB ?_;refine nH (enc:=ik) (m:=2) (t:=240) (xs:=lY (aQ ns (l.take j)) x.dev) (v:=λs=>.tuple #[.agg #[s],ab (pK (aQ ns (l.take j)) x.dev)]) (first:=[]) (cap:=[]) rfl call35 rfl rfl rfl KL (λW hS=>n1d (aQ ns (l.take j)) aa W.heap.size ta tc W (aj _) (J.to hS A0 (aj _) (λb off e=>by rcases dR b off e with h9|h9;(exact .inl h9);rcases J.lt e with h8|h8;(exact .inl h8);refine .inr ?_;simp only[bN,dA,eh,rK,and_true];omega)) x.dev hd) ?_;intro W9 a9 Fp Jm cF xX jP kA;have RL:=cF.under;simp only[I8,dA,eh,rK,and_true]at RL;have Zl:=xX.size;have XM:=(cF.links w A1).size;refine B 11 ?_;refine PJ.again ((a9,Fp),Jm,j+1) ⟨by dsimp only;omega,by dsimp only;omega,by dsimp only;rw[VZ hx cY];exact jP,λb off e=>by have:=kA _ e;dsimp only at this;exact .inr aa,.inr λb off e=>by have:=kA _ e;dsimp only at this ⊢;omega⟩ zS zR (by rw[VZ hx cY];rfl) rfl zI
  intro aS;refine B 6 ?_;refine OJ.dropAt (i:=0) rfl zB ?_;refine nH (enc:=ik) (m:=2) (t:=240) (xs:=lx (aQ ns (l.take j)) x.dev x.pub) (v:=λs=>.tuple #[.agg #[s],ab (pL (aQ ns (l.take j)) x.dev x.pub)]) (first:=[]) (cap:=[]) rfl call34 rfl rfl rfl KL (λW hS=>nzf (aQ ns (l.take j)) aa W.heap.size ta tc W (aj _) (J.to hS A0 (aj _) (λb off e=>by rcases dR b off e with h9|h9;(exact .inl h9);rcases J.lt e with h8|h8;(exact .inl h8);refine .inr ?_;simp only[bN,dA,eh,rK,and_true];omega)) x.dev x.pub hd aa) ?_;intro W9 a9 Fp Jm cF xX jP kA;have RL:=cF.under;simp only[I8,dA,eh,rK,and_true]at RL;have Zl:=xX.size;have XM:=(cF.links w A1).size;refine B 11 ?_;refine PJ.again ((a9,Fp),Jm,j+1) ⟨by dsimp only;omega,by dsimp only;omega,by dsimp only;rw[V4 hx cY];exact jP,λb off e=>by have:=kA _ e;dsimp only at this;exact .inr aa,.inr λb off e=>by have:=kA _ e;dsimp only at this ⊢;omega⟩ zS zR (by rw[V4 hx cY];rfl) rfl zI
 intro av;refine B 6 ?_;rw[nii _ _ _ aa]at J dR ⊢;refine B 6 ?_;exact bS (.inl rfl) results57 bD λW hS=>⟨(ta,tc),rfl,hS.base A1 zD,J.to hS A0 (aj _) (λb off e=>by rcases dR b off e with h9|h9;(exact .inl h9);exact .inr zy),al.imp (λh=>⟨mF (by have:=h.1;omega),h.2⟩) id⟩
noncomputable def yn (Z:Fx) (cs:List Cm) (p:Nat×Gp):List (Nat×Gp):=(Bf Z cs p.2).map λj=>(j,jY Z p.2 (iT cs j))
noncomputable def sY (Z:Fx) (cs:List Cm):Nat->List (Nat×Gp)->List (Nat×Gp)
 |0,_=>[]
 |_+1,[]=>[]
 |n+1,q::qs=>q::sY Z cs n (qs++yn Z cs q)
noncomputable def gJ (Z:Fx) (cs:List Cm) (fo:Fo):List (Nat×Gp):=match sV Z cs fo with
 |none=>[]
 |some i=>sY Z cs (cs.length+1) [(i,jY Z (g0 fo) (iT cs i))]
theorem L9(Z:Fx)(cs:List Cm)(n:Nat):sY Z cs n []=[]:=by cases n<;>rfl
theorem nYo{α β γ:Type}{f:α->β}{h:α->γ}:∀{l:List α},(l.map f).Nodup->(∀a∈l,∀b∈l,h a=h b->f a=f b)->(l.map h).Nodup:=
 by intro x;induction x<;>(intros;grind)
theorem nOp(Z:Fx)(cs:List Cm)(g:Gp):(wv Z cs g (bP Z cs cs.length).length).Nodup:=by grind [wv,nYo,nQg,Sn]
theorem n7l(Z:Fx)(cs:List Cm)(g:Gp):(Bf Z cs g).Perm (wv Z cs g (bP Z cs cs.length).length):=List.mergeSort_perm _ _
theorem nZh(h:j∈Bf Z cs g):∃c,cs[j]? =some c/\(dk (aC Z c),(j:Int))∈bP Z cs cs.length/\dk c.par=dk g.last/\iB Z g c=0:=by
 have h1:=(n7l Z cs g).mem_iff.1 h;obtain⟨c,hc,hm⟩:=n5j h1;refine⟨c,hc,hm,?_⟩;have h2:=(xh.1 h1).2;all_goals grind [Gg,O5]
structure QOk (Z:Fx) (cs:List Cm) (p:Nat×Gp):Prop where
 c:∃c,cs[p.1]? =some c/\(dk (aC Z c),(p.1:Int))∈bP Z cs cs.length/\p.2.last=aC Z c/\p.2.epoch=c.epoch
theorem GJ{k:Dk}{i j:Int}(h1:(k,i)∈bP Z cs cs.length)(h2:(k,j)∈bP Z cs cs.length):i=j:=by
 have nd:=nQg Z cs cs.length;obtain⟨a,ha⟩:=ju.1 h1;obtain⟨b,hb⟩:=ju.1 h2;have e1:((bP Z cs cs.length).map (·.1))[a]? =some k:=by rw[oh,ha];rfl
 have e2:((bP Z cs cs.length).map (·.1))[b]? =some k:=by rw[oh,hb];rfl
 have qP:a=b:=(List.getElem?_inj (by rw[eK];exact nq ha) nd).1 (e1.trans e2.symm);all_goals grind
structure QI (Z:Fx) (cs:List Cm) (vs qs:List (Nat×Gp)):Prop where
 nd:((vs++qs).map (·.1)).Nodup
 ok:∀p∈vs++qs,QOk Z cs p
 par:∀p∈vs++qs,∀c,cs[p.1]? =some c->c.epoch=1\/∃r∈vs,dk c.par=dk r.2.last
 ge:∀p∈vs++qs,1<=p.2.epoch
theorem QI.len{J:List (Nat×Gp)}(h:QI Z cs vs J):vs.length+J.length<=cs.length:=by
 have h1:=YI cs.length _ h.nd λj hj=>by
  obtain⟨p,hp,rfl⟩:=bU.1 hj;obtain⟨c,hc,_⟩:=(h.ok p hp).c;exact nq hc
 simpa using h1
theorem QI.step{J:List (Nat×Gp)}(h:QI Z cs vs (q::J)):QI Z cs (vs++[q]) (J++yn Z cs q):=by
 have e:(vs++[q])++(J++yn Z cs q)=(vs++q::J)++yn Z cs q:=by simp
 have GK:(yn Z cs q).map (·.1)=Bf Z cs q.2:=by unfold yn;rw[List.map_map];exact(List.map_congr_left λ_ _=>rfl).trans (List.map_id _)
 have sj:∀p∈yn Z cs q,∃c,cs[p.1]? =some c/\(dk (aC Z c),(p.1:Int))∈bP Z cs cs.length/\dk c.par=dk q.2.last/\iB Z q.2 c=0/\p.2=jY Z q.2 c:=by
  intro p hp;obtain⟨j,hj,rfl⟩:=bU.1 hp;obtain⟨c,h1,h2,h3,h4⟩:=nZh hj;exact⟨c,h1,h2,h3,h4,by show jY Z q.2 (iT cs j)=_;unfold iT;rw[h1];rfl⟩
 have hq:q∈vs++q::J:=aY.2 (.inr A0);have jx:=h.ge q hq;refine⟨?_,λp hp=>?_,λp hp c hc=>?_,λp hp=>?_⟩
 ·rw[e,gN,GK,List.nodup_append];refine⟨h.nd,(n7l Z cs q.2).nodup_iff.2 (nOp Z cs q.2),λa ha b hb qP=>?_⟩;subst qP;obtain⟨p,hp,e1⟩:=bU.1 ha;obtain⟨c,h1,_,h3,h4⟩:=nZh hb;have he:=ntf h4;rcases h.par p hp c (by rw[e1];exact h1)with h5|⟨r,hr,h5⟩
  ·omega
  obtain⟨c1,_,g2,g3,_⟩:=(h.ok q hq).c;obtain⟨c2,_,k2,k3,_⟩:=(h.ok r (aY.2 (.inl hr))).c;have e2:dk (aC Z c1)=dk (aC Z c2):=by rw[<-g3,<-k3,<-h3,h5]
  rw[e2]at g2;have e3:q.1=r.1:=by have:=GJ g2 k2;omega
  have nd:=h.nd;rw[gN,List.nodup_append]at nd;exact nd.2.2 r.1 (bU.2 ⟨r,hr,rfl⟩) q.1 zI e3.symm
 ·rw[e]at hp;rcases aY.1 hp with hp|hp
  ·exact h.ok p hp
  obtain⟨c,h1,h2,_,_,h5⟩:=sj p hp;exact⟨c,h1,h2,by rw[h5];rfl,by rw[h5];rfl⟩
 ·rw[e]at hp;rcases aY.1 hp with hp|hp
  ·exact(h.par p hp c hc).imp id λ⟨r,hr,h5⟩=>⟨r,aY.2 (.inl hr),h5⟩
  obtain⟨c',h1,_,h3,_⟩:=sj p hp;rw[h1]at hc;cases hc;exact .inr ⟨q,by simp,h3⟩
 rw[e]at hp;rcases aY.1 hp with hp|hp
 ·exact h.ge p hp
 obtain⟨c,_,_,_,h4,h5⟩:=sj p hp;have:=ntf h4;rw[h5];show 1<=c.epoch;omega
structure CD (Z:Fx) (cs:List Cm) (fo:Fo) (vs qs:List (Nat×Gp)):Prop where
 qi:QI Z cs vs qs
 eq:∃n,vs++sY Z cs n qs=gJ Z cs fo/\cs.length+1<=n+vs.length
theorem CD.first(h:sV Z cs fo=some (jH d))(hd:vC Z cs (g0 fo) d):CD Z cs fo [] [pR d]:=by
 have hx:d.x.g=jY Z (g0 fo) (iT cs (jH d)):=hd.nx;have he:=ntf hd.ok;have hm:(dk (aC Z d.c),((jH d:Nat):Int))∈bP Z cs cs.length:=by
  unfold sV LV at h;split at h
  ·cases h
  rename_i h0;rw[Option.bind_eq_some_iff]at h;obtain⟨i,h1,h2⟩:=h;rw[wu]at h1;obtain⟨p,hp,e1⟩:=h1;obtain⟨j,c,f1,_,f3,f4⟩:=Sn Z cs _ p (cu hp);have J:i=j:=by rw[<-e1,f1,xU]
  subst J;split at h2
  ·have e3:=Option.some.inj h2;subst e3;rw[hd.at_]at f3;cases f3;have:=cu hp;rw[show p=(p.1,p.2)from rfl,f4,f1]at this;exact this
  cases h2
 refine⟨⟨by simp,λp hp=>?_,λp hp c hc=>?_,λp hp=>?_⟩,cs.length+1,?_,by simp⟩
 ·simp only[eY,fC]at hp;subst hp;exact⟨d.c,hd.at_,hm,by show d.x.g.last=_;rw[hd.x];rfl,by show d.x.g.epoch=_;rw[hd.x];rfl⟩
 ·simp only[eY,fC]at hp;subst hp;have:cs[jH d]? =some c:=hc;rw[hd.at_]at this;cases this;exact .inl (by rw[he];rfl)
 ·simp only[eY,fC]at hp;subst hp;show 1<=d.x.g.epoch;rw[hd.x];show 1<=d.c.epoch;rw[he];show(1:Int)<=0+1;decide
 unfold gJ;rw[h,eY];show sY Z cs (cs.length+1) [(jH d,d.x.g)]=_;rw[hx]
theorem CD.step{J:List (Nat×Gp)}(h:CD Z cs fo vs (q::J)):CD Z cs fo (vs++[q]) (J++yn Z cs q):=by
 obtain⟨n,h1,h2⟩:=h.eq;have hl:=h.qi.len;simp only[dI]at hl;obtain⟨m,rfl⟩:∃m,n=m+1:=⟨n-1,by omega⟩;exact⟨h.qi.step,m,by rw[<-h1];simp[sY],by simp only[cB,dI,fJ];omega⟩
theorem CD.done(h:CD Z cs fo vs []):vs=gJ Z cs fo:=by
 obtain⟨n,h1,_⟩:=h.eq;rw[L9,ec]at h1;exact h1
theorem CD.none(h:sV Z cs fo=none):gJ Z cs fo=[]:=by unfold gJ;rw[h]
theorem n5n{ds:List Cd}(hm:ds.map jH=Bf Z cs d.x.g)(hd:∀x∈ds,tQ Z cs d.x.g x):ds.map pR=yn Z cs (pR d):=by
 unfold yn;show _=(Bf Z cs d.x.g).map _;rw[<-hm,List.map_map];refine List.map_congr_left λx hx=>?_;show(jH x,x.x.g)=(jH x,jY Z d.x.g (iT cs (jH x)));rw[(hd x hx).le.nx]
theorem cj.fz(h:cj N w x)(hn:dW K x):∃F:ad,(∀p∈F,K<=p.1/\w.heap[p.1]? =some p.2)/\qp F x:=by
 have key:∀{α:Type} {enc:α->Array Value} {n:Nat} {a:Option Addr} {xs:List α},ai enc n N w a xs->(∀q,a=some q->xs=[]\/K<=q.block)->∃F:ad,(∀p∈F,K<=p.1/\w.heap[p.1]? =some p.2)/\iN enc n F a xs:=by
  intro α enc n a xs h1 h2;by_cases h0:xs=[]
  ·exact⟨[],by simp,.inl h0⟩
  exact h1.fs λq hq=>(h2 q hq).resolve_left h0
 obtain⟨F1,wB,uJ⟩:=key h.ms hn.1;obtain⟨J,Pd,O6⟩:=key h.ns hn.2;exact⟨F1++J,λp hp=>(aY.1 hp).elim (wB p) (Pd p),uJ.mono (λp hp=>aY.2 (.inl hp)),O6.mono (λp hp=>aY.2 (.inr hp)),h.mn,h.nn⟩
theorem cj.fzAll{N K:Nat}{w:World}:∀{ds:List Cd},(∀d∈ds,cj N w d.x/\dW K d.x)->∃F:ad,(∀p∈F,K<=p.1/\w.heap[p.1]? =some p.2)/\∀d∈ds,qp F d.x
 | [],_=>⟨[],by simp,by simp⟩
 |d::ds,h=>by
  obtain⟨F1,h1,h2⟩:=(h d A0).1.fz (h d A0).2;obtain⟨J,h3,h4⟩:=cj.fzAll λx hx=>h x (.tail _ hx);refine⟨F1++J,λp hp=>(aY.1 hp).elim (h1 p) (h3 p),λx hx=>?_⟩;rcases cd.1 hx with rfl|hx
  ·exact h2.mono λp hp=>aY.2 (.inl hp)
  exact(h4 x hx).mono λp hp=>aY.2 (.inr hp)
section
variable (hZ:FxOk Z)(cs:List Cm)(bX:cs.length<=1000)(dG:∀c∈cs,bO c)(N:Nat)(la:Option Addr)(lc:Nat)(w:World)(hN:N<=w.heap.size)(aI:ai cP 73 N w la cs)(hC:∀c∈cs,dC N w c)(ia:Option Addr)(ic:Nat)(ta:Option Addr)(tc:Nat)(hp:pP Z cs N w ⟨ia,ic,ta,tc⟩)
include hZ bX dG la lc hN aI hC ia ic ta tc hp
theorem nAi(G:Gv)(hG:cj N w G)(hg:Glb w):Calls prog 63 #[.agg (Af Z cs la lc ⟨ia,ic,ta,tc⟩),.agg (bJ G)] w (λe w'=>∃(x:(Option Addr×Nat)×List Cd) (F':ad),e= .returned (.slice x.1.1 x.2.length x.1.2)/\Below w.heap.size w w'/\(∀p∈F',w.heap.size<=p.1/\w'.heap[p.1]? =some p.2)/\(x.2.map jH=Bf Z cs G.g/\(∀d∈x.2,tQ Z cs G.g d/\qp F' d.x)/\iN jl 143 F' x.1.1 x.2)):=by
 refine(n9i hZ cs bX dG N la lc w hN aI hC ia ic ta tc hp G hG hg).mono ?_;rintro e w' ⟨ds,⟨hm,iS⟩,r,rfl,hb,J,bQ,fF⟩;obtain⟨F1,h1,h2⟩:=cj.fzAll λd hd=>(iS d hd).2;obtain⟨a,c,he,aI⟩:=r.sl F7 bQ fF (aj w'.heap.size);obtain⟨F2,h3,h4⟩:=aI.fs (K:=w.heap.size) (by
  intro q hq;cases r with
  |nil=>simp only[Rw.val,Value.slice.injEq]at he;rw[<-he.1]at hq;cases hq
  |row b cap sp=>simp only[Rw.val,Value.slice.injEq]at he;rw[<-he.1]at hq;cases hq;exact J)
 exact⟨((a,c),ds),F1++F2,by show Ending.returned (r.val ds.length)=_;rw[he],hb,λp hp=>(aY.1 hp).elim (h1 p) (h3 p),hm,λd hd=>⟨(iS d hd).1,(h2 d hd).mono λp hp=>aY.2 (.inl hp)⟩,h4.mono λp hp=>aY.2 (.inr hp)⟩
theorem ntn(fo:Fo)(hg:Glb w):Calls prog 62 #[.agg (Af Z cs la lc ⟨ia,ic,ta,tc⟩),.agg (qQ fo)] w (λe w'=>∃(x:Cd×Bool) (F':ad),e= .returned (.tuple #[.agg (jl x.1),.bool x.2])/\Below w.heap.size w w'/\(∀p∈F',w.heap.size<=p.1/\w'.heap[p.1]? =some p.2)/\((x.2=true/\sV Z cs fo=some (jH x.1)/\vC Z cs (g0 fo) x.1/\qp F' x.1.x)\/(x.2=false/\sV Z cs fo=none))):=by
 refine(ngp hZ cs bX dG N la lc w hN aI hC ia ic ta tc hp fo hg).mono ?_;rintro e w' ⟨x,rfl,hb,h|h⟩
 ·obtain⟨F,h1,h2⟩:=h.2.2.2.1.fz h.2.2.2.2;exact⟨x,F,rfl,hb,h1,.inl ⟨h.1,h.2.1,h.2.2.1,h2⟩⟩
 exact⟨x,[],rfl,hb,by simp,.inr h⟩
end
theorem ck.slF{C:Cx}{J:ad}{α:Type}{enc:α->List Value}{m tx e' c:Nat}{xs:List α}(hm:∀x,(enc x).length=m)(h1:∀x,∀u∈enc x,u.oneCell'=true)(hU:C.P.underlying tx=some (.slice e'))(h:iN (λx=>(enc x).toArray) m F a xs)(hs:∀p∈F,p∈J):ck C (dJ J) L H enc m tx (.slice a xs.length c) xs:=by
 rcases h with h|⟨b,off,cs,t,fr,e1,e2,e4⟩
 ·subst h;exact zGh
 subst e1;have hl:off+xs.length*m<=cs.size\/xs=[]:=by
  exact zWg
 rcases hl with hl|h0
 ·exact ck.at hm h1 hU (λW hS=>(hS.fzLies _ (hs _ e2)).2) hl (nag xs hm e4)
 subst h0;exact zGh
theorem nOh{α:Type}{enc:α->List Value}{x:α}{A:Array Value}(h:A=(enc x).toArray):(oC A t:Obj)=bj enc t ([]++[x]) []:=by subst h;simp[iE]
theorem pP.toO{M:Nat}{p:Pv}(h:pP Z cs N w p)(hN:N<=M)(J:∀k,k<N->W.heap[k]? =w.heap[k]?):pP Z cs M W p:=⟨h.ids.up hN J,h.at_.up hN J⟩
structure AlV (Z:Fx) (cs:List Cm) (fo:Fo) (F:ad) (ds:List Cd):Prop where
 eq:ds.map pR=gJ Z cs fo
 len:ds.length<=cs.length
 d:∀d∈ds,cs[jH d]? =some d.c/\0<=d.at_/\qp F d.x
theorem naf{n:Nat}:∀{H:ad},(∀q∈H,n<=q.1)->Over n H
 | [],_=>trivial
 |p::H,h=>⟨h p A0,naf λq hq=>h q (.tail _ hq)⟩
theorem Rw.geA{n cap:Nat}{r:Rw}(h:r.ge n)(hb:r.isAt b):Rw.ge n (Rw.row b cap sp):=by
 cases r with
 |nil=>exact hb.elim
 |row b' c' s'=>have e:b'=b:=hb;subst e;exact h
theorem n8h(hZ:FxOk Z)(cs:List Cm)(bX:cs.length<=1000)(dG:∀c∈cs,bO c)(N:Nat)(la:Option Addr)(lc:Nat)(w:World)(hN:N<=w.heap.size)(aI:ai cP 73 N w la cs)(hC:∀c∈cs,dC N w c)(fo:Fo)(hg:Glb w):Calls prog 33 #[.agg (qQ fo),.slice la cs.length lc] w (λe w'=>∃(q:((Option Addr×Nat)×(Option Addr×Nat))×List Cd) (F':ad),e= .returned (.tuple #[.slice q.1.1.1 q.2.length q.1.1.2,.slice q.1.2.1 q.2.length q.1.2.2])/\Below w.heap.size w w'/\(∀p∈F',w.heap.size<=p.1/\w'.heap[p.1]? =some p.2)/\AlV Z cs fo F' q.2/\iN (λx=>(aA x).toArray) 1 F' q.1.1.1 (q.2.map λd=>d.at_)/\iN (λx=>(lP x).toArray) 36 F' q.1.2.1 (q.2.map λd=>d.x)):=by
 have et:=hg.lt;refine nB (dJ []) [] (vs:=[_,_]) func33 rfl ntmps33 rfl (Lo w) ?_;refine cK 2 ?_;intro b2 w2 dz bY ft dL dH;refine B 7 ?_;refine ny (α:=Pv) (v:=λp=>.agg (Af Z cs la lc p)) (Φ:=λW p w1=>pP Z cs w1.heap.size w1 p/\(∀q,p.ia=some q->W.heap.size<=q.block)/\∀q,p.ta=some q->W.heap.size<=q.block) call61 rfl rfl rfl (λW hS=>Px.newPool hZ cs bX dG N la lc W cR (aI.up (aj _) hS.sm) (λc hc=>(hC c hc).up (aj _) hS.sm) (hg.old hS A1 zF True.intro)) ?_;rintro Wp ⟨ia,ic,ta,tc⟩ wp Ca Rm ⟨Gl,Ss,cb⟩;try dsimp only at Gl Ss cb
 have eO:=Rm.size;have en:=(Ca.links w A1).size;refine bM 1 ?_;intro b6 ky rh;refine aF 5 (.agg (Af Z cs la lc ⟨ia,ic,ta,tc⟩)) ?_;refine du (.agg (qQ fo)) ?_;refine Pe (γ:=Cd×Bool) (v:=λx=>.tuple #[.agg (jl x.1),.bool x.2]) (Φ:=λF x=>(x.2=true/\sV Z cs fo=some (jH x.1)/\vC Z cs (g0 fo) x.1/\qp F x.1.x)\/(x.2=false/\sV Z cs fo=none)) call62 rfl rfl rfl (λW hS=>ntn hZ cs bX dG W.heap.size la lc W (aj _) (aI.up cR (hS.same A2 hN zF ⟨by dsimp only;omega,True.intro⟩)) (λc hc=>(hC c hc).up cR (hS.same A2 hN zF ⟨by dsimp only;omega,True.intro⟩)) ia ic ta tc (Gl.toO (hS.links wp A0).size (hS.same A0 (aj _) zF ⟨by dsimp only;omega,True.intro⟩)) fo (hg.old hS A2 zF ⟨by dsimp only;omega,True.intro⟩)) ?_;rintro⟨d0,k0⟩ F0 tF WO;dsimp only at tF ⊢;refine bM 4 ?_;intro b7 kh vY;refine B 6 ?_;rcases tF with⟨rfl,jX,Aa,bQ⟩|⟨rfl,tF⟩
 ·refine Dh ?_;refine aF 8 (.agg (jl d0)) ?_;refine kp underlying162 sizeOf159 zeroValue159 rfl rfl rfl rfl rfl rfl rfl ?_;refine yW ?_;intro bh QA eX;refine B 4 ?_;refine CJ.reH (H':=[(bh,bj pg 159 ([]++[d0]) []),(b7,oC (jl d0) 159),(b6,oC (Af Z cs la lc ⟨ia,ic,ta,tc⟩) 156)]) (by rw[<-nOh (enc:=pg) (A:=jl d0) rfl];rfl) ?_;refine CJ.loop (α:=((((List Cd×List Cd)×List Cd)×(Rw×Rw))×(((Nat×Nat)×Nat)×List Value)×ad)) (λp9=>[(2,ptr b2 0),(4,p9.1.2.1.val (p9.1.1.1.1.map λd=>d.at_).length),(5,p9.1.2.2.val (p9.1.1.1.1.map λd=>d.x).length),(6,ptr b6 0),(9,.slice (some ⟨p9.2.1.1.1.1,p9.2.1.1.1.2,none⟩) p9.1.1.1.2.length p9.2.1.1.2)]) (λp9=>[(p9.2.1.1.1.1,bj pg 159 (p9.1.1.2++p9.1.1.1.2) p9.2.1.2),(b7,oC (jl d0) 159),(b6,oC (Af Z cs la lc ⟨ia,ic,ta,tc⟩) 156)]++(p9.1.2.1.hp aA 3 (p9.1.1.1.1.map λd=>d.at_)++(p9.1.2.2.hp lP 53 (p9.1.1.1.1.map λd=>d.x)++[]))) (λp9=>[wp,w2,w]) (λp9=>dJ p9.2.2) (λp9=>CD Z cs fo (p9.1.1.1.1.map pR) (p9.1.1.1.2.map pR)/\(∀x∈p9.1.1.1.1++p9.1.1.1.2,cs[jH x]? =some x.c/\0<=x.at_/\qp p9.2.2 x.x)/\(∀q∈p9.2.2,w.heap.size<=q.1)/\p9.1.2.1.Fr (dJ p9.2.2) [wp,w2,w]/\p9.1.2.1.Fit 1 (p9.1.1.1.1.map λd=>d.at_)/\p9.1.2.2.Fr (dJ p9.2.2) [wp,w2,w]/\p9.1.2.2.Fit 36 (p9.1.1.1.1.map λd=>d.x)/\ah [wp,w2,w] p9.2.1.1.1.1/\p9.1.1.1.2.length<=p9.2.1.1.2/\p9.2.1.2.length=(p9.2.1.1.2-p9.1.1.1.2.length)*143/\(p9.1.1.1.2=[]\/p9.2.1.1.1.2=p9.1.1.2.length*143)/\p9.1.1.1.1.length<=cs.length) (λp9=>cs.length-p9.1.1.1.1.length) (((([],[d0]),[]),(.nil,.nil)),(((bh,0),1),[]),F0++[]) ⟨CD.first jX Aa,λx hx=>by(have e:x=d0:=by simpa using hx);subst e;exact⟨Aa.at_,Aa.nn,bQ.mono (λp hp=>by simp[hp])⟩,λq hq=>(WO q (by simpa using hq)).not A2,True.intro,rfl,True.intro,rfl,by simp only[ah,and_true];omega,by simp,rfl,.inr zI,by simp⟩ zR rfl rfl zI ?_
  rintro⟨⟨⟨⟨vs,qs⟩,ps⟩,r1,r2⟩,⟨⟨⟨bq,off⟩,cq⟩,SR⟩,F⟩ ⟨hI,iS,dD,qN,jv,gO,gI,aq,WQ,a8,OD,br⟩;dsimp only at hI iS dD qN jv gO gI aq WQ a8 OD br ⊢;have oN:r1.ge wp.heap.size:=Rw.ge_fz qN A0;have eE:r2.ge wp.heap.size:=Rw.ge_fz gO A0;have eJ:wp.heap.size<=bq:=aq.1;refine aG 8 ?_ ?_
  ·intro av;refine B 5 ?_;obtain⟨d,J,rfl⟩:∃d J,qs=d::J:=by cases qs with|nil=>(exfalso;simp at *)|cons d J=>exact⟨d,J,rfl⟩
   obtain rfl:off=ps.length*143:=OD.resolve_left zI;refine B 3 ?_;refine rq (.agg (jl d)) (fO (i:=0) rfl isAgg159 sizeOf159 rfl (nMh (o:=ps.length) (k:=0) F7 zI rfl)) (va (n2f (enc:=pg) (o:=ps.length) (k:=0) (sp:=SR) F7 zI rfl)) ?_;refine bM 1 ?_;intro fN lq oj;refine B 4 ?_;refine CJ.less (E':=[(2,_),(4,_),(5,_),(6,_),(9,_),(10,_),(23,_),(24,_),(25,_),(28,_),(29,_),(30,_)]) zR ?_;refine dN 9 [3,4,8] [[],[0],[]] (λcv L' H'=>let jb:Nat×Obj:=(b6,oC (Af Z cs la lc ⟨ia,ic,ta,tc⟩) 156);let ew:ad:=[(fN,oC (jl d) 159),(bq,bj pg 159 (ps++d::J) SR),(b7,oC (jl d0) 159),jb]++(r1.hp aA 3 (vs.map λd=>d.at_)++(r2.hp lP 53 (vs.map λd=>d.x)++[]));match cv with| [none,none,none]=>L'=[wp,w2,w]/\H'=ew| [none,none,some v8]=>∃(ph:Nat),v8= .slice (ao ph) 1 1/\L'=[wp,w2,w]/\H'=(ph,oC (bJ d.x) 53)::ew/\ah [wp,w2,w] ph| [some v3,none,none]=>∃(fK:Nat),v3= .slice (ao fK) 1 1/\L'=[wp,w2,w]/\H'=(fK,oC #[ab d.at_] 3)::ew/\ah [wp,w2,w] fK| [some v3,none,some v8]=>∃(fK:Nat) (ph:Nat),v3= .slice (ao fK) 1 1/\v8= .slice (ao ph) 1 1/\L'=[wp,w2,w]/\H'=(ph,oC (bJ d.x) 53)::(fK,oC #[ab d.at_] 3)::ew/\ah [wp,w2,w] fK/\ah [wp,w2,w] ph| [some v3,some v4,none]=>∃(fK:Nat) (oB:Nat) (iz:Nat) (iZ:List Value),v3= .slice (ao fK) 1 1/\v4= .slice (ao oB) ((vs.map λd=>d.at_)++[d.at_]).length iz/\L'=[wp,w2,w]/\H'=[(fK,oC #[ab d.at_] 3),(fN,oC (jl d) 159),(bq,bj pg 159 (ps++d::J) SR),(b7,oC (jl d0) 159),jb]++((Rw.row oB iz iZ).hp aA 3 ((vs.map λd=>d.at_)++[d.at_])++(r2.hp lP 53 (vs.map λd=>d.x)++[]))/\ah [wp,w2,w] fK/\(r1.isAt oB\/ah [wp,w2,w] oB)/\(Rw.row oB iz iZ).Fit 1 ((vs.map λd=>d.at_)++[d.at_])| [some v3,some v4,some v8]=>∃(fK:Nat) (oB:Nat) (iz:Nat) (iZ:List Value) (ph:Nat),v3= .slice (ao fK) 1 1/\v4= .slice (ao oB) ((vs.map λd=>d.at_)++[d.at_]).length iz/\v8= .slice (ao ph) 1 1/\L'=[wp,w2,w]/\H'=[(ph,oC (bJ d.x) 53),(fK,oC #[ab d.at_] 3),(fN,oC (jl d) 159),(bq,bj pg 159 (ps++d::J) SR),(b7,oC (jl d0) 159),jb]++((Rw.row oB iz iZ).hp aA 3 ((vs.map λd=>d.at_)++[d.at_])++(r2.hp lP 53 (vs.map λd=>d.x)++[]))/\ah [wp,w2,w] fK/\(r1.isAt oB\/ah [wp,w2,w] oB)/\(Rw.row oB iz iZ).Fit 1 ((vs.map λd=>d.at_)++[d.at_])/\ah [wp,w2,w] ph|_=>False) ⟨rfl,rfl⟩ (qn 2 (k:=by exact lH zcs (qn 4 (k:=by exact lH zcs LJ)))) ?_ ?_
   ·refine nc rfl rfl ?_ ?_
    ·intro cv L' H' hl hr hP F Q' hk;obtain⟨x3,x4,x8,rfl⟩:=pB hl;rcases x3 with _|v3<;>rcases x4 with _|v4<;>rcases x8 with _|v8<;>try exact False.elim hP
     ·obtain⟨rfl,rfl⟩:=hP;refine ET ?_;intro fK ha ho;exact OJ.done (hk _ _ _ ⟨fK,rfl,rfl,rfl,ha⟩)
     ·obtain⟨ph,rfl,rfl,rfl,xn⟩:=hP;refine ET ?_;intro fK ha ho;refine OJ.perm (List.Perm.swap _ _ _) ?_;exact OJ.done (hk _ _ _ ⟨fK,ph,rfl,rfl,rfl,rfl,ha,xn⟩)
     ·exact cQ
     ·exact cQ
     ·exact cQ
     exact cQ
    refine nc rfl rfl ?_ ?_
    ·intro cv L' H' hl hr hP F Q' hk;obtain⟨x3,x4,x8,rfl⟩:=pB hl;rcases x3 with _|v3<;>rcases x4 with _|v4<;>rcases x8 with _|v8<;>try exact False.elim hP
     ·exact cQ
     ·exact cQ
     ·obtain⟨fK,rfl,rfl,rfl,jQ⟩:=hP;refine jV (r:=r1) (xs:=(vs.map λd=>d.at_)) (zs:=[d.at_]) (enc:=aA) (m:=1) (H0:=[(fK,oC #[ab d.at_] 3),(fN,oC (jl d) 159),(bq,bj pg 159 (ps++d::J) SR),(b7,oC (jl d0) 159),(b6,oC (Af Z cs la lc ⟨ia,ic,ta,tc⟩) 156)]) (H1:=r2.hp lP 53 (vs.map λd=>d.x)++[]) zI OC nz rfl rfl rfl rfl (ck.one (z:=d.at_) nz OE underlying55 (bF.own (i:=0) rfl)) jv qN zI Q2 ?_;intro oB iz iZ lZ iJ;exact OJ.done (hk _ _ _ ⟨fK,oB,iz,iZ,rfl,rfl,rfl,rfl,jQ,lZ,iJ⟩)
     ·obtain⟨fK,ph,rfl,rfl,rfl,rfl,jQ,xn⟩:=hP;refine jV (r:=r1) (xs:=(vs.map λd=>d.at_)) (zs:=[d.at_]) (enc:=aA) (m:=1) (H0:=[(ph,oC (bJ d.x) 53),(fK,oC #[ab d.at_] 3),(fN,oC (jl d) 159),(bq,bj pg 159 (ps++d::J) SR),(b7,oC (jl d0) 159),(b6,oC (Af Z cs la lc ⟨ia,ic,ta,tc⟩) 156)]) (H1:=r2.hp lP 53 (vs.map λd=>d.x)++[]) zI OC nz rfl rfl rfl rfl (ck.one (z:=d.at_) nz OE underlying55 (bF.own (i:=1) rfl)) jv qN zI Q2 ?_;intro oB iz iZ lZ iJ;exact OJ.done (hk _ _ _ ⟨fK,oB,iz,iZ,ph,rfl,rfl,rfl,rfl,rfl,jQ,lZ,iJ,xn⟩)
     ·exact cQ
     exact cQ
    refine nc rfl rfl ?_ ?_
    ·intro cv L' H' hl hr hP F Q' hk;obtain⟨x3,x4,x8,rfl⟩:=pB hl;rcases x3 with _|v3<;>rcases x4 with _|v4<;>rcases x8 with _|v8<;>try exact False.elim hP
     ·obtain⟨rfl,rfl⟩:=hP;refine zBe ?_;intro ph ha ho;exact OJ.done (hk _ _ _ ⟨ph,rfl,rfl,rfl,ha⟩)
     ·exact cQ
     ·obtain⟨fK,rfl,rfl,rfl,jQ⟩:=hP;refine zBe ?_;intro ph ha ho;exact OJ.done (hk _ _ _ ⟨fK,ph,rfl,rfl,rfl,rfl,jQ,ha⟩)
     ·exact cQ
     ·obtain⟨fK,oB,iz,iZ,rfl,rfl,rfl,rfl,jQ,lZ,iJ⟩:=hP;refine zBe ?_;intro ph ha ho;exact OJ.done (hk _ _ _ ⟨fK,oB,iz,iZ,ph,rfl,rfl,rfl,rfl,rfl,jQ,lZ,iJ,ha⟩)
     exact cQ
    exact nn
   intro cv L' H' hl hr hP;obtain⟨x3,x4,x8,rfl⟩:=pB hl;rcases x3 with _|v3<;>rcases x4 with _|v4<;>rcases x8 with _|v8
   ·exact cQ
   ·exact cQ
   ·exact cQ
   ·exact cQ
   ·exact cQ
   ·exact cQ
   ·exact cQ
   obtain⟨fK,oB,iz,iZ,ph,rfl,rfl,rfl,rfl,rfl,jQ,lZ,iJ,xn⟩:=hP;simp only[ah]at jQ xn lZ;refine jV (r:=r2) (xs:=(vs.map λd=>d.x)) (zs:=[d.x]) (enc:=lP) (m:=36) (H0:=[(ph,oC (bJ d.x) 53),(fK,oC #[ab d.at_] 3),(fN,oC (jl d) 159),(bq,bj pg 159 (ps++d::J) SR),(b7,oC (jl d0) 159),(b6,oC (Af Z cs la lc ⟨ia,ic,ta,tc⟩) 156)]++(Rw.row oB iz iZ).hp aA 3 ((vs.map λd=>d.at_)++[d.at_])) (H1:=[]) zW F8 Z9 rfl rfl rfl rfl (ck.one (z:=d.x) Z9 nxo underlying75 (bF.own (i:=0) rfl)) gI gO zI Q2 ?_;intro aE SS SU Ma SV;replace Ma:=yb Ma;refine aF 6 (.agg (Af Z cs la lc ⟨ia,ic,ta,tc⟩)) ?_;refine aF 1 (.agg (bJ d.x)) ?_;have dK:Rw.ge wp.heap.size (Rw.row oB iz iZ):=lZ.elim (λh=>Rw.geA oN h) (λh=>h.1);have cT:Rw.ge wp.heap.size (Rw.row aE SS SU):=Ma.elim (λh=>Rw.geA eE h) (λh=>h.1);have sO:wp.heap.size<=oB/\wp.heap.size<=aE:=⟨dK,cT⟩;refine Pe (γ:=(Option Addr×Nat)×List Cd) (v:=λx=>.slice x.1.1 x.2.length x.1.2) (Φ:=λF x=>x.2.map jH=Bf Z cs d.x.g/\(∀y∈x.2,tQ Z cs d.x.g y/\qp F y.x)/\iN jl 143 F x.1.1 x.2) call63 rfl rfl rfl (λW hS=>nAi hZ cs bX dG W.heap.size la lc W (aj _) (aI.up cR (hS.same A2 hN zF zdb)) (λc hc=>(hC c hc).up cR (hS.same A2 hN zF zdb)) ia ic ta tc (Gl.toO (hS.links wp A0).size (hS.same A0 (aj _) zF zdb)) d.x ((iS d zI).2.2.lies hS.fzLies) (hg.old hS A2 zF zdb)) ?_
   rintro⟨⟨a2,c2⟩,ds⟩ F2 ⟨bY,al,O6⟩ Pd;dsimp only at bY al O6 ⊢;have uP:ds.length<=1000:=by have h9:=hI.step.qi.len;simp only[cB,eK,dI,fJ]at h9;have h8:=congrArg List.length (n5n bY (λx hx=>(al x hx).1));rw[eK]at h8;omega
   refine apO (enc:=pg) (m:=143) (H0:=[(ph,oC (bJ d.x) 53),(fK,oC #[ab d.at_] 3),(fN,oC (jl d) 159)]) (H1:=[(b7,oC (jl d0) 159),(b6,oC (Af Z cs la lc ⟨ia,ic,ta,tc⟩) 156)]++((Rw.row oB iz iZ).hp aA 3 ((vs.map λd=>d.at_)++[d.at_])++((Rw.row aE SS SU).hp lP 53 ((vs.map λd=>d.x)++[d.x])++[]))) (ps:=ps) (xs:=d::J) (zs:=ds) rfl Ga F7 rfl rfl rfl rfl rfl (ck.slF F7 ntk underlying162 O6 (λp hp=>aY.2 (.inl hp))) WQ a8 (.inr aq) (by have h9:=hI.qi.len;simp only[eK,dI]at h9 ⊢;omega) ?_;intro an az ay dO c5 SX dp;have db:wp.heap.size<=an/\w2.heap.size<=an/\w.heap.size<=an:=by rcases c5 with h|h;(subst h;simp only[ah]at aq;omega);(simp only[ah]at h;omega)
   refine B 6 ?_;refine rq (.slice (some ⟨an,(if az=1 then ay.length*143 else ay.length*143+1*143),none⟩) (J++ds).length (az-1)) (gy (l:=1) (h:=(d::J++ds).length) underlying162 sizeOf159 rfl ⟨_,_,rfl,rfl⟩ rfl zI (by exact SX) rfl) zI ?_;refine B 2 ?_;refine uI ?_;refine qD ?_;refine PJ.again ((((vs++[d],J++ds),ay++[d]),(Rw.row oB iz iZ,Rw.row aE SS SU)),(((an,(if az=1 then ay.length*143 else ay.length*143+1*143)),az-1),dO),F2++F) ⟨by dsimp only;rw[gN,gN,n5n bY (λx hx=>(al x hx).1)];exact hI.step,
    λx hx=>by dsimp only at hx ⊢;rw[show(vs++[d])++(J++ds)=(vs++d::J)++ds by simp]at hx;rcases aY.1 hx with h|h;(exact⟨(iS x h).1,(iS x h).2.1,(iS x h).2.2.mono (λp hp=>aY.2 (.inr hp))⟩);exact⟨(al x h).1.at_,(al x h).1.nn,(al x h).2.mono (λp hp=>aY.2 (.inl hp))⟩,
    λq hq=>(aY.1 hq).elim (λh=>(Pd q h).not A2) (dD q),
    lZ.elim (λh=>.inr (by have:=Rw.Fr_at qN h;exact this.elim (λh=>h.elim) id)) (λh=>.inr h),by dsimp only;rw[gN];exact iJ,
    Ma.elim (λh=>.inr (by have:=Rw.Fr_at gO h;exact this.elim (λh=>h.elim) id)) (λh=>.inr h),by dsimp only;rw[gN];exact SV,
    db.imp id (λh=>⟨h.1,h.2,True.intro⟩),by dsimp only;simp only[cB,dI]at SX ⊢;omega,by dsimp only;rw[dp];congr 1;simp only[cB,dI];omega,
    by dsimp only;by_cases h9:az=1;(left;apply mF;simp only[cB,dI]at SX ⊢;omega);(right;rw[if_neg h9];simp only[cB,dI,fJ];omega),
    by dsimp only;have h9:=hI.qi.len;simp only[eK,dI,cB,fJ]at h9 ⊢;omega⟩ (by dsimp only;have h9:=hI.qi.len;simp only[eK,dI,cB,fJ]at h9 ⊢;omega) ⟨rfl,by rw[gN];rfl,by rw[gN];rfl,rfl,rfl,trivial⟩ o8 rfl zI
  intro av;refine B 14 ?_;have Ql:qs=[]:=mF aa;subst Ql;refine bS (.inl rfl) results33 bD λW hS=>?_;have Aj:r1.At aA 3 (vs.map λd=>d.at_) W:=by
   exact zoi
  have Sq:r2.At lP 53 (vs.map λd=>d.x) W:=by
   exact zni
  obtain⟨a1,c1,uq,uJ⟩:=Rw.sl nz jv Aj (aj W.heap.size);obtain⟨a3,c3,Yw,Bg⟩:=Rw.sl Z9 gI Sq (aj W.heap.size);obtain⟨F1,wB,uJ⟩:=uJ.fs (K:=w.heap.size) (Rw.val_new (Rw.ge_mono oN aa) uq);obtain⟨F3,bZ,Bg⟩:=Bg.fs (K:=w.heap.size) (Rw.val_new (Rw.ge_mono eE aa) Yw);refine⟨(((a1,c1),(a3,c3)),vs),F1++(F3++F),?_,?_,λp hp=>?_,⟨hI.done,br,λx hx=>⟨(iS x (by simpa using hx)).1,(iS x (by simpa using hx)).2.1,(iS x (by simpa using hx)).2.2.mono (λp hp=>by simp[hp])⟩⟩,uJ.mono (λp hp=>by simp[hp]),Bg.mono (λp hp=>by simp[hp])⟩
  ·show Ending.returned (.tuple #[r1.val _,r2.val _])=_;rw[uq,Yw];simp
  ·exact(hS.links w A2).below (λk hk hx=>by rcases hx with hx|hx;(exact hx);simp only[ec,gN,dP,fu,aY,cd,dZ,or_false]at hx;rcases hx with(hx|hx|hx)|hx|hx<;>first|omega|(have:=aq.2.2.1;omega)|(have:=Rw.mem_ge oN hx;omega)|(have:=Rw.mem_ge eE hx;omega))
  rcases aY.1 hp with hp|hp
  ·exact wB p hp
  rcases aY.1 hp with hp|hp
  ·exact bZ p hp
  exact⟨dD p hp,(hS.fzLies p hp).2⟩
 refine B 2 ?_;refine Jr ?_;refine bS (.inl rfl) results33 bD λW hS=>?_;refine⟨(((none,0),(none,0)),[]),[],rfl,(hS.links w A2).below (λk hk hx=>?_),by simp,⟨by rw[CD.none tF];rfl,by simp,by simp⟩,.inl rfl,.inl rfl⟩;rcases hx with hx|hx
 ·exact hx
 simp only[dA,dP,fu,cd,dZ,or_false]at hx;omega
theorem n1l(p:Gv->Bool)(f:Nat)(cap:List Value)(aB:eV prog f)(xs:List Gv)(hxl:xs.length<=1000000)(N:Nat)(a:Option Addr)(cp:Nat)(w:World)(hN:N<=w.heap.size)(aI:ai bJ 36 N w a xs)(hp:∀(j:Nat) (x:Gv),xs[j]? =some x->∀W,Below w.heap.size w W->Calls prog f (.agg (bJ x)::cap).toArray W (aU W (.bool (p x)))):Calls prog 55 #[.slice a xs.length cp,.func (.func f) #[] cap.toArray] w (dc w (λi:Int=>ab i) (λi _=>fE p xs i)):=by
 refine eN func55 ntmps55 ?_;refine VS ?_;rintro j ⟨hj,dR⟩;refine aG 6 ?_ ?_
 ·intro av;refine B 11 ?_;obtain⟨bo,oo,J,to,fg,rfl,fh,bX,aR⟩:=aI.get aa;obtain⟨x,hx⟩:=ng xs j aa;refine aF 5 (.agg (bJ x)) ?_;refine VT ?_;refine uf ?_ ?_
  ·intro aS;refine B 12 ?_;refine sM (j:Int) results55 rfl A0 rfl ?_;exact VU
  exact VV
 intro av;refine B 11 ?_;refine sM (-1:Int) results55 rfl A0 rfl ?_;exact VW
structure Pl where
 c:Cm
 fst:Bool
 ns:List Nd
 ta:Option Addr
 tc:Nat
 x:Gv
def kV (p:Pl):Array Value:=(ab p.c.folder::ab p.c.epoch::lN p.c.par (ab p.c.author:: .slice p.c.ca p.c.chs.length p.c.cc:: .slice p.c.pa p.c.path.length p.c.pc:: .slice p.c.ba p.c.bxs.length p.c.bc:: .slice p.c.wa p.c.wes.length p.c.wc::lN p.c.conf (ab p.c.sr::ab p.c.ss:: .bool p.fst:: .slice p.ta p.ns.length p.tc::ab p.x.g.folder::ab p.x.g.epoch::lN p.x.g.last [.slice p.x.ma p.x.g.ms.length p.x.mc,.slice p.x.na p.x.g.ns.length p.x.nc]))).toArray
def An (p:Pl):List Value:=(ab p.c.folder::ab p.c.epoch::lN p.c.par (ab p.c.author:: .slice p.c.ca p.c.chs.length p.c.cc:: .slice p.c.pa p.c.path.length p.c.pc:: .slice p.c.ba p.c.bxs.length p.c.bc:: .slice p.c.wa p.c.wes.length p.c.wc::lN p.c.conf (ab p.c.sr::ab p.c.ss:: .bool p.fst:: .slice p.ta p.ns.length p.tc::ab p.x.g.folder::ab p.x.g.epoch::lN p.x.g.last [.slice p.x.ma p.x.g.ms.length p.x.mc,.slice p.x.na p.x.g.ns.length p.x.nc])))
theorem nPd(p:Pl):(An p).length=111:=rfl
theorem nLj(p:Pl):∀u∈An p,u.oneCell'=true:=LD rfl
theorem Mc:prog.info? 92=some Tryz.t92:=by kernel_rfl
theorem nkm:jM prog 89 92 111:=⟨underlying89,Tryz.t92,.agg (ab 0::ab 0::ui (ab 0::ak::ak::ak::ak::ui (ab 0::ab 0::bH::ak::ab 0::ab 0::ui [ak,ak]))).toArray,Mc,rfl,rfl,rfl,by decide⟩
structure DD (F:ad) (p:Pl):Prop where
 ns:iN fZ 2 F p.ta p.ns
 nn:p.ns.length<=90000
 x:qp F p.x
theorem DD.mono{F':ad}{p:Pl}(h:DD F p)(hF:∀q∈F,q∈F'):DD F' p:=⟨h.ns.mono hF,h.nn,h.x.mono hF⟩
noncomputable def qR (gs:List Gp) (k:Nat) (c:Cm):List Nd:=if 0<k then(match gs.find? (λg=>iD g.last c.par)with|some g=>g.ns|none=>[])else[]
abbrev Ap:=Cm×Bool×List Nd×Gp
noncomputable def CE (cs:List Cm) (gs:List Gp) (k:Nat) (q:Nat×Gp):Ap:=(iT cs q.1,decide (k=0),aQ (qR gs k (iT cs q.1)) (iT cs q.1).chs,q.2)
noncomputable def mj (cs:List Cm) (l:List (Nat×Gp)):Nat->List Ap
 |0=>[]
 |j+1=>match l[j]? with|none=>mj cs l j|some q=>mj cs l j++[CE cs (l.map (·.2)) j q]
noncomputable def Ao (Z:Fx) (cs:List Cm) (fo:Fo):List Ap:=mj cs (gJ Z cs fo) (gJ Z cs fo).length
noncomputable def eR (Z:Fx) (cs:List Cm) (fos:List Fo):List Ap:=fos.flatMap (Ao Z cs)
theorem nkf{l:List (Nat×Gp)}(h:l[j]? =some q):mj cs l (j+1)=mj cs l j++[CE cs (l.map (·.2)) j q]:=by conv=>lhs;unfold mj;rw[h]
theorem GL(cs:List Cm)(l:List (Nat×Gp)):∀j,(mj cs l j).length<=j:=
 by intro x;induction x<;>(intros;grind [mj])
theorem nKk{fos:List Fo}(h:fos[i]? =some fo):eR Z cs (fos.take (i+1))=eR Z cs (fos.take i)++Ao Z cs fo:=by unfold eR;rw[np h];simp
def aW (p:Pl):Ap:=(p.c,p.fst,p.ns,p.x.g)
theorem n1n{Z:Fx}{cs:List Cm}{P:Nat×Gp->Prop}(hs:∀p,P p->∀q∈yn Z cs p,P q):∀(n:Nat) (J:List (Nat×Gp)),(∀p∈J,P p)->∀p∈sY Z cs n J,P p
 |0,_,_,p,hp=>by simp[sY]at hp
 |n+1,[],_,p,hp=>by simp[sY]at hp
 |n+1,q::J,h,p,hp=>by
  unfold sY at hp;rcases cd.1 hp with rfl|hp
  ·exact h _ A0
  exact n1n hs n _ (λx hx=>(aY.1 hx).elim (λh1=>h x (.tail _ h1)) (λh1=>hs q (h q A0) x h1)) p hp
def Led (Z:Fx) (cs:List Cm) (p:Nat×Gp):Prop:=∃g c,cs[p.1]? =some c/\iB Z g c=0/\p.2=jY Z g c
theorem nrg:∀p∈gJ Z cs fo,Led Z cs p:=by
 intro p hp;unfold gJ at hp;split at hp
 ·cases hp
 rename_i i hi;refine n1n (P:=Led Z cs) (λq _ r hr=>?_) _ _ (λq hq=>?_) p hp
 ·obtain⟨j,hj,rfl⟩:=bU.1 hr;obtain⟨c,h1,_,_,h4⟩:=nZh hj;exact⟨q.2,c,h1,h4,by show jY Z q.2 (iT cs j)=_;unfold iT;rw[h1];rfl⟩
 rw[fC]at hq;subst hq;unfold sV at hi;rw[Option.bind_eq_some_iff]at hi;obtain⟨j,h1,h2⟩:=hi;split at h2
 ·rename_i h0;have:=Option.some.inj h2;subst this;unfold LV at h1;split at h1
  ·cases h1
  rw[wu]at h1;obtain⟨r,hr,e1⟩:=h1;obtain⟨k,c,f1,_,f3,_⟩:=Sn Z cs _ r (cu hr);rw[f1,xU]at e1;subst e1;have e2:iT cs k=c:=by unfold iT;rw[f3];rfl
  rw[e2]at h0;exact⟨g0 fo,c,f3,h0,by rw[e2]⟩
 cases h2
theorem nco(h:iB Z g c=0):jO c.chs=true:=by grind [iB,fj,xY]
theorem WR{α:Type}{p:α->Bool}{xs:List α}{i:Int}(h:fE p xs i):(i= -1/\xs.find? p=none)\/∃(j:Nat) (x:α),i=(j:Int)/\xs[j]? =some x/\xs.find? p=some x:=by
 rcases h with⟨h1,h2⟩|⟨j,x,h1,h2,h3,h4⟩
 ·exact .inl ⟨h1,List.find?_eq_none.2 λx hx=>by have:=List.any_eq_false.1 h2 x hx;simpa using this⟩
 refine .inr ⟨j,x,h1,h2,List.find?_eq_some_iff_append.2 ⟨h3,xs.take j,xs.drop (j+1),?_,λy hy=>?_⟩⟩
 ·obtain⟨g1,g2⟩:=hJ.1 h2;rw[<-g2,List.getElem_cons_drop,Ba]
 obtain⟨k,hk⟩:=ju.1 hy;have hl:=nq hk;rw[kU]at hl;rw[R0 aa]at hk;simp[h4 k y aa hk]
theorem nCg{gs:List Gv}:(gs.map (·.g)).find? (λg=>iD g.last c.par)=(gs.find? (λx=>iD x.g.last c.par)).map (·.g):=by rw[List.find?_map];rfl
theorem lI{C:Cx}{E:Env}{T off n:Nat}{x:Operand}{cs:Array Value}(hA:fb C.P T true)(hZ:nL C.P T n)(hx:ev E x=some (ptr b off))(hb:(b,Obj.cells cs t fr)∈F)(hn:off+n<=cs.size):RV C (dJ F) L H E (.load T x) (.agg (cut cs off n)):=
 λ_ _ _ _ _ _ _ hF hS=>nWg hA hZ (hF.ev hx) (hS.fzLies _ hb).2 hn
theorem Bh{C:Cx}{E:Env}{T off:Nat}{x:Operand}{cs:Array Value}(hA:fb C.P T false)(hx:ev E x=some (ptr b off))(hb:(b,Obj.cells cs t fr)∈F)(hv:cs[off]? =some v):RV C (dJ F) L H E (.load T x) v:=
 λ_ _ _ _ _ _ _ hF hS=>nZg hA (hF.ev hx) (hS.fzLies _ hb).2 hv
theorem iN.get{α:Type}{enc:α->Array Value}{n:Nat}{xs:List α}(h:iN enc n F a xs)(h0:0<xs.length):∃b off cs t fr,a=some ⟨b,off,none⟩/\(b,Obj.cells cs t fr)∈F/\∀i (h:i<xs.length),off+i*n+n<=cs.size/\cut cs (off+i*n) n=enc xs[i]:=by
 rcases h with h|h
 ·subst h;simp at h0
 exact h
theorem St.fzB{F':ad}(hS:St (dJ F) L H W)(J:∀p∈F',W.heap[p.1]? =some p.2/\p.1∉H.map (·.1)):St (dJ (F'++F)) L H W:=by
 refine⟨λp hp=>?_,λk hk=>?_,λk hk=>hk.elim,hS.links,hS.own,hS.nodup,λp hp hv=>?_⟩
 ·rcases aY.1 hp with hp|hp
  ·exact(J p hp).1
  exact hS.ghost p hp
 ·obtain⟨p,hp,rfl⟩:=bU.1 hk;rcases aY.1 hp with hp|hp
  ·exact(bB.1 (J p hp).1).1
  exact hS.vlt p.1 (bU.2 ⟨p,hp,rfl⟩)
 obtain⟨q,hq,e⟩:=bU.1 hv;rcases aY.1 hq with hq|hq
 ·exact(J q hq).2 (bU.2 ⟨p,hp,e.symm⟩)
 exact hS.apart p hp (bU.2 ⟨q,hq,e⟩)
theorem OJ.fzB{C:Cx}{Q:bE}{E:Env}{D:List Deferred}{ops:Array Oper}{l:List Oper}{L':List World}(F':ad)(h:∀W,St (dJ F) L H W->∀p∈F',W.heap[p.1]? =some p.2/\p.1∉H.map (·.1))(J:∀w∈L',w∈L)(k:OJ C ops Q l E D (dJ (F'++F)) L' H):OJ C ops Q l E D (dJ F) L H:=
 λa W hN hD hF hS=>k a W hN hD hF ((hS.fzB (h W hS)).lessL J)
theorem GM(c:Cm)(b:Nat)(x:Gv)(w:World)(hb1:w.heap[b]? =some (oC (cP c) 61)):Calls prog 56 #[.agg (bJ x),ptr b 0] w (aU w (.bool (iD x.g.last c.par))):=by
 have cN:¬Gh.no.X b:=λh=>h;have J:=(bB.1 hb1).1;refine eN func56 ntmps56 ?_;refine cK 2 ?_;intro b2 w2 dz bY ft dL dH;refine aF 6 (.agg (dg x.g.last)) ?_;refine aF 1 (.agg (dg c.par)) ?_;refine rv rfl rfl rfl (hQ nO zz nF rfl rfl rfl) ?_;refine B 4 ?_;refine aL results56 rfl A1 ?_;rfl
theorem nei(hZ:FxOk Z)(cs:List Cm)(bX:cs.length<=1000)(dG:∀c∈cs,bO c)(N:Nat)(la:Option Addr)(lc:Nat)(w:World)(hN:N<=w.heap.size)(aI:ai cP 73 N w la cs)(hC:∀c∈cs,dC N w c)(fa:Option Addr)(fos:List Fo)(fc:Nat)(kC:fos.length<=10)(mB:cs.length<=10)(qS:ai qQ 33 N w fa fos)(o1 o3 o4 o5 o6 o7:Value)(hg:Glb w):Calls prog 30 #[.agg #[.slice fa fos.length fc,o1,.slice la cs.length lc,o3,o4,o5,o6,o7]] w (λe w'=>∃(q:(Option Addr×Nat)×List Pl) (F':ad),e= .returned (.slice q.1.1 q.2.length q.1.2)/\Below w.heap.size w w'/\(∀p∈F',w.heap.size<=p.1/\w'.heap[p.1]? =some p.2)/\q.2.map aW=eR Z cs fos/\(∀p∈q.2,DD F' p/\p.c∈cs)/\q.2.length<=100/\iN (λx=>(An x).toArray) 111 F' q.1.1 q.2):=by
 have cT:=hg.lt;refine nB (dJ []) [] (vs:=[_]) func30 rfl ntmps30 rfl (Lo w) ?_;refine cK 2 ?_;intro b1 w1 hb1 cN gV gb jJ;refine B 13 ?_;refine CJ.loop (α:=((Rw×List Pl)×ad)×Nat) (λp9=>[(1,ptr b1 0),(2,p9.1.1.1.val p9.1.1.2.length),(13,.slice fa fos.length fc),(14,ab (fos.length:Int)),(15,ab (p9.2:Int))]) (λp9=>p9.1.1.1.hp An 92 p9.1.1.2++[]) (λp9=>[w1,w]) (λp9=>dJ p9.1.2) (λp9=>p9.2<=fos.length/\p9.1.1.1.Fr (dJ p9.1.2) [w1,w]/\p9.1.1.1.Fit 111 p9.1.1.2/\p9.1.1.2.map aW=eR Z cs (fos.take p9.2)/\(∀p∈p9.1.1.2,DD p9.1.2 p/\p.c∈cs)/\p9.1.1.2.length<=p9.2*10/\∀q∈p9.1.2,w.heap.size<=q.1) (λp9=>fos.length-p9.2) (((.nil,[]),[]),0) ⟨cO _,True.intro,rfl,rfl,by simp,aj _,by simp⟩ zR rfl rfl zI ?_;rintro⟨⟨⟨r,pls⟩,F⟩,i⟩ ⟨hi,aK,ae,aX,gW,gq,dD⟩;dsimp only at hi aK ae aX gW gq dD ⊢;have bK:r.ge w1.heap.size:=Rw.ge_fz aK A0;refine aG 6 ?_ ?_
 ·intro av;refine B 5 ?_;obtain⟨bf,of,ej,tf,dp,rfl,GN,dL,SY⟩:=qS.get aa;obtain⟨fo,sU⟩:=ng fos i aa;refine aF 2 (.agg (qQ fo)) ?_;refine bM 1 ?_;intro b4 iW iX;refine aF 5 (.agg (qQ fo)) ?_;refine aF 1 (.slice la cs.length lc) ?_;refine Pe (γ:=((Option Addr×Nat)×(Option Addr×Nat))×List Cd) (v:=λq=>.tuple #[.slice q.1.1.1 q.2.length q.1.1.2,.slice q.1.2.1 q.2.length q.1.2.2]) (Φ:=λF' q=>AlV Z cs fo F' q.2/\iN (λx=>(aA x).toArray) 1 F' q.1.1.1 (q.2.map λd=>d.at_)/\iN (λx=>(lP x).toArray) 36 F' q.1.2.1 (q.2.map λd=>d.x)) call33 rfl rfl rfl (λW hS=>n8h hZ cs bX dG N la lc W cR (aI.up (aj _) (hS.same A1 hN zF zC)) (λc hc=>(hC c hc).up (aj _) (hS.same A1 hN zF zC)) fo (hg.old hS A1 zF zC)) ?_;rintro⟨⟨⟨a1,c1⟩,⟨a3,c3⟩⟩,ds⟩ F1 ⟨hv,uJ,Bg⟩ wB;dsimp only at hv uJ Bg ⊢;have Bg:iN bJ 36 F1 a3 (ds.map λd=>d.x):=Bg;have uP:=hv.len;refine B 15 ?_;refine CJ.loop (α:=((Rw×List Pl)×ad)×Nat) (λJ=>[(1,ptr b1 0),(2,J.1.1.1.val J.1.1.2.length),(5,.slice a1 ds.length c1),(6,.slice a3 ds.length c3),(13,.slice (some ⟨bf,of,none⟩) fos.length fc),(14,ab (fos.length:Int)),(15,ab (i:Int)),(26,.slice a1 ds.length c1),(27,ab (ds.length:Int)),(28,ab (J.2:Int))]) (λJ=>[(b4,oC (qQ fo) 97)]++(J.1.1.1.hp An 92 J.1.1.2++[])) (λJ=>[w1,w]) (λJ=>dJ J.1.2) (λJ=>(J.2<=ds.length/\∀q∈F1,q∈J.1.2)/\J.1.1.1.Fr (dJ J.1.2) [w1,w]/\J.1.1.1.Fit 111 J.1.1.2/\J.1.1.2.map aW=eR Z cs (fos.take i)++mj cs (ds.map pR) J.2/\(∀p∈J.1.1.2,DD J.1.2 p/\p.c∈cs)/\J.1.1.2.length<=i*10+J.2/\∀q∈J.1.2,w.heap.size<=q.1) (λJ=>ds.length-J.2) (((r,pls),F1++F),0) ⟨⟨cO _,λq hq=>aY.2 (.inl hq)⟩,aK,ae,by dsimp only;rw[aX];exact(ec _).symm,λp hp=>⟨(gW p hp).1.mono (λq hq=>aY.2 (.inr hq)),(gW p hp).2⟩,by dsimp only;omega,λq hq=>(aY.1 hq).elim (λh=>(wB q h).not A1) (dD q)⟩ zR rfl rfl zI ?_
  rintro⟨⟨⟨r,pls⟩,F⟩,j⟩ ⟨⟨hj,je⟩,aK,ae,aX,gW,gq,dD⟩;dsimp only at hj je aK ae aX gW gq dD ⊢;have bK:r.ge w1.heap.size:=Rw.ge_fz aK A0;refine aG 6 ?_ ?_
  ·intro aS;refine B 5 ?_;obtain⟨d,hd⟩:=ng ds j aa;have lA:=hv.d d (cu hd);have Pk:d.c∈cs:=cu lA.1;have hdi:d.at_=((jH d:Nat):Int):=by have:=lA.2.1;unfold jH;omega
   obtain⟨g9,c9,pw,bz,_⟩:=nrg (pR d) (hv.eq▸bU.2 ⟨d,cu hd,rfl⟩);obtain rfl:c9=d.c:=by have h9:cs[jH d]? =some c9:=pw;rw[lA.1]at h9;exact(Option.some.inj h9).symm
   have uG:=Zt (nco bz);have hax:(ds.map λd=>d.at_)[j]? =some d.at_:=by rw[oh,hd];rfl
   have Aq:(ds.map λd=>d.x)[j]? =some d.x:=by rw[oh,hd];rfl
   have GO:(ds.map pR).map (·.2)=(ds.map λd=>d.x).map (·.g):=by rw[List.map_map,List.map_map];rfl
   obtain⟨ba,oa,dK,cy,cz,rfl,SA,Gs⟩:=(uJ.mono je).get (by rw[eK];omega);obtain⟨bg,og,dO,ed,c4,rfl,CF,kN⟩:=(Bg.mono je).get (by rw[eK];omega);have eb:=nq lA.1;obtain⟨bl,ol,ea,tl,dn,rfl,jq,tR,mK⟩:=aI.get aa;refine B 3 ?_;refine rv rfl rfl rfl (Bh (v:=ab d.at_) isAgg3 rfl SA zNc) ?_;refine aF 7 (.slice (some ⟨bl,ol,none⟩) cs.length lc) ?_;refine rq (ab ((jH d:Nat):Int)) (pQ rfl) ((congrArg ab hdi)) ?_;refine B 1 ?_;refine rq (.agg (cP d.c)) (dt isAgg61 sizeOf61 rfl A1 tR zH zy (de mK lA.1 rfl)) (va (dY mK lA.1 rfl)) ?_;refine bM 1 ?_;intro b9 xP uh;refine B 6 ?_;intro fN lq oj;replace lq:=yb lq;refine B 7 ?_;refine ny (α:=Int) (v:=λi:Int=>ab i) (Φ:=λ_ i _=>fE (λy=>iD y.g.last d.c.par) (ds.map λd=>d.x) i) call55 rfl rfl rfl (λW hS=>?_) ?_
   ·have zV:=hS.own (b9,_) A1;have h9:=n1l (λy=>iD y.g.last d.c.par) 56 [ptr b9 0] call56 (ds.map λd=>d.x) (by rw[eK];omega) W.heap.size (some ⟨bg,og,none⟩) c3 W (aj _) ((Bg.mono je).at hS.fzLies) (λj x hx W2 hB=>GM d.c b9 x W2 (by rw[hB.block b9 (bB.1 zV).1];exact zV));rw[eK]at h9;exact h9
   intro Wi ix wi Fi Fj DE;refine B 8 ?_;refine ni (t:=43) rfl (λdh=>?_) (λdh=>?_)
   ·replace dh:=ya dh;refine aG 5 ?_ ?_
    ·intro iR;obtain⟨n,xb,rfl,WS,bx⟩:=(WR DE).resolve_left (λh=>by have:=h.1;omega);have Pm:0<j:=by omega
     have wZ:=nq WS;rw[eK]at wZ;refine B 4 ?_;refine rq (.agg (bJ xb)) (lI isAgg53 sizeOf53 rfl (CF) (de kN WS rfl)) (va (dY kN WS rfl)) ?_;refine B 3 ?_;have GN:qR ((ds.map pR).map (·.2)) j d.c=xb.g.ns:=by unfold qR;rw[if_pos Pm,GO,nCg,bx];rfl
     obtain⟨db,bL,bw⟩:=bU.1 (cu WS);have CG:qp F xb:=by rw[<-bw];exact(hv.d db bL).2.2.mono (λp hp=>je p hp)
     have br:=CG.nn;refine eS 15 8 [13,14] (pb:=by exact zU 3 (k:=by exact aM (X.v (RV.re (v':=.bool (decide (j=0))) (kZ rfl rfl) ((vb (decide_eq_decide.2 aa))))) (zU 8 (k:=by exact aM (X.v (RV.re (v':=.agg (bJ d.x)) (lI isAgg53 sizeOf53 rfl (CF) (de kN Aq rfl)) (va (dY kN Aq rfl)))) zT)))) (sp:=[_,some (.agg (cP d.c)),_,_,_,some (.agg #[.slice xb.na xb.g.ns.length xb.nc]),_,some (.slice d.c.ca d.c.chs.length d.c.cc),_,_,_,_,some (.agg (bJ d.x)),_,_]) (h:=?_);intro _ _ hk;refine ny (α:=Option Addr×Nat) (v:=λq=>.agg #[.slice q.1 (aQ xb.g.ns d.c.chs).length q.2]) (Φ:=λW q w1=>ai fZ 2 w1.heap.size w1 q.1 (aQ xb.g.ns d.c.chs)/\((d.c.chs=[]/\q=(xb.na,xb.nc))\/∀b off,q.1=some ⟨b,off,none⟩->W.heap.size<=b)) call57 rfl rfl rfl (λW hS=>nDg xb.g.ns aa d.c.chs uG.2 uG.1 W.heap.size xb.na xb.nc d.c.ca d.c.cc W (aj _) (CG.lies hS.fzLies).ns ((hC d.c Pk).chs.up cR (hS.same A2 hN zF zC))) ?_;rintro W9 ⟨q1,q2⟩ w8 cF xX ⟨hq1,uz⟩;dsimp only at hq1 uz;have pj:w.heap.size<=(W9.heap.size):=(cF.links w A2).size;have hK2:(∀p∈(([(fN,oC (bJ xb) 53),(b9,oC (cP d.c) 61),(b4,oC (qQ fo) 97)]:ad)++(r.hp An 92 pls++[]):ad),p.1<(W9.heap.size)):=λp hp=>cF.lt p hp;refine zG ?_;intro _ _ hk;refine du (.agg (kV (⟨d.c,decide (j=0),aQ xb.g.ns d.c.chs,q1,q2,d.x⟩:Pl))) ?_
     refine zG ?_;intro _ _ hk;refine zAe ?_;intro WT xp iA;refine zE ?_;replace xp:=yb xp;obtain⟨FT,SZ,aq⟩:∃FT:ad,(∀p∈FT,(W9.heap.size)<=p.1/\p.1<w8.heap.size/\w8.heap[p.1]? =some p.2)/\iN fZ 2 (FT++F) q1 (aQ xb.g.ns d.c.chs):=by
      rcases uz with⟨h1,h2⟩|h2
      ·exact z6g
      by_cases h0:aQ xb.g.ns d.c.chs=[]
      ·exact⟨[],by simp,.inl h0⟩
      exact zkg
     refine OJ.fzB (L':=[w1,w]) FT (λW hS p hp=>?_) zI ?_
     ·have h1:=SZ p hp;have hn:p.1∉List.map (·.1) ([(WT,oC (kV (⟨d.c,decide (j=0),aQ xb.g.ns d.c.chs,q1,q2,d.x⟩:Pl)) 92),(fN,oC (bJ xb) 53),(b9,oC (cP d.c) 61),(b4,oC (qQ fo) 97)]++(r.hp An 92 pls++[]):ad):=by
       intro hm;obtain⟨p9,hp9,e9⟩:=bU.1 hm;rcases cd.1 hp9 with h2|h2
       ·rw[h2]at e9;dsimp only at e9;omega
       have:=hK2 p9 h2;omega
      exact⟨((hS.links w8 A0).block p.1 h1.2.1 (λhx=>hx.elim zH (λh=>hn h))).trans h1.2.2,hn⟩
     refine jV (r:=r) (xs:=pls) (zs:=[(⟨d.c,decide (j=0),aQ xb.g.ns d.c.chs,q1,q2,d.x⟩:Pl)]) (enc:=An) (m:=111) (H0:=[(WT,oC (kV (⟨d.c,decide (j=0),aQ xb.g.ns d.c.chs,q1,q2,d.x⟩:Pl)) 92),(fN,oC (bJ xb) 53),(b9,oC (cP d.c) 61),(b4,oC (qQ fo) 97)]) (H1:=[]) zW nkm nPd rfl rfl rfl rfl (ck.one (z:=(⟨d.c,decide (j=0),aQ xb.g.ns d.c.chs,q1,q2,d.x⟩:Pl)) nPd nLj underlying89 (bF.own (i:=0) rfl)) ae aK zI za ?_;intro al GP GQ so sq;replace so:=yb so;refine zd ?_;refine qD ?_;refine PJ.again (((Rw.row al GP GQ,pls++[(⟨d.c,decide (j=0),aQ xb.g.ns d.c.chs,q1,q2,d.x⟩:Pl)]),FT++F),j+1) ⟨⟨by dsimp only;omega,λq hq=>aY.2 (.inr (je q hq))⟩,so.elim (λh=>Rw.Fr_at aK h) (λh=>.inr zB),sq,by dsimp only;rw[nkf (q:=pR d) (by rw[oh,hd];rfl),gN,aX,iY];congr 2;unfold CE;rw[show iT cs (pR d).1=d.c by show iT cs (jH d)=d.c;unfold iT;rw[lA.1];rfl,GN];rfl,
      λp hp=>(aY.1 hp).elim (λh=>⟨(gW p h).1.mono (λq hq=>aY.2 (.inr hq)),(gW p h).2⟩) (λh=>by rw[fC.1 h];exact⟨⟨aq,by have:=OT d.c.chs xb.g.ns;dsimp only;omega,lA.2.2.mono (λq hq=>aY.2 (.inr (je q hq)))⟩,Pk⟩),by dsimp only;rw[cB];simp only[dI,fJ];omega,λq hq=>(aY.1 hq).elim (λh=>by have:=(SZ q h).1;omega) (dD q)⟩ zS zR rfl rfl zI
    intro iR;refine B 2 ?_;have GN:qR ((ds.map pR).map (·.2)) j d.c=gj.g.ns:=by
     exact zSg
    have CG:qp F gj:=⟨.inl rfl,.inl rfl,by simp[gj,uF],by simp[gj,uF]⟩;have br:=CG.nn;refine eS 15 8 [13,14] (pb:=by exact zU 3 (k:=by exact aM (X.v (RV.re (v':=.bool (decide (j=0))) (kZ rfl rfl) ((vb (decide_eq_decide.2 aa))))) (zU 8 (k:=by exact aM (X.v (RV.re (v':=.agg (bJ d.x)) (lI isAgg53 sizeOf53 rfl (CF) (de kN Aq rfl)) (va (dY kN Aq rfl)))) zT)))) (sp:=[_,some (.agg (cP d.c)),_,_,_,some (.agg #[.slice gj.na gj.g.ns.length gj.nc]),_,some (.slice d.c.ca d.c.chs.length d.c.cc),_,_,_,_,some (.agg (bJ d.x)),_,_]) (h:=?_);intro _ _ hk;refine zhd ?_;rintro W9 ⟨q1,q2⟩ w8 cF xX ⟨hq1,uz⟩;dsimp only at hq1 uz;have pj:w.heap.size<=(W9.heap.size):=(cF.links w A2).size;have hK2:(∀p∈(([(fN,oC (bJ gj) 53),(b9,oC (cP d.c) 61),(b4,oC (qQ fo) 97)]:ad)++(r.hp An 92 pls++[]):ad),p.1<(W9.heap.size)):=λp hp=>cF.lt p hp;refine zG ?_;intro _ _ hk;refine zZe ?_;intro _ _ hk;refine zAe ?_;intro WT xp iA;refine zE ?_;replace xp:=yb xp;obtain⟨FT,SZ,aq⟩:∃FT:ad,(∀p∈FT,(W9.heap.size)<=p.1/\p.1<w8.heap.size/\w8.heap[p.1]? =some p.2)/\iN fZ 2 (FT++F) q1 (aQ gj.g.ns d.c.chs):=by
     exact zsi
    refine OJ.fzB (L':=[w1,w]) FT (λW hS p hp=>?_) zI ?_
    ·exact zvg
    refine zid ?_;intro al GP GQ so sq;replace so:=yb so;refine zd ?_;refine qD ?_;refine PJ.again (((Rw.row al GP GQ,pls++[(⟨d.c,decide (j=0),aQ gj.g.ns d.c.chs,q1,q2,d.x⟩:Pl)]),FT++F),j+1) ⟨⟨by dsimp only;omega,λq hq=>aY.2 (.inr (je q hq))⟩,so.elim (λh=>Rw.Fr_at aK h) (λh=>.inr zB),sq,by dsimp only;rw[nkf (q:=pR d) (by rw[oh,hd];rfl),gN,aX,iY];congr 2;unfold CE;rw[show iT cs (pR d).1=d.c by show iT cs (jH d)=d.c;unfold iT;rw[lA.1];rfl,GN];rfl,
     λp hp=>(aY.1 hp).elim (λh=>⟨(gW p h).1.mono (λq hq=>aY.2 (.inr hq)),(gW p h).2⟩) (λh=>by rw[fC.1 h];exact⟨⟨aq,by have:=OT d.c.chs gj.g.ns;dsimp only;omega,lA.2.2.mono (λq hq=>aY.2 (.inr (je q hq)))⟩,Pk⟩),by dsimp only;rw[cB];simp only[dI,fJ];omega,λq hq=>(aY.1 hq).elim (λh=>by have:=(SZ q h).1;omega) (dD q)⟩ zS zR rfl rfl zI
   replace dh:=ya dh;refine B 8 ?_;have GN:qR ((ds.map pR).map (·.2)) j d.c=gj.g.ns:=by
    exact zSg
   have CG:qp F gj:=⟨.inl rfl,.inl rfl,by simp[gj,uF],by simp[gj,uF]⟩;have br:=CG.nn;refine eS 15 8 [13,14] (pb:=by exact zU 3 (k:=by exact aM (X.v (RV.re (v':=.bool (decide (j=0))) (kZ rfl rfl) ((vb (decide_eq_decide.2 aa))))) (zU 8 (k:=by exact aM (X.v (RV.re (v':=.agg (bJ d.x)) (lI isAgg53 sizeOf53 rfl (CF) (de kN Aq rfl)) (va (dY kN Aq rfl)))) zT)))) (sp:=[_,some (.agg (cP d.c)),_,_,_,some (.agg #[.slice gj.na gj.g.ns.length gj.nc]),_,some (.slice d.c.ca d.c.chs.length d.c.cc),_,_,_,_,some (.agg (bJ d.x)),_,_]) (h:=?_);intro _ _ hk;refine zhd ?_;rintro W9 ⟨q1,q2⟩ w8 cF xX ⟨hq1,uz⟩;dsimp only at hq1 uz;have pj:w.heap.size<=(W9.heap.size):=(cF.links w A2).size;have hK2:(∀p∈(([(fN,oC (bJ gj) 53),(b9,oC (cP d.c) 61),(b4,oC (qQ fo) 97)]:ad)++(r.hp An 92 pls++[]):ad),p.1<(W9.heap.size)):=λp hp=>cF.lt p hp;refine zG ?_;intro _ _ hk;refine zZe ?_;intro _ _ hk;refine zAe ?_;intro WT xp iA;refine zE ?_;replace xp:=yb xp;obtain⟨FT,SZ,aq⟩:∃FT:ad,(∀p∈FT,(W9.heap.size)<=p.1/\p.1<w8.heap.size/\w8.heap[p.1]? =some p.2)/\iN fZ 2 (FT++F) q1 (aQ gj.g.ns d.c.chs):=by
    exact zsi
   refine OJ.fzB (L':=[w1,w]) FT (λW hS p hp=>?_) zI ?_
   ·exact zvg
   refine zid ?_;intro al GP GQ so sq;replace so:=yb so;refine zd ?_;refine qD ?_;refine PJ.again (((Rw.row al GP GQ,pls++[(⟨d.c,decide (j=0),aQ gj.g.ns d.c.chs,q1,q2,d.x⟩:Pl)]),FT++F),j+1) ⟨⟨by dsimp only;omega,λq hq=>aY.2 (.inr (je q hq))⟩,so.elim (λh=>Rw.Fr_at aK h) (λh=>.inr zB),sq,by dsimp only;rw[nkf (q:=pR d) (by rw[oh,hd];rfl),gN,aX,iY];congr 2;unfold CE;rw[show iT cs (pR d).1=d.c by show iT cs (jH d)=d.c;unfold iT;rw[lA.1];rfl,GN];rfl,
    λp hp=>(aY.1 hp).elim (λh=>⟨(gW p h).1.mono (λq hq=>aY.2 (.inr hq)),(gW p h).2⟩) (λh=>by rw[fC.1 h];exact⟨⟨aq,by have:=OT d.c.chs gj.g.ns;dsimp only;omega,lA.2.2.mono (λq hq=>aY.2 (.inr (je q hq)))⟩,Pk⟩),by dsimp only;rw[cB];simp only[dI,fJ];omega,λq hq=>(aY.1 hq).elim (λh=>by have:=(SZ q h).1;omega) (dD q)⟩ zS zR rfl rfl zI
  intro aS;refine B 10 ?_;refine qD ?_;exact z9g
 intro av;refine B 12 ?_;have bA:i=fos.length:=by omega
 rw[bA,ur]at aX;refine bS (.inl rfl) results30 bD λW hS=>?_;have Aj:r.At An 92 pls W:=by
  cases r with
  |nil=>trivial
  |row b cap sp=>exact hS.own (b,_) o8
 obtain⟨a1,c1,uq,uJ⟩:=Rw.sl nPd ae Aj (aj W.heap.size);exact zsg
structure Dv where
 fr:List Se
 to:Se
 fa:Option Addr
 fc:Nat
def vG (d:Dv):Array Value:=(.slice d.fa d.fr.length d.fc::ab d.to.kind::ab d.to.pub::lN (fq d.to.com) [ab d.to.lev]).toArray
def iG (d:Dv):List Value:=(.slice d.fa d.fr.length d.fc::ab d.to.kind::ab d.to.pub::lN (fq d.to.com) [ab d.to.lev])
theorem GR(d:Dv):(iG d).length=36:=rfl
theorem nAh(d:Dv):∀u∈iG d,u.oneCell'=true:=LD rfl
theorem Md:prog.info? 142=some Tryz.t142:=by kernel_rfl
theorem nEl:jM prog 138 142 36:=⟨underlying138,Tryz.t142,.agg (ak::ab 0::ab 0::ui [ab 0]).toArray,Md,rfl,rfl,rfl,by decide⟩
def ig (d:Dv):List Se×Se:=(d.fr,d.to)
structure fT (Z:aJ) (K N:Nat) (w:World) (d:Dv):Prop where
 ne:d.fr≠ []
 sl:ai seA 35 N w d.fa d.fr
 out:∀q,d.fa=some q->¬Z q.block/\K<=q.block
theorem fT.up{Z Z':aJ}{d:Dv}(h:fT Z K N w d)(hz:N<=W.heap.size)(hs:∀b off,d.fa=some ⟨b,off,none⟩->K<=b->b<N->¬Z b->W.heap[b]? =w.heap[b]?)(hZ:∀b,K<=b->b<N->Z' b->Z b):fT Z' K W.heap.size W d:=by
 rcases h.sl with h1|⟨b,off,cs,t,fr,e1,e2,e3,e4⟩
 ·exact absurd h1 h.ne
 have h2:=h.out _ e1;refine⟨h.ne,.inr ⟨b,off,cs,t,fr,e1,by omega,(hs b off e1 h2.2 e2 h2.1).trans e3,e4⟩,λq hq=>?_⟩;rw[e1]at hq;cases hq;exact⟨λJ=>h2.1 (hZ b h2.2 e2 J),h2.2⟩
theorem fT.low{Z:aJ}{J:Nat}{d:Dv}(h:fT Z K N w d)(hK:J<=K):fT Z J N w d:=⟨h.ne,h.sl,λq hq=>⟨(h.out q hq).1,eB hK (h.out q hq).2⟩⟩
theorem fT.one{Z:aJ}{s to:Se}{c:Nat}(hb:w.heap[b]? =some (.cells (seA s) t fr))(hz:¬Z b)(J:K<=b):fT Z K w.heap.size w ⟨[s],to,some ⟨b,0,none⟩,c⟩:=by
 refine⟨by simp,.inr ⟨b,0,_,_,_,rfl,(bB.1 hb).1,hb,λi hi=>?_⟩,λq hq=>by cases hq;exact⟨hz,J⟩⟩;have h0:i=0:=by simp only[dI,fJ]at hi;omega
 subst h0;exact⟨aj _,rfl⟩
noncomputable def yo (p:Ap) (b:Bx):List (List Se×Se):=match cJ p.2.2.1 b.node with|some y=>[([aN y],nj (dk p.2.2.2.last) b.level)]|none=>[]
def Bi (p:Ap) (k:Nat) (y:Int):List (List Se×Se):=([nj (dk p.2.2.2.last) (k:Int)],aN y)::if k<9 then[([nj (dk p.2.2.2.last) (k:Int)],nj (dk p.2.2.2.last) ((k+1:Nat):Int))]else[]
def kr (p:Ap):Nat->List (List Se×Se)
 |0=>[]
 |j+1=>match p.1.path[j]? with|none=>kr p j|some y=>kr p j++Bi p j y
def Me (p:Ap):List Se:=nj (dk p.2.2.2.last) 9::if p.2.1=true then[]else[aP (dk p.1.par)]
def oO (d:Int):Int:=if di d then 512+d else 0
noncomputable def Bj (p:Ap) (x:We):List (List Se×Se):=match cJ p.2.2.1 (oO x.dev)with|some y=>[([aN y],aP (dk p.2.2.2.last))]|none=>[]
noncomputable def gK (p:Ap):List (List Se×Se):=p.1.bxs.flatMap (yo p)++kr p p.1.path.length++[(Me p,aP (dk p.2.2.2.last))]++p.1.wes.flatMap (Bj p)
theorem WU:∀{l:Nat} {W0:World} {MI RO M:aJ} {hM:∀k,M k->k<W0.heap.size/\¬MI k/\¬RO k} {V:aJ} {I:World->Prop} {hI:gu (λk=>(k<W0.heap.size/\¬MI k)\/V k) I} {I1 X1:aJ->World->Prop} (lM:∀V,gu (λk=>(k<W0.heap.size/\¬MI k)\/V k) (I1 V)) (gk:∀V,gu (λk=>(k<W0.heap.size/\¬MI k)\/V k) (X1 V)) (hV:∀k,V k->W0.heap.size<=k) (x:Dv) (b2:Nat) (W:World) (Mf:St (dF hM V hI) [W] [] W) (dz:W.heap[b2]? =some (oC #[yv l] 145)) (J:¬(M b2\/V b2)) (hy:∀W1,aT (λk=>M k\/V k) W W1->(∀k,V k->W0.heap.size<=k/\k<W1.heap.size)->I W1->S0 prog l #[.agg (vG x)] W1 (λb W2=>aT (λk=>M k\/V k) W1 W2/\(if b then I1 (rm V W1 W2) W2 else X1 (rm V W1 W2) W2))),Calls prog 167 #[cV x.to,.slice x.fa x.fr.length x.fc,ptr b2 0] W (YR M V I1 X1 W):=by
 intro l W0 MI RO M hM V I hI I1 X1 lM gk hV x b2 W Mf dz J hy;have Ep:=(bB.1 dz).1;have bY:¬(dF hM V hI).X b2:=J;have cW:=dz;refine nB (dF hM V hI) [] (vs:=[_,_,_]) func167 rfl ntmps167 rfl Mf ?_;refine cK 2 ?_;intro b3 w3 dE da gi eO fw;refine aF 7 (cV x.to) ?_;refine du (.agg (vG x)) ?_;refine aaV (λ_=>False) id Zr (V:=V) lM gk hV rfl rfl rfl rfl (λW1 su ay qB=>hy W1 ((su.links W A1).mono (λk _ hx=>hx.elim id (λh=>by simp at h))) ay qB) ?_ ?_
 ·intro V2 lO wY;refine B 4 ?_;exact bS (.inl rfl) results167 bD λW2 hS=>⟨true,V2,rfl,lO,λk hk=>(wY W A1 k hk).imp id (λh=>⟨h,hS.xlt k (.inr hk)⟩),(hS.links W A1).mono (λk hk hx=>by rcases hx with(hx|hx)|hx;(exact .inl hx);(rcases wY W A1 k hx with h|h;(exact .inr h);omega);simp at hx),hS.ghost⟩
 intro V2 lO wY;refine B 4 ?_;exact bS (.inl rfl) results167 bD λW2 hS=>⟨false,V2,rfl,lO,λk hk=>(wY W A1 k hk).imp id (λh=>⟨h,hS.xlt k (.inr hk)⟩),(hS.links W A1).mono (λk hk hx=>by rcases hx with(hx|hx)|hx;(exact .inl hx);(rcases wY W A1 k hx with h|h;(exact .inr h);omega);simp at hx),hS.ghost⟩
end Px
