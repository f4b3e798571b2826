/- Contracts of functions of the program. No conditions. -/
import Derived.Test.YtodpaegknpbomaaGreatDoorKb
import Derived.Test.YtodpaegknpbomaaGreatDoorProg
import Derived.Shelf.SlSortCmp.WholeK
import Derived.Deep.RegionWith
import Derived.Handy
import Derived.Lib.Bytealg
import Derived.Laws.Externs
import Derived.Test.YtodpaegknpbomaaGreatDoorLa
set_option linter.unusedSimpArgs false
set_option linter.unusedVariables false
set_option linter.unusedSectionVars false
set_option maxRecDepth 20000
set_option maxHeartbeats 8000000
namespace Px
open Go Go.RowKit Go.Proofs Go.Proofs.Tryz
noncomputable def bO (Z:Fx) (cs:List Cm):Nat->List (Dk×Int)
 |0=>[]
 |j+1=>match cs[j]? with
  |none=>bO Z cs j
  |some c=>if dk (aB Z c)∈(bO Z cs j).map (·.1)then bO Z cs j else bO Z cs j++[(dk (aB Z c),(j:Int))]
variable {d:Cd} {c:Cm} {Z:Fx} {g:Gp} {x:Gv} {F H:ad} {l:List (Dk×Int)} {vs:List (Nat×Gp)} {cs:List Cm} {cap sp:List Value} {L:List World} {K N b i j k t:Nat} {q:Nat×Gp} {fr:Nat×Nat} {RO:Nat->Prop} {a:Option Addr} {v:Value} {W w:World}
theorem nsh(hc:cs[j]? =some c)(h:dk (aB Z c)∈(bO Z cs j).map (·.1)):bO Z cs (j+1)=bO Z cs j:=by simp only[bO,hc,if_pos h]
theorem nFh(hc:cs[j]? =some c)(h:¬dk (aB Z c)∈(bO Z cs j).map (·.1)):bO Z cs (j+1)=bO Z cs j++[(dk (aB Z c),(j:Int))]:=by simp only[bO,hc,if_neg h]
theorem nyh(Z:Fx)(cs:List Cm):∀j,(bO Z cs j).length<=j:=
 by intro x;induction x<;>(intros;grind [bO])
theorem nMg(Z:Fx)(cs:List Cm):∀j,((bO Z cs j).map (·.1)).Nodup:=
 by intro x;induction x<;>(intros;grind [bO])
theorem Sk(Z:Fx)(cs:List Cm):∀(j:Nat) (p:Dk×Int),p∈bO Z cs j->∃(i:Nat) (c:Cm),p.2=(i:Int)/\i<j/\cs[i]? =some c/\p.1=dk (aB Z c):=
 by intro x;induction x<;>(intros;grind [bO])
def ql (l:List (Dk×Int)):List (Dk×Bool):=l.map λp=>(p.1,true)
theorem ngg(l:List (Dk×Int)):(ql l).map (·.1)=l.map (·.1):=by simp[ql]
theorem nUn(l:List (Dk×Int))(k:Dk):(gN (ql l) k).getD false=decide (k∈l.map (·.1)):=by
 by_cases h:k∈l.map (·.1)
 ·cases e:gN (ql l) k with
  |none=>rw[nUg,ngg]at e;exact absurd h e
  |some v=>
   obtain⟨q,hq,rfl⟩:=wv.1 e;have h2:=WC hq;obtain⟨p,_,hp⟩:=bT.1 (cA h2);have:q.2=true:=(Prod.mk.inj hp).2.symm;simp[this,h]
 all_goals grind [gN,ql,nUg,ngg]
theorem nuo{k:Dk}(h:k∈l.map (·.1)):fZ (ql l) k true=ql l:=by
 unfold fZ;cases hi:fp k (ql l) 0 with
 |none=>have:=nof.1 hi;rw[ngg]at this;exact absurd h this
 |some q=>
  obtain⟨i,v⟩:=q;have h2:=WC hi;obtain⟨p,_,hp⟩:=bT.1 (cA h2);have hv:v=true:=(Prod.mk.inj hp).2.symm;subst hv;apply C3;intro n;rw[axr];split
  ·rename_i e;subst e;rw[if_pos (gW.1 h2).1,h2]
  rfl
theorem nGo{k:Dk}{j:Int}(h:¬k∈l.map (·.1)):fZ (ql l) k true=ql (l++[(k,j)]):=by
 unfold fZ;cases hi:fp k (ql l) 0 with
 |none=>simp[ql]
 |some q=>
  have h2:=WC (l:=ql l) (i:=q.1) (v:=q.2) hi;have:k∈(ql l).map (·.1):=bT.2 ⟨_,cA h2,rfl⟩;rw[ngg]at this;exact absurd this h
theorem nQh(o:Option Bool):(o.map Value.bool).getD (bG)= .bool (o.getD false):=by cases o<;>rfl
theorem nPk{p:Dk×Int}:(l++[p]).map (·.1)=l.map (·.1)++[p.1]:=by simp
theorem ntk{p:Dk×Int}:(l++[p]).map (·.2)=l.map (·.2)++[p.2]:=by simp
structure Pv where
 ia:Option Addr
 ic:Nat
 ta:Option Addr
 tc:Nat
noncomputable def Ac (Z:Fx) (cs:List Cm) (la:Option Addr) (lc:Nat) (p:Pv):Array Value:=#[.slice la cs.length lc,.slice p.ia ((bO Z cs cs.length).map (·.1)).length p.ic,.slice p.ta ((bO Z cs cs.length).map (·.2)).length p.tc]
structure pN (Z:Fx) (cs:List Cm) (N:Nat) (w:World) (p:Pv):Prop where
 ids:ai vA 32 N w p.ia ((bO Z cs cs.length).map (·.1))
 at_:ai (λx=>(az x).toArray) 1 N w p.ta ((bO Z cs cs.length).map (·.2))
theorem pN.up{N':Nat}{w':World}{p:Pv}(h:pN Z cs N w p)(hN:N<=N')(hw:∀k,k<N->w'.heap[k]? =w.heap[k]?):pN Z cs N' w' p:=⟨h.ids.up hN hw,h.at_.up hN hw⟩
theorem newPool(hZ:FxOk Z)(cs:List Cm)(bW:cs.length<=1000)(dE:∀c∈cs,bN c)(N:Nat)(la:Option Addr)(lc:Nat)(w:World)(hN:N<=w.heap.size)(aH:ai cM 73 N w la cs)(hC:∀c∈cs,dB N w c)(hg:Glb w):Calls prog 61 #[.slice la cs.length lc] w (cZ w (λp:Pv=>.agg (Ac Z cs la lc p)) (λp w1=>pN Z cs w1.heap.size w1 p/\(∀q,p.ia=some q->w.heap.size<=q.block)/\∀q,p.ta=some q->w.heap.size<=q.block)):=by
 have hg4:=hg.lt;refine eN func61 ntmps61 ?_;refine bH 3 ?_;intro b2 dJ dH;refine B 6 ?_;refine kT (i:=0) rfl sizeOf24 rfl rfl rfl rfl (eh rfl) rfl ?_;refine B 4 ?_;refine LH vz Value.bool rfl rfl ?_;intro b3 eC ff;replace eC:=yb eC;try simp only[bM,and_true,ne_eq]at ff
 refine B 12 ?_;refine CJ.lp (α:=((Rw×Rw)×Mq)×Nat) [2,3,10,11] (λp=>[(12,ab (p.2:Int))]) (λp=>[(b3,p.1.2.obj vz Value.bool (ql (bO Z cs p.2))),(b2,oC #[.slice la cs.length lc,p.1.1.1.val ((bO Z cs p.2).map (·.1)).length,p.1.1.2.val ((bO Z cs p.2).map (·.2)).length] 156)]++(p.1.1.1.hp cW 33 ((bO Z cs p.2).map (·.1))++(p.1.1.2.hp az 3 ((bO Z cs p.2).map (·.2))++[]))) (λp=>p.2<=cs.length/\p.1.1.1.Fr Gh.no [w]/\p.1.1.1.Fit 32 ((bO Z cs p.2).map (·.1))/\p.1.1.2.Fr Gh.no [w]/\p.1.1.2.Fit 1 ((bO Z cs p.2).map (·.2))/\p.1.2.Ok (ql (bO Z cs p.2))) (λp=>cs.length-p.2) (((.nil,.nil),Mq.mk [] 0),0) ⟨cY _,True.intro,rfl,True.intro,rfl,Mq.nil⟩ ?_;rintro⟨⟨⟨r1,r2⟩,m⟩,j⟩ ⟨hj,qO,jw,iV,gH,hm⟩;dsimp only at hj qO jw iV gH hm ⊢;have oH:r1.ge w.heap.size:=Rw.ge_of qO A0;have ey:r2.ge w.heap.size:=Rw.ge_of iV A0;refine aG 6 ?_ ?_
 ·intro av;refine B 5 ?_;obtain⟨bo,oo,cs0,to,fC,eZ,fE,bW,aS⟩:=aH.get aa;obtain⟨c,hc⟩:=ng cs j aa;have Dl:=cA hc;have gj:=nyh Z cs j;refine B 2 ?_;refine rv rfl rfl rfl (bK underlying24 sizeOf61 (congrArg (λq=>some (Value.slice q cs.length lc)) eZ) rfl aa aa) ?_;refine dp (.agg (cM c)) ?_;refine bH 1 ?_;intro b5 rF rG;refine B 7 ?_;refine call call23 rfl rfl rfl (λW hS=>ZA hZ c (dE c Dl) N W cJ ((hC c Dl).up (aj _) (hS.same A0 hN zH zLb)) (hg.old hS A0 zH zLb)) ?_;refine bH 1 ?_;intro b6 ky ri;refine B 5 ?_;by_cases Ad:(dk (aB Z c))∈((bO Z cs j).map (·.1))
  ·refine B 3 ?_;refine rq bZ (rl (m:=m) (k:=(dk (aB Z c))) underlying223 FX zeroValue4 hm (bE.own (i:=2) rfl) rfl rfl) ((nQh _).trans (vb ((nUn _ _).trans (decide_eq_true Ad)))) ?_;refine B 9 ?_;refine Z2 (i:=2) (k:=(dk (aB Z c))) (v:=true) rfl hm underlying223 FX rfl rfl rfl rfl ?_;intro m2 bX;refine LB ?_;refine PJ.again (((r1,r2),m2),j+1) ⟨by dsimp only;omega,qO,by rw[nsh hc Ad];exact jw,iV,by rw[nsh hc Ad];exact gH,by rw[nsh hc Ad];rw[nuo Ad]at bX;exact bX⟩ zW zR (by rw[nsh hc Ad,nuo Ad];rfl) rfl zJ
  refine B 3 ?_;refine rq bG (rl (m:=m) (k:=(dk (aB Z c))) underlying223 FX zeroValue4 hm (bE.own (i:=2) rfl) rfl rfl) ((nQh _).trans (vb ((nUn _ _).trans (decide_eq_false Ad)))) ?_;refine B 4 ?_;refine CJ.less (E':=[(2,_),(3,_),(4,_),(5,_),(6,_),(10,_),(11,_),(12,_),(13,_),(14,_),(15,_),(16,_),(17,_),(18,_),(19,_),(20,_),(21,_),(22,_)]) zR ?_;refine dN 11 [3,4,8,9] [[],[0],[],[0,1,2]] (λcv L' H'=>let eo:Nat×Obj:=(b6,oC (dg (aB Z c)) 33);match cv with| [none,none,none,none]=>L'=[w]/\H'=[eo,(b5,oC (cM c) 61),(b3,m.obj vz Value.bool (ql (bO Z cs j))),(b2,oC #[.slice la cs.length lc,r1.val ((bO Z cs j).map (·.1)).length,r2.val ((bO Z cs j).map (·.2)).length] 156)]++(r1.hp cW 33 ((bO Z cs j).map (·.1))++(r2.hp az 3 ((bO Z cs j).map (·.2))++[]))| [none,none,some v8,none]=>∃(iZ:Nat),v8= .slice (ao iZ) 1 1/\L'=[w]/\H'=[(iZ,oC #[ab (j:Int)] 3),eo,(b5,oC (cM c) 61),(b3,m.obj vz Value.bool (ql (bO Z cs j))),(b2,oC #[.slice la cs.length lc,r1.val ((bO Z cs j).map (·.1)).length,r2.val ((bO Z cs j).map (·.2)).length] 156)]++(r1.hp cW 33 ((bO Z cs j).map (·.1))++(r2.hp az 3 ((bO Z cs j).map (·.2))++[]))/\ah [w] iZ| [some v3,none,none,none]=>∃(jH:Nat),v3= .slice (ao jH) 1 1/\L'=[w]/\H'=[(jH,oC (dg (aB Z c)) 33),eo,(b5,oC (cM c) 61),(b3,m.obj vz Value.bool (ql (bO Z cs j))),(b2,oC #[.slice la cs.length lc,r1.val ((bO Z cs j).map (·.1)).length,r2.val ((bO Z cs j).map (·.2)).length] 156)]++(r1.hp cW 33 ((bO Z cs j).map (·.1))++(r2.hp az 3 ((bO Z cs j).map (·.2))++[]))/\ah [w] jH| [some v3,none,some v8,none]=>∃(jH:Nat) (iZ:Nat),v3= .slice (ao jH) 1 1/\v8= .slice (ao iZ) 1 1/\L'=[w]/\H'=[(iZ,oC #[ab (j:Int)] 3),(jH,oC (dg (aB Z c)) 33),eo,(b5,oC (cM c) 61),(b3,m.obj vz Value.bool (ql (bO Z cs j))),(b2,oC #[.slice la cs.length lc,r1.val ((bO Z cs j).map (·.1)).length,r2.val ((bO Z cs j).map (·.2)).length] 156)]++(r1.hp cW 33 ((bO Z cs j).map (·.1))++(r2.hp az 3 ((bO Z cs j).map (·.2))++[]))/\ah [w] jH/\ah [w] iZ| [some v3,some v4,none,none]=>∃(jH:Nat) (mz:Nat) (gX:Nat) (ja:List Value),v3= .slice (ao jH) 1 1/\v4= .slice (ao mz) (((bO Z cs j).map (·.1))++[(dk (aB Z c))]).length gX/\L'=[w]/\H'=[(jH,oC (dg (aB Z c)) 33),eo,(b5,oC (cM c) 61),(b3,m.obj vz Value.bool (ql (bO Z cs j))),(b2,oC #[.slice la cs.length lc,r1.val ((bO Z cs j).map (·.1)).length,r2.val ((bO Z cs j).map (·.2)).length] 156)]++((Rw.row mz gX ja).hp cW 33 (((bO Z cs j).map (·.1))++[(dk (aB Z c))])++(r2.hp az 3 ((bO Z cs j).map (·.2))++[]))/\ah [w] jH/\(r1.isAt mz\/ah [w] mz)/\(Rw.row mz gX ja).Fit 32 (((bO Z cs j).map (·.1))++[(dk (aB Z c))])| [some v3,some v4,some v8,none]=>∃(jH:Nat) (mz:Nat) (gX:Nat) (ja:List Value) (iZ:Nat),v3= .slice (ao jH) 1 1/\v4= .slice (ao mz) (((bO Z cs j).map (·.1))++[(dk (aB Z c))]).length gX/\v8= .slice (ao iZ) 1 1/\L'=[w]/\H'=[(iZ,oC #[ab (j:Int)] 3),(jH,oC (dg (aB Z c)) 33),eo,(b5,oC (cM c) 61),(b3,m.obj vz Value.bool (ql (bO Z cs j))),(b2,oC #[.slice la cs.length lc,r1.val ((bO Z cs j).map (·.1)).length,r2.val ((bO Z cs j).map (·.2)).length] 156)]++((Rw.row mz gX ja).hp cW 33 (((bO Z cs j).map (·.1))++[(dk (aB Z c))])++(r2.hp az 3 ((bO Z cs j).map (·.2))++[]))/\ah [w] jH/\(r1.isAt mz\/ah [w] mz)/\(Rw.row mz gX ja).Fit 32 (((bO Z cs j).map (·.1))++[(dk (aB Z c))])/\ah [w] iZ| [some v3,some v4,some v8,some v9]=>∃(jH:Nat) (mz:Nat) (gX:Nat) (ja:List Value) (iZ:Nat) (Dm:Nat) (xi:Nat) (Ae:List Value),v3= .slice (ao jH) 1 1/\v4= .slice (ao mz) (((bO Z cs j).map (·.1))++[(dk (aB Z c))]).length gX/\v8= .slice (ao iZ) 1 1/\v9= .slice (ao Dm) (((bO Z cs j).map (·.2))++[(j:Int)]).length xi/\L'=[w]/\H'=[(iZ,oC #[ab (j:Int)] 3),(jH,oC (dg (aB Z c)) 33),eo,(b5,oC (cM c) 61),(b3,m.obj vz Value.bool (ql (bO Z cs j))),(b2,oC #[.slice la cs.length lc,r1.val ((bO Z cs j).map (·.1)).length,r2.val ((bO Z cs j).map (·.2)).length] 156)]++((Rw.row mz gX ja).hp cW 33 (((bO Z cs j).map (·.1))++[(dk (aB Z c))])++((Rw.row Dm xi Ae).hp az 3 (((bO Z cs j).map (·.2))++[(j:Int)])++[]))/\ah [w] jH/\(r1.isAt mz\/ah [w] mz)/\(Rw.row mz gX ja).Fit 32 (((bO Z cs j).map (·.1))++[(dk (aB Z c))])/\ah [w] iZ/\(r2.isAt Dm\/ah [w] Dm)/\(Rw.row Dm xi Ae).Fit 1 (((bO Z cs j).map (·.2))++[(j:Int)])|_=>False) ⟨rfl,rfl⟩ (qm 1 (k:=by exact lD zcp (lD zcp (qm 3 (k:=by exact lD zcp LI))))) ?_ ?_
  ·refine nc rfl rfl ?_ ?_
   ·intro cv L' H' hl hr hP F Q' hk;obtain⟨x3,x4,x8,x9,rfl⟩:=vo hl;rcases x3 with _|v3<;>rcases x4 with _|v4<;>rcases x8 with _|v8<;>rcases x9 with _|v9<;>try exact False.elim hP
    ·obtain⟨rfl,rfl⟩:=hP;refine z2d ?_;intro jH ha ho;exact OJ.done (hk _ _ _ ⟨jH,rfl,rfl,rfl,ha⟩)
    ·obtain⟨iZ,rfl,rfl,rfl,mH⟩:=hP;refine z2d ?_;intro jH ha ho;refine OJ.perm (List.Perm.swap _ _ _) ?_;exact OJ.done (hk _ _ _ ⟨jH,iZ,rfl,rfl,rfl,rfl,ha,mH⟩)
    ·exact cN
    ·exact cN
    ·exact cN
    ·exact cN
    exact cN
   refine nc rfl rfl ?_ ?_
   ·intro cv L' H' hl hr hP F Q' hk;obtain⟨x3,x4,x8,x9,rfl⟩:=vo hl;rcases x3 with _|v3<;>rcases x4 with _|v4<;>rcases x8 with _|v8<;>rcases x9 with _|v9<;>try exact False.elim hP
    ·exact cN
    ·exact cN
    ·obtain⟨jH,rfl,rfl,rfl,lX⟩:=hP;refine kz (r:=r1) (xs:=((bO Z cs j).map (·.1))) (zs:=[(dk (aB Z c))]) (enc:=cW) (m:=32) (H0:=[(jH,oC (dg (aB Z c)) 33),(b6,oC (dg (aB Z c)) 33),(b5,oC (cM c) 61),(b3,m.obj vz Value.bool (ql (bO Z cs j))),(b2,oC #[.slice la cs.length lc,r1.val ((bO Z cs j).map (·.1)).length,r2.val ((bO Z cs j).map (·.2)).length] 156)]) (H1:=r2.hp az 3 ((bO Z cs j).map (·.2))++[]) rfl nbj yk rfl rfl rfl rfl (cD.one (z:=(dk (aB Z c))) yk WA underlying72 (bE.own (i:=0) rfl)) jw qO zJ QY ?_;intro mz gX ja qP gY;exact OJ.done (hk _ _ _ ⟨jH,mz,gX,ja,rfl,rfl,rfl,rfl,lX,qP,gY⟩)
    ·obtain⟨jH,iZ,rfl,rfl,rfl,rfl,lX,mH⟩:=hP;refine kz (r:=r1) (xs:=((bO Z cs j).map (·.1))) (zs:=[(dk (aB Z c))]) (enc:=cW) (m:=32) (H0:=[(iZ,oC #[ab (j:Int)] 3),(jH,oC (dg (aB Z c)) 33),(b6,oC (dg (aB Z c)) 33),(b5,oC (cM c) 61),(b3,m.obj vz Value.bool (ql (bO Z cs j))),(b2,oC #[.slice la cs.length lc,r1.val ((bO Z cs j).map (·.1)).length,r2.val ((bO Z cs j).map (·.2)).length] 156)]) (H1:=r2.hp az 3 ((bO Z cs j).map (·.2))++[]) rfl nbj yk rfl rfl rfl rfl (cD.one (z:=(dk (aB Z c))) yk WA underlying72 (bE.own (i:=1) rfl)) jw qO zJ QY ?_;intro mz gX ja qP gY;exact OJ.done (hk _ _ _ ⟨jH,mz,gX,ja,iZ,rfl,rfl,rfl,rfl,rfl,lX,qP,gY,mH⟩)
    ·exact cN
    ·exact cN
    exact cN
   refine nc rfl rfl ?_ ?_
   ·intro cv L' H' hl hr hP F Q' hk;obtain⟨x3,x4,x8,x9,rfl⟩:=vo hl;rcases x3 with _|v3<;>rcases x4 with _|v4<;>rcases x8 with _|v8<;>rcases x9 with _|v9<;>try exact False.elim hP
    ·obtain⟨rfl,rfl⟩:=hP;refine EL ?_;intro iZ ha ho;exact OJ.done (hk _ _ _ ⟨iZ,rfl,rfl,rfl,ha⟩)
    ·exact cN
    ·obtain⟨jH,rfl,rfl,rfl,lX⟩:=hP;refine EL ?_;intro iZ ha ho;exact OJ.done (hk _ _ _ ⟨jH,iZ,rfl,rfl,rfl,rfl,lX,ha⟩)
    ·exact cN
    ·obtain⟨jH,mz,gX,ja,rfl,rfl,rfl,rfl,lX,qP,gY⟩:=hP;refine EL ?_;intro iZ ha ho;exact OJ.done (hk _ _ _ ⟨jH,mz,gX,ja,iZ,rfl,rfl,rfl,rfl,rfl,lX,qP,gY,ha⟩)
    ·exact cN
    exact cN
   refine nc rfl rfl ?_ ?_
   ·intro cv L' H' hl hr hP F Q' hk;obtain⟨x3,x4,x8,x9,rfl⟩:=vo hl;rcases x3 with _|v3<;>rcases x4 with _|v4<;>rcases x8 with _|v8<;>rcases x9 with _|v9<;>try exact False.elim hP
    ·exact cN
    ·exact cN
    ·exact cN
    ·exact cN
    ·exact cN
    ·obtain⟨jH,mz,gX,ja,iZ,rfl,rfl,rfl,rfl,rfl,lX,qP,gY,mH⟩:=hP;refine kz (r:=r2) (xs:=((bO Z cs j).map (·.2))) (zs:=[(j:Int)]) (enc:=az) (m:=1) (H0:=[(iZ,oC #[ab (j:Int)] 3),(jH,oC (dg (aB Z c)) 33),(b6,oC (dg (aB Z c)) 33),(b5,oC (cM c) 61),(b3,m.obj vz Value.bool (ql (bO Z cs j))),(b2,oC #[.slice la cs.length lc,r1.val ((bO Z cs j).map (·.1)).length,r2.val ((bO Z cs j).map (·.2)).length] 156)]++(Rw.row mz gX ja).hp cW 33 (((bO Z cs j).map (·.1))++[(dk (aB Z c))])) (H1:=[]) rfl OC ny rfl rfl rfl rfl (cD.one (z:=(j:Int)) ny OE underlying55 (bE.own (i:=0) rfl)) gH iV zJ QY ?_;intro Dm xi Ae Af vB;exact OJ.done (hk _ _ _ ⟨jH,mz,gX,ja,iZ,Dm,xi,Ae,rfl,rfl,rfl,rfl,rfl,rfl,lX,qP,gY,mH,Af,vB⟩)
    exact cN
   exact nn
  intro cv L' H' hl hr hP;obtain⟨x3,x4,x8,x9,rfl⟩:=vo hl;rcases x3 with _|v3<;>rcases x4 with _|v4<;>rcases x8 with _|v8<;>rcases x9 with _|v9
  ·exact cN
  ·exact cN
  ·exact cN
  ·exact cN
  ·exact cN
  ·exact cN
  ·exact cN
  ·exact cN
  ·exact cN
  ·exact cN
  ·exact cN
  ·exact cN
  ·exact cN
  ·exact cN
  ·exact cN
  obtain⟨jH,mz,gX,ja,iZ,Dm,xi,Ae,rfl,rfl,rfl,rfl,rfl,rfl,lX,qP,gY,mH,Af,vB⟩:=hP;simp only[ah]at lX mH;refine kT (i:=5) rfl sizeOf72 rfl rfl rfl rfl (eh rfl) rfl ?_;refine B 1 ?_;refine kT (i:=5) rfl sizeOf55 rfl rfl rfl rfl (eh rfl) rfl ?_;refine B 5 ?_;refine Z2 (i:=4) (k:=(dk (aB Z c))) (v:=true) rfl hm underlying223 FX rfl rfl rfl rfl ?_;intro m2 bX;refine LB ?_;refine vC ?_;refine PJ.again (((Rw.row mz gX ja,Rw.row Dm xi Ae),m2),j+1) ⟨by dsimp only;omega,qP.elim (λh=>Rw.Fr_at qO h) (λh=>.inr h),by rw[nFh hc Ad,nPk];exact gY,Af.elim (λh=>Rw.Fr_at iV h) (λh=>.inr h),by rw[nFh hc Ad,ntk];exact vB,by rw[nFh hc Ad,<-nGo Ad];exact bX⟩ zW zR (by rw[nFh hc Ad,nPk,ntk,<-nGo Ad];rfl) rfl zJ
 intro av;refine B 6 ?_;have gj:=nyh Z cs j;have hje:j=cs.length:=by omega
 subst hje;refine B 2 ?_;refine jO (i:=1) rfl sizeOf156 rfl rfl rfl rfl rfl (by cases r1<;>cases r2<;>rfl) ?_;refine B 3 ?_;refine bQ (.inl rfl) results61 bB λW hS=>?_;have Ag:r1.At cW 33 ((bO Z cs cs.length).map (·.1)) W:=by
  exact zoi
 have Sl:r2.At az 3 ((bO Z cs cs.length).map (·.2)) W:=by
  exact zni
 obtain⟨a1,c1,uu,uJ⟩:=Rw.sl yk jw Ag (aj W.heap.size);obtain⟨a2,c2,Jh,hs2⟩:=Rw.sl ny gH Sl (aj W.heap.size);refine⟨⟨a1,c1,a2,c2⟩,?_,?_,⟨uJ,hs2⟩,Rw.val_new oH uu,Rw.val_new ey Jh⟩
 ·show Ending.returned (.agg #[.slice la cs.length lc,r1.val _,r2.val _])=_;rw[uu,Jh];rfl
 exact(hS.links w A0).below (λk hk hx=>by rcases hx with hx|hx;(exact hx);simp only[dx,ec,im,eX,ee,gL,dL,ft,aY,cd,dV,or_false]at hx;rcases hx with hx|hx|hx|hx;(omega);(omega);(have:=Rw.mem_ge oH hx;omega);(have:=Rw.mem_ge ey hx;omega))
structure CO {α:Type} (cf:α->α->Int):Prop where
 anti:∀x y,cf x y= -cf y x
 trans:∀x y z,cf x y<=0->cf y z<=0->cf x z<=0
theorem CO.swo{α:Type}{cf:α->α->Int}(h:CO cf):Go.Sort.SWO (Go.Proofs.ltOf cf):=by
 refine⟨λx=>?_,λx y z h1 h2=>?_,λx y z h1 h2=>?_⟩<;>simp only[Go.Proofs.ltOf,decide_eq_true_eq,decide_eq_false_iff_not]at*
 ·have:=h.anti x x;omega
 ·have a1:=h.anti x z;have a2:=h.anti y z;have a3:=h.anti z y;have a4:=h.anti x y
  have t1:=h.trans x y z aa aa;by_cases e:cf x z=0
  ·have t2:=h.trans z x y (by have:=h.anti z x;omega) aa;have:=h.anti y z;omega
  omega
 have a1:=h.anti x y;have a2:=h.anti y z;have a3:=h.anti x z
 have:=h.trans z y x aa aa;omega
def Cr {α:Type} (f g:α->α->Int) (x y:α):Int:=if f x y=0 then g x y else f x y
theorem CO.lt{α:Type}{cf:α->α->Int}(h:CO cf){x y z:α}(h1:cf x y<=0)(h2:cf y z<=0)(h3:cf x y≠0\/cf y z≠0):cf x z≠0:=by
 intro e;have a1:=h.anti x z;have a2:=h.anti y z;have a3:=h.anti x y
 rcases h3 with h3|h3
 ·have:=h.trans y z x h2 aa;omega
 have:=h.trans z x y aa h1;omega
theorem CO.lex{α:Type}{f g:α->α->Int}(hf:CO f)(hg:CO g):CO (Cr f g):=by
 refine⟨λx y=>?_,λx y z h1 h2=>?_⟩
 ·have a:=hf.anti x y;have b:=hg.anti x y
  unfold Cr;by_cases e:f x y=0
  ·rw[if_pos e,if_pos aa];exact b
  rw[if_neg e,if_neg aa];exact a
 have a:=hf.lt (x:=x) (y:=y) (z:=z);have t:=hf.trans x y z;have u:=hg.trans x y z
 unfold Cr at *;by_cases e1:f x y=0<;>by_cases e2:f y z=0<;>simp only[e1,e2,if_true,if_false]at h1 h2
 ·have z0:f x z=0:=by
   have t1:=t aa aa;have t2:=hf.trans z y x (by have:=hf.anti z y;omega) (by have:=hf.anti y x;omega);have:=hf.anti x z;omega
  rw[if_pos z0];exact u h1 h2
 ·rw[if_neg (a aa aa (.inr e2))];exact t aa aa
 ·rw[if_neg (a aa aa (.inl e1))];exact t aa aa
 rw[if_neg (a aa aa (.inl e1))];exact t aa aa
theorem CO.key{α β:Type}{cf:β->β->Int}(h:CO cf)(k:α->β):CO λx y=>cf (k x) (k y):=⟨λx y=>h.anti _ _,λx y z=>h.trans _ _ _⟩
theorem CO.int:CO du:=by
 refine⟨λx y=>?_,λx y z h1 h2=>?_⟩;all_goals grind [du]
theorem O6:∀(a b:List UInt8),Go.Lib.compareBytes a b=0->a=b
 | [],[],_=>rfl
 | [],_::_,h=>by simp[Go.Lib.compareBytes]at h
 |_::_,[],h=>by simp[Go.Lib.compareBytes]at h
 |x::a,y::b,h=>by
  unfold Go.Lib.compareBytes at h;by_cases h1:x<y
  ·simp[h1]at h
  by_cases h2:y<x
  ·simp[h1,h2]at h
  simp only[h1,h2,if_false]at h;have e:x=y:=UInt8.le_antisymm (UInt8.not_lt.1 h2) (UInt8.not_lt.1 h1);rw[e,O6 a b h]
theorem nej(x y:UInt8):x<y\/x=y\/y<x:=by grind
theorem Z3{x y:UInt8}(a b:List UInt8)(h:x<y):Go.Lib.compareBytes (x::a) (y::b)= -1:=by unfold Go.Lib.compareBytes;rw[if_pos h]
theorem Z4{x y:UInt8}(a b:List UInt8)(h:y<x):Go.Lib.compareBytes (x::a) (y::b)=1:=by unfold Go.Lib.compareBytes;rw[if_neg (λk=>UInt8.lt_irrefl x (UInt8.lt_trans k h)),if_pos h]
theorem n2j(x:UInt8)(a b:List UInt8):Go.Lib.compareBytes (x::a) (x::b)=Go.Lib.compareBytes a b:=by conv=>lhs;unfold Go.Lib.compareBytes;rw[if_neg (UInt8.lt_irrefl x),if_neg (UInt8.lt_irrefl x)]
theorem nbo:∀a b:List UInt8,Go.Lib.compareBytes a b= -Go.Lib.compareBytes b a
 | [],[]=>rfl
 | [],_::_=>rfl
 |_::_,[]=>rfl
 |x::a,y::b=>by
  rcases nej x y with h|rfl|h
  ·rw[Z3 _ _ h,Z4 _ _ h]
  ·rw[n2j,n2j];exact nbo a b
  rw[Z4 _ _ h,Z3 _ _ h];rfl
theorem n5l:∀a b c:List UInt8,Go.Lib.compareBytes a b<=0->Go.Lib.compareBytes b c<=0->Go.Lib.compareBytes a c<=0
 | [],_,[],_,_=>by decide
 | [],_,_::_,_,_=>by show(-1:Int)<=0;decide
 |_::_,[],_,h1,_=>absurd (show(1:Int)<=0 from h1) zA
 |_::_,_::_,[],_,h2=>absurd (show(1:Int)<=0 from h2) zA
 |x::a,y::b,z::c,h1,h2=>by
  rcases nej x y with h|rfl|h
  ·rcases nej y z with k|rfl|k
   ·rw[Z3 _ _ (UInt8.lt_trans h k)];decide
   ·rw[Z3 _ _ h];decide
   rw[Z4 _ _ k]at h2;exact absurd h2 zA
  ·rcases nej x z with k|rfl|k
   ·rw[Z3 _ _ k];decide
   ·rw[n2j]at h1 h2 ⊢;exact n5l a b c h1 h2
   rw[Z4 _ _ k]at h2;exact absurd h2 zA
  rw[Z4 _ _ h]at h1;exact absurd h1 zA
theorem CO.bytes:CO Go.Lib.compareBytes:=⟨nbo,n5l⟩
def ky3 (x y:Int×Int×List UInt8):Int:=Cr (λx y=>du x.1 y.1) (Cr (λx y=>du x.2.1 y.2.1) (λx y=>Go.Lib.compareBytes x.2.2 y.2.2)) x y
theorem CO.ky3:CO ky3:=(CO.int.key (λx:Int×Int×List UInt8=>x.1)).lex ((CO.int.key (λx:Int×Int×List UInt8=>x.2.1)).lex (CO.bytes.key (λx:Int×Int×List UInt8=>x.2.2)))
theorem Sm{x y:Int×Int×List UInt8}(h:ky3 x y=0):x.2.2=y.2.2:=by grind [ky3,Cr,O6]
theorem nzk{le:Nat->Nat->Bool}:∀{l l':List Nat},(∀a∈l,∀b∈l,le a b=true->le b a=true->a=b)->l.Pairwise (λa b=>le a b=true)->l'.Pairwise (λa b=>le a b=true)->l.Perm l'->l=l'
 | [],l',_,_,_,hp=>(List.nil_perm.1 hp).symm▸rfl
 |a::l,[],_,_,_,hp=>absurd hp.length_eq zJ
 |a::l,b::l',ha,h1,h2,hp=>by
  have qQ:a=b:=by
   have m1:a∈b::l':=hp.mem_iff.1 A0;have m2:b∈a::l:=hp.mem_iff.2 A0;rcases cd.1 m1 with e|m1
   ·exact e
   rcases cd.1 m2 with e|m2'
   ·exact e.symm
   exact ha a A0 b m2 ((List.pairwise_cons.1 h1).1 b m2') ((List.pairwise_cons.1 h2).1 a m1)
  subst qQ;have Sn:=hp.cons_inv;rw[nzk (λx hx y hy=>ha x (.tail _ hx) y (.tail _ hy)) (List.pairwise_cons.1 h1).2 (List.pairwise_cons.1 h2).2 Sn]
section
open Go.Proofs Go.Shelf Go.Lib Go.Sort
theorem Z5(x y:Cd)(W:World):Calls prog 183 #[.agg (oZ x).toArray,.agg (oZ y).toArray] W λe w'=>e= .returned (ab (du x.since y.since))/\∃q Aa,w'=grow (W.drewN q) Aa:=by
 have oA:=λW'=>AX x.since y.since W';generalize du x.since y.since=r at oA ⊢;unfold oZ
 go_enter func183,ntmps183
 go_wp2_with (go_at_call 103;refine(oA _).mono ?_;rintro e w' ⟨rfl,rfl⟩)
 go_ret
 exact zkh
theorem Z6(x y:Cd)(W:World):Calls prog 184 #[.agg (oZ x).toArray,.agg (oZ y).toArray] W λe w'=>e= .returned (ab (du x.c.author y.c.author))/\∃q Aa,w'=grow (W.drewN q) Aa:=by
 have oA:=λW'=>AX x.c.author y.c.author W';generalize du x.c.author y.c.author=r at oA ⊢;unfold oZ
 go_enter func184,ntmps184
 go_wp2_with (go_at_call 103;refine(oA _).mono ?_;rintro e w' ⟨rfl,rfl⟩)
 go_ret
 exact zkh
end
theorem nQg{P:Program}{W:World}{b:Nat}:∀(zs:List Int) (off:Nat) (acc:List UInt8),(∀(i:Nat) (h:i<zs.length),W.cell? ⟨b,off+i,none⟩=some (.int .u8 zs[i]))->(Extern.Bytes.loadBytes ⟨b,off,none⟩ zs.length ⟨acc.toArray⟩).run P W= .ok ⟨(acc++zs.map λz=>z.toNat.toUInt8).toArray⟩ W
 | [],off,acc,_=>by simp[Extern.Bytes.loadBytes]
 |z::zs,off,acc,h=>by
  have h0:W.cell? ⟨b,off,none⟩=some (.int .u8 z):=h 0 zJ;have ih:=nQg (P:=P) (W:=W) (b:=b) zs (off+1) (acc++[z.toNat.toUInt8]) (λi hi=>by
   have:=h (i+1) (by simpa using hi);rw[show off+1+i=off+(i+1) by omega];simpa using this)
  have e:(ByteArray.mk acc.toArray).push z.toNat.toUInt8=⟨(acc++[z.toNat.toUInt8]).toArray⟩:=by simp[ByteArray.push]
  have ha:(⟨b,off,none⟩:Addr).add 1=⟨b,off+1,none⟩:=rfl;simp only[dO,Extern.Bytes.loadBytes,Sem.run_bind];rw[show(load ⟨b,off,none⟩:Sem Value).run P W= .ok (.int .u8 z) W by simp[load,Sem.run,h0]];simp only[Result.andThen,e,ha];rw[ih];simp
section
open Go.Lib Go.Sort
theorem FZ{P:Program}{b1 o1 c1 b2 o2 c2:Nat}{xs ys:List Int}(h1:∀(i:Nat) (h:i<xs.length),W.cell? ⟨b1,o1+i,none⟩=some (.int .u8 xs[i]))(h2:∀(i:Nat) (h:i<ys.length),W.cell? ⟨b2,o2+i,none⟩=some (.int .u8 ys[i])):(Extern.BytealgCompare.compare #[.slice (some ⟨b1,o1,none⟩) xs.length c1,.slice (some ⟨b2,o2,none⟩) ys.length c2]).run P W= .ok (ab (compareBytes (xs.map λz=>z.toNat.toUInt8) (ys.map λz=>z.toNat.toUInt8))) W:=by
 change Sem.run P (do pure (goInt (Extern.BytealgCompare.cmp (<-Extern.Bytes.bytesOf (.slice (some ⟨b1,o1,none⟩) xs.length c1)) (<-Extern.Bytes.bytesOf (.slice (some ⟨b2,o2,none⟩) ys.length c2))))) W=_;have e1:=nQg (P:=P) (W:=W) xs o1 [] h1;have e2:=nQg (P:=P) (W:=W) ys o2 [] h2;simp only[Extern.Bytes.bytesOf,Sem.run_bind,Sem.run_pure,Result.andThen];rw[show ByteArray.empty=⟨(#[]:Array UInt8)⟩from rfl,e1];simp only[eX];rw[e2];simp only[eX];rw[cmp_eq];rfl
theorem nBf{b1 o1 c1 b2 o2 c2:Nat}{xs ys:List Int}(h1:∀(i:Nat) (h:i<xs.length),W.cell? ⟨b1,o1+i,none⟩=some (.int .u8 xs[i]))(h2:∀(i:Nat) (h:i<ys.length),W.cell? ⟨b2,o2+i,none⟩=some (.int .u8 ys[i])):Calls prog 104 #[.slice (some ⟨b1,o1,none⟩) xs.length c1,.slice (some ⟨b2,o2,none⟩) ys.length c2] W λe w'=>e= .returned (ab (compareBytes (xs.map λz=>z.toNat.toUInt8) (ys.map λz=>z.toNat.toUInt8)))/\w'=W:=by
 have hr:=FZ (P:=prog) (c1:=c1) (c2:=c2) h1 h2;clear h1 h2
 go_enter func104,ntmps104
 go_wp2
 rw[run_callFunc_extern func170 zO zO zO (e:=Extern.BytealgCompare.compare) zO,hr];simp only[Result.andThen];rw[Oper.upon_value]
 go_wp2
 go_ret
 exact⟨rfl,rfl⟩
theorem Z7{o2:Obj}{X:Array Value}(q:Nat)(h:X[k]? =some v):(((W.alloc (.cells X t)).alloc o2).drewN q).cell? ⟨W.heap.size,k,none⟩=some v:=by
 rw[alloc_eq_grow,alloc_eq_grow,grow_grow];have:(W.heap++(#[.cells X t]++#[o2]))[W.heap.size]? =some (.cells X t):=by rw[Array.getElem?_append_right (aj _)];simp
 simp only[World.cell?,World.drewN,grow,this];exact h
theorem Z8{o1:Obj}{Y:Array Value}(q:Nat)(h:Y[k]? =some v):(((W.alloc o1).alloc (.cells Y t)).drewN q).cell? ⟨W.heap.size+1,k,none⟩=some v:=by simp_all
theorem Z9(X Y:Array Value)(xs ys:List Int)(hx:xs.length=32)(hy:ys.length=32)(hX:∀(i:Nat) (h:i<xs.length),X[74+i]? =some (.int .u8 xs[i]))(hY:∀(i:Nat) (h:i<ys.length),Y[74+i]? =some (.int .u8 ys[i]))(W:World):Calls prog 185 #[.agg X,.agg Y] W λe w'=>e= .returned (ab (compareBytes (xs.map λz=>z.toNat.toUInt8) (ys.map λz=>z.toNat.toUInt8)))/\∃q Aa,w'=grow (W.drewN q) Aa:=by
 have oA:∀q,Calls prog 104 #[.slice (some ⟨W.heap.size,74,none⟩) 32 32,.slice (some ⟨W.heap.size+1,74,none⟩) 32 32] (((W.alloc (.cells X 159)).alloc (.cells Y 159)).drewN q) λe w'=>e= .returned (ab (compareBytes (xs.map λz=>z.toNat.toUInt8) (ys.map λz=>z.toNat.toUInt8)))/\w'=((W.alloc (.cells X 159)).alloc (.cells Y 159)).drewN q:=by
  intro q;have:=nBf (W:=((W.alloc (.cells X 159)).alloc (.cells Y 159)).drewN q) (b1:=W.heap.size) (o1:=74) (c1:=32) (b2:=W.heap.size+1) (o2:=74) (c2:=32) (xs:=xs) (ys:=ys) (λi h=>Z7 _ (by simp[hX i h])) (λi h=>Z8 _ (by simp[hY i h]));rw[hx,hy]at this;exact this
 generalize compareBytes (xs.map λz=>z.toNat.toUInt8) (ys.map λz=>z.toNat.toUInt8)=c at oA ⊢;clear hX hY
 go_enter func185,ntmps185
 go_wp2
 go_region_with (go_at_call 104;refine(oA _).mono ?_;rintro e w' ⟨rfl,rfl⟩)
 go_wp2
 go_ret
 exact⟨rfl,_,_,by rw[alloc_eq_grow,alloc_eq_grow,grow_grow];rfl⟩
end
theorem nJi(f:Nat->Int):((dk f).1.map λz=>z.toNat.toUInt8)=cI f:=rfl
theorem aaa(x y:Cd)(W:World):Calls prog 185 #[.agg (jm x),.agg (jm y)] W λe w'=>e= .returned (ab (Go.Lib.compareBytes (cI x.id) (cI y.id)))/\Gz W w':=by
 rw[<-nJi,<-nJi];have key:∀(z:Cd) (i:Nat) (h:i<(dk z.id).1.length),(jm z)[74+i]? =some (.int .u8 (dk z.id).1[i]):=by
  intro z i h;have h2:i<32:=by rw[(dk z.id).2]at h;exact h
  have e1:((dk z.id).1.map (Value.int .u8))[i]? =some (.int .u8 ((dk z.id).1[i]'h)):=by rw[mY,lj h];rfl
  have e2:(dg z.id)[i]? =((dk z.id).1.map (Value.int .u8))[i]? :=by rw[<-nOn,Es];rfl
  exact(vD (k:=74) (n:=32) (r:=dg z.id) rfl i h2).trans (e2.trans e1)
 exact Z9 (jm x) (jm y) (dk x.id).1 (dk y.id).1 (dk x.id).2 (dk y.id).2 (key x) (key y) W
def rkF:Nat->Nat
 |0=>183
 |1=>184
 |_=>185
def Sq (w:World) (b:Nat):Prop:=∃b',w.heap[b]? =some (oC #[.slice (ao b') 3 3] 390)/\w.heap[b']? =some (oC #[.func (.func 183) #[] #[],.func (.func 184) #[] #[],.func (.func 185) #[] #[]] 227)
theorem Sr(j:Nat)(h:j<3):(#[Value.func (.func 183) #[] #[],.func (.func 184) #[] #[],.func (.func 185) #[] #[]]:Array Value)[0+((j:Int)).toNat*1]? =some (.func (.func (rkF j)) #[] #[]):=by
 match j,h with
 |0,_=>rfl
 |1,_=>rfl
 |2,_=>rfl
theorem LJ(j:Nat)(h:j<3):eU prog (rkF j):=by
 match j,h with
 |0,_=>exact call183
 |1,_=>exact call184
 |2,_=>exact call185
def Jv (x y:Cd):Nat->Int
 |0=>du x.since y.since
 |1=>du x.c.author y.c.author
 |_=>Go.Lib.compareBytes (cI x.id) (cI y.id)
theorem aab(x y:Cd)(j:Nat)(h:j<3)(W:World):Calls prog (rkF j) #[.agg (jm x),.agg (jm y)] W λe w'=>e= .returned (ab (Jv x y j))/\Gz W w':=by
 match j,h with
 |0,_=>exact Z5 x y W
 |1,_=>exact Z6 x y W
 |2,_=>exact aaa x y W
def kyD (d:Cd):Int×Int×List UInt8:=(d.since,d.c.author,cI d.id)
def rkI (x y:Cd):Int:=if du x.since y.since=0 then(if du x.c.author y.c.author=0 then Go.Lib.compareBytes (cI x.id) (cI y.id)else du x.c.author y.c.author)else du x.since y.since
theorem Ss{x y:Cd}(h:∀i,i<j->Jv x y i=0)(hj:j<3)(hn:¬Jv x y j=0):Jv x y j=rkI x y:=by
 have h0:=h 0;have h1:=h 1
 unfold rkI;all_goals grind [Jv]
theorem LK{x y:Cd}(h:∀i,i<3->Jv x y i=0):0=rkI x y:=by
 have h0:=h 0 aa;have h1:=h 1 aa;have h2:=h 2 aa
 all_goals grind [Jv,rkI]
theorem ajk(x y:Cd)(b:Nat)(w:World)(hr:Sq w b):Calls prog 249 #[.agg (jm x),.agg (jm y),ptr b 0] w λe w'=>e= .returned (ab (rkI x y))/\Gz w w':=by
 obtain⟨b2,hb,dw⟩:=hr;refine F5 (vs:=[_,_,_]) func249 rfl ntmps249 rfl ?_;refine AY ?_;refine aac rfl rfl rfl (λW0 h0=>?_);refine aac rfl rfl rfl (λW1 h1=>?_);obtain⟨W2,h2⟩:∃W2,W2=W1.alloc (oC (jm y) 159):=⟨_,rfl⟩;have gS:Gz w W1:=by rw[h1,h0];exact Gz.alloc _ _
 have fB:Gz w W2:=by rw[h2];exact gS.trans (Gz.alloc _ _)
 have rk:W2.heap[W1.heap.size]? =some (oC (jm y) 159):=by rw[h2];exact heap_alloc_new _ _
 have yl:W2.heap[W0.heap.size]? =some (oC (jm x) 159):=by
  have e:W1.heap[W0.heap.size]? =some (oC (jm x) 159):=by rw[h1];exact heap_alloc_new _ _
  rw[h2,(n4c W1 _).block _ (bA.1 e).1];exact e
 have eV:∀{W:World},Gz W2 W->St Gh.no [W2,w] [] W:=λ{W} h=>O7 (by
  intro v hv;simp only[cd,dV,or_false]at hv;rcases hv with rfl|rfl
  ·exact h.below
  exact(fB.trans h).below)
 refine qn (L:=[W2,w]) (λW e=>by rw[e];have:=eV (Gz.refl W2);rw[h2]at this ⊢;exact this) rfl rfl rfl (ur rfl) ?_;refine F7 ?_;refine CX.seq ?_;refine AY ?_;refine qn (L:=[W2,w]) (λW e=>by rw[e];have:=eV (Gz.refl W2);rw[h2]at this ⊢;exact this) rfl rfl rfl (ar (v:=.slice (ao b2) 3 3) isAgg390 rfl A1 hb zI trivial rfl) ?_;refine qn (L:=[W2,w]) (λW e=>by rw[e];have:=eV (Gz.refl W2);rw[h2]at this ⊢;exact this) rfl rfl rfl (mE underlying390 rfl) ?_;refine qn (L:=[W2,w]) (λW e=>by rw[e];have:=eV (Gz.refl W2);rw[h2]at this ⊢;exact this) rfl rfl rfl (pO rfl) ?_;refine F7 ?_;refine CX.block ?_;refine CX.loop (α:=Nat×World) (λp=>[(2,ptr b 0),(3,ptr W0.heap.size 0),(4,ptr W1.heap.size 0),(9,.slice (ao b2) 3 3),(10,ab 3),(11,ab (p.1:Int))]) (λp=>(· =p.2)) (λp=>p.1<=3/\(∀i,i<p.1->Jv x y i=0)/\Gz W2 p.2) (λp=>3-p.1) (0,W2) ⟨by omega,λi h=>absurd h aa,Gz.refl _⟩ zR (λW e=>e.trans h2.symm) ?_;rintro⟨j,W⟩ ⟨hj,hz,hg⟩;dsimp only at hj hz hg ⊢;have hT:∀W',W'=W->St Gh.no [W2,w] [] W':=λW' e=>by rw[e];exact eV hg
 refine AY ?_;by_cases av:j<3
 ·refine zff ?_;refine qn hT rfl rfl rfl (bK underlying390 sizeOf227 rfl rfl aa aa) ?_;refine qn hT rfl rfl rfl (ar (v:=.func (.func (rkF j)) #[] #[]) isAgg227 rfl A1 dw zI trivial (Sr j av)) ?_;refine Su ?_;refine AY ?_;refine O8 ?_;refine qn hT rfl rfl rfl (fb isAgg159 sizeOf159 rfl A0 yl zI trivial rfl) ?_;refine qn hT rfl rfl rfl (fb isAgg159 sizeOf159 rfl A0 rk zI trivial rfl) ?_;refine Sv (first:=[]) (cap:=[]) (v:=ab (Jv x y j)) (T':=Gz W) rfl (LJ j av) rfl rfl rfl (λW' e=>by rw[e];exact aab x y j av W) ?_;refine OX.fix (λW3 hg3=>?_);have hg4:=hg.trans hg3;have O9:∀W',W'=W3->St Gh.no [W2,w] [] W':=λW' e=>by rw[e];exact eV hg4
  refine qn O9 rfl rfl rfl (ur rfl) ?_;refine F7 ?_;refine AY ?_;refine qn O9 rfl rfl rfl (pO rfl) ?_;by_cases aR:Jv x y j=0
  ·refine qn O9 rfl rfl rfl (RV.re (v':=bG) (dz rfl rfl) (vb (by simp[aR]))) ?_;refine zof ?_;refine qn O9 rfl rfl rfl (jx rfl rfl aa aa) ?_;refine qn O9 rfl rfl rfl (pO rfl) ?_;refine OX.done ?_;exact PX.again (j+1,W3) ⟨by dsimp only;omega,λi hi=>by dsimp only at hi;by_cases e:i=j;(rw[e];exact aR);exact hz i aa,hg4⟩ zW zR (λW' e=>e)
  refine qn O9 rfl rfl rfl (RV.re (v':=bZ) (dz rfl rfl) (vb (by simp[aR]))) ?_;refine F7 ?_;refine CX.condT rfl ?_;refine AY ?_;refine qn O9 rfl rfl rfl (pO rfl) ?_;refine qn O9 rfl rfl rfl (ur rfl) ?_;refine F7 ?_;refine zBe ?_;exact AZ (.inl rfl) results249 rfl (λW' e=>⟨congrArg (λn=>Ending.returned (ab n)) (Ss hz av aR),by rw[e];exact fB.trans hg4⟩)
 refine zGf ?_;refine Su ?_;refine CX.ret ?_;exact AZ (.inl rfl) results249 rfl (λW' e=>⟨congrArg (λn=>Ending.returned (ab n)) (LK (λi hi=>hz i aa)),by rw[e];exact fB.trans hg⟩)
theorem CO.rkI:CO rkI:=CO.ky3.key kyD
def jT (d:Cd):Nat:=d.at_.toNat
structure tR (Z:Fx) (cs:List Cm) (g:Gp) (d:Cd):Prop where
 nn:0<=d.at_
 at_:cs[jT d]? =some d.c
 id:d.id=aB Z d.c
 since:d.since=Cq g.ms d.c.author
 x:d.x.g=kr Z g d.c
 ok:iy Z g d.c=0
noncomputable def F8 (Z:Fx) (cs:List Cm) (g:Gp) (i:Nat):Bool:=match cs[i]? with|some c=>iA c.par g.last&&decide (iy Z g c=0)|none=>false
noncomputable def wz (Z:Fx) (cs:List Cm) (g:Gp) (k:Nat):List Nat:=(((bO Z cs cs.length).take k).map λp=>p.2.toNat).filter (F8 Z cs g)
section
variable {q:Dk×Int}(hq:(bO Z cs cs.length)[k]? =some q)(hi:q.2=(i:Int))
include hq hi
theorem LL(h:F8 Z cs g i=true):wz Z cs g (k+1)=wz Z cs g k++[i]:=by simp_all[wz,np]
theorem Ga(h:F8 Z cs g i=false):wz Z cs g (k+1)=wz Z cs g k:=by simp_all[wz,np]
end
theorem LM(hc:cs[i]? =some c)(h:¬iA c.par g.last=true):F8 Z cs g i=false:=by simp[F8,hc,h]
theorem LN(hc:cs[i]? =some c)(h:¬iy Z g c=0):F8 Z cs g i=false:=by simp[F8,hc,h]
theorem LO(hc:cs[i]? =some c)(h:iA c.par g.last=true)(h2:iy Z g c=0):F8 Z cs g i=true:=by simp[F8,hc,h,h2]
theorem n3j(h:i∈wz Z cs g k):∃c,cs[i]? =some c/\(dk (aB Z c),(i:Int))∈(bO Z cs cs.length):=by
 obtain⟨h1,_⟩:=uK.1 h;all_goals grind [Sk,dk,aB]
noncomputable def Gb (Z:Fx) (cs:List Cm) (g:Gp) (i:Nat):Int×Int×List UInt8:=match cs[i]? with|some c=>(Cq g.ms c.author,c.author,cI (aB Z c))|none=>(0,0,[])
theorem tR.key(h:tR Z cs g d):kyD d=Gb Z cs g (jT d):=by simp only[kyD,Gb,h.at_,h.since,h.id]
noncomputable def Pa (Z:Fx) (cs:List Cm) (g:Gp) (i j:Nat):Bool:=decide (ky3 (Gb Z cs g i) (Gb Z cs g j)<=0)
noncomputable def Ba (Z:Fx) (cs:List Cm) (g:Gp):List Nat:=(wz Z cs g (bO Z cs cs.length).length).mergeSort (Pa Z cs g)
theorem LP{f g:Nat->Int}(hf:eu f)(hg:eu g)(h:cI f=cI g):dk f=dk g:=by
 have key:∀i,i<32->f i=g i:=by
  intro i hi;have h1:=Vv f hf i hi;have h2:=Vv g hg i hi;rw[<-h1,<-h2,h]
 all_goals grind [dk]
theorem LQ(hZ:FxOk Z):∀a∈wz Z cs g k,∀b∈wz Z cs g k,Pa Z cs g a b=true->Pa Z cs g b a=true->a=b:=by
 intro a ha b hb h1 h2;obtain⟨c,hc,hm⟩:=n3j ha;obtain⟨c2,aR,bX⟩:=n3j hb;simp only[Pa,decide_eq_true_eq]at h1 h2;have h3:=CO.ky3.anti (Gb Z cs g a) (Gb Z cs g b);have h4:=Sm (x:=Gb Z cs g a) (y:=Gb Z cs g b) aa;simp only[Gb,hc,aR]at h4;have h5:dk (aB Z c)=dk (aB Z c2):=LP (hZ.byt _ _) (hZ.byt _ _) h4;have nd:=nMg Z cs cs.length;obtain⟨i,hi⟩:=jG.1 hm;obtain⟨j,hj⟩:=jG.1 bX;have lM:=nq hi;have BT:=nq hj;have vf:i=j:=by
  have e1:((bO Z cs cs.length).map (·.1))[i]? =some (dk (aB Z c)):=by rw[mY,hi];rfl
  have e2:((bO Z cs cs.length).map (·.1))[j]? =some (dk (aB Z c)):=by rw[mY,hj,h5];rfl
  exact(List.getElem?_inj (by rw[eO];exact lM) nd).1 (e1.trans e2.symm)
 subst vf;rw[hi]at hj;have:=(Prod.mk.inj (Option.some.inj hj)).2;omega
instance:Inhabited Cd:=⟨⟨0,⟨0,0,λ_=>0,0,[],none,0,[],none,0,[],none,0,[],none,0,λ_=>0,0,0⟩,λ_=>0,0,gf⟩⟩
theorem nKp{α:Type}[Inhabited α]{cf:α->α->Int}(h:CO cf)(xs:List α):(gU cf xs).Pairwise (λa b=>cf a b<=0):=by
 have hs:=(Go.Sort.pdq_sorts (Go.Proofs.ltOf cf) h.swo xs.toArray 0 xs.toArray.size (Go.Lib.bitLen xs.toArray.size) true true (cY _) (aj _) (Or.inl rfl)).2;have hl:(gU cf xs).length=xs.toArray.size:=by rw[O1 h.swo];simp
 rw[List.pairwise_iff_getElem];intro i j hi hj vf;have h2:=hs i j (cY _) vf aa;simp only[Go.Proofs.ltOf,decide_eq_false_iff_not]at h2;have e:∀k (hk:k<(gU cf xs).length),(Go.Sort.pdq (Go.Proofs.ltOf cf) xs.toArray 0 xs.toArray.size (Go.Lib.bitLen xs.toArray.size) true true)[k]! =(gU cf xs)[k]:=by
  intro k hk;unfold gU at hk ⊢;rw[Ox]at hk;rw[Array.getElem_toList];exact getElem!_pos (Go.Sort.pdq (Go.Proofs.ltOf cf) xs.toArray 0 xs.toArray.size (Go.Lib.bitLen xs.toArray.size) true true) k hk
 rw[e i hi,e j hj]at h2;have:=h.anti ((gU cf xs)[i]) ((gU cf xs)[j]);omega
theorem LR(hZ:FxOk Z){ds:List Cd}(hm:ds.map jT=wz Z cs g (bO Z cs cs.length).length)(hd:∀d∈ds,tR Z cs g d):(gU rkI ds).map jT=Ba Z cs g:=by
 have hp:(gU rkI ds).Perm ds:=Wu CO.rkI.swo ds;have Gc:((gU rkI ds).map jT).Perm (wz Z cs g (bO Z cs cs.length).length):=hm▸hp.map jT;have Sn:(Ba Z cs g).Perm (wz Z cs g (bO Z cs cs.length).length):=List.mergeSort_perm _ _;refine nzk (le:=Pa Z cs g) (λa ha b hb=>LQ hZ a (Gc.mem_iff.1 ha) b (Gc.mem_iff.1 hb)) ?_ ?_ (Gc.trans Sn.symm)
 ·rw[List.pairwise_map];refine(nKp CO.rkI ds).imp_of_mem ?_;intro a b ha hb h;have h1:=(hd a (hp.mem_iff.1 ha)).key;have h2:=(hd b (hp.mem_iff.1 hb)).key;simp only[Pa,decide_eq_true_eq,<-h1,<-h2];exact h
 refine List.pairwise_mergeSort (λa b c h1 h2=>?_) (λa b=>?_) _
 ·simp only[Pa,decide_eq_true_eq]at *;exact CO.ky3.trans _ _ _ h1 h2
 have:=CO.ky3.anti (Gb Z cs g a) (Gb Z cs g b);simp only[Pa,Bool.or_eq_true,decide_eq_true_eq];omega
structure qo (F:ad) (x:Gv):Prop where
 ms:iK qJ 3 F x.ma x.g.ms
 ns:iK fV 2 F x.na x.g.ns
 mn:x.g.ms.length<=10000
 nn:x.g.ns.length<=80000
theorem qo.mono{F':ad}(h:qo F x)(hF:∀p∈F,p∈F'):qo F' x:=⟨h.ms.mono hF,h.ns.mono hF,h.mn,h.nn⟩
theorem qo.lies(h:qo F x)(hW:∀p∈F,p.1<N/\W.heap[p.1]? =some p.2):cj N W x:=⟨h.ms.at hW,h.ns.at hW,h.mn,h.nn⟩
def ez (K:Nat) (x:Gv):Prop:=(∀q,x.ma=some q->x.g.ms=[]\/K<=q.block)/\(∀q,x.na=some q->x.g.ns=[]\/K<=q.block)
theorem qo.new(h:qo F x)(hF:∀p∈F,K<=p.1):ez K x:=⟨h.ms.ge hF,h.ns.ge hF⟩
theorem nll(hZ:FxOk Z)(G:Gv)(c:Cm)(dE:bN c)(N:Nat)(w:World)(hN:N<=w.heap.size)(hG:cj N w G)(hC:dB N w c)(hg:Glb w):Calls prog 83 #[.agg (bF G),.agg (cM c)] w (λe w'=>∃(X:Gv) (F':ad),e= .returned (.tuple #[.agg (bF X),ab (iy Z G.g c)])/\Below w.heap.size w w'/\(∀p∈F',w.heap.size<=p.1/\w'.heap[p.1]? =some p.2)/\X.g=yj Z G.g c/\qo F' X):=by
 refine(nud hZ G c dE N w hN hG hC hg).mono ?_;rintro e w' ⟨X,rfl,hb,hg9,fJ,yZ,mN⟩;obtain⟨F1,wB,uJ⟩:=fJ.ms.fs yZ;obtain⟨F2,Pb,hs2⟩:=fJ.ns.fs mN;refine⟨X,F1++F2,rfl,hb,λp hp=>(aY.1 hp).elim (wB p) (Pb p),hg9,uJ.mono (λp hp=>aY.2 (.inl hp)),hs2.mono (λp hp=>aY.2 (.inr hp)),fJ.mn,fJ.nn⟩
theorem Sw{xs:List Cd}(hl:xs.length<=1000000){cap:Nat}(bP:(Rw.row b cap sp).Fit 143 xs)(h:W.heap[b]? =some (bj oZ 159 xs sp))(bk:Nat)(WD:∀w:World,aQ (· =b) W w->Sq w bk):Calls prog 109 #[.slice (ao b) xs.length cap,.func (.func 249) #[] #[ptr bk 0]] W (λe w'=>∃bY,e= .returned ((λ_=>.tuple #[]) (Rw.row b cap bY))/\aQ (· =b) W w'/\(Rw.row b cap bY).Fit 143 (gU rkI xs)/\w'.heap[b]? =some (bj oZ 159 (gU rkI xs) bY)):=by
 have Jm:∀ys:List Cd,ys.length=xs.length->∀(m:Nat) (os:Array Obj),aQ (· =b) W (Go.Proofs.sortWorldK oZ 143 W b 0 m ys.toArray os):=λys hy m os=>(ZJ (n:=m) (os:=os) FR h (ys:=ys) hy).1;have hc:=Go.Proofs.AnyQ.slices_SortFunc_eq Go.Proofs.Tryz.laySC 143 isAgg159 sizeOf159 oZ FR nsk rkI CO.rkI.swo 249 #[ptr bk 0] b 0 cap xs.toArray W (Go.Proofs.enters_of func249 zO rfl) (λm os dk hd x y=>ajk x y bk _ (WD _ (by have:=Jm dk.toList (by rw[Ox,hd];simp) m os;simpa using this))) (nlj FR h) (bA.1 h).1 mV;change Calls prog 109 _ _ _ at hc;refine hc.mono ?_;rintro e w' ⟨rfl,n,os,rfl⟩;have hp:=ZJ (n:=n) (os:=os) FR h (ys:=gU rkI xs) (O1 CO.rkI.swo xs);exact⟨sp,rfl,hp.1,by simp only[Rw.Fit,O1 CO.rkI.swo];exact bP,hp.2⟩
def Ah (w:World) (b N:Nat):Prop:=N<=b/\∃b',N<=b'/\w.heap[b]? =some (oC #[.slice (ao b') 3 3] 390)/\w.heap[b']? =some (oC #[.func (.func 183) #[] #[],.func (.func 184) #[] #[],.func (.func 185) #[] #[]] 227)
theorem Ah.keep{X:Nat->Prop}(h:Ah w b N)(hk:aQ X w W)(hX:∀k,X k->k<N):Ah W b N:=by
 obtain⟨h0,b',eP,h1,h2⟩:=h;have l1:=(bA.1 h1).1;have l2:=(bA.1 h2).1;refine⟨h0,b',eP,?_,?_⟩
 ·rw[hk.block b l1 (λhx=>by have:=hX _ hx;omega)];exact h1
 rw[hk.block b' l2 (λhx=>by have:=hX _ hx;omega)];exact h2
theorem Ah.at(h:Ah w b N):Sq w b:=⟨h.2.choose,h.2.choose_spec.2⟩
theorem nap(b:Nat)(w:World):Calls prog 182 #[.slice (ao b) 3 3] w (cZ w (λb1:Nat=>.func (.func 249) #[] #[ptr b1 0]) (λb1 w1=>w.heap.size<=b1/\w1.heap[b1]? =some (oC #[.slice (ao b) 3 3] 390))):=by
 refine eN func182 ntmps182 ?_;refine cH 2 ?_;intro b1 w1 hb1 cK gS fX jK;refine B 10 ?_;refine sQ b1 results182 rfl A1 rfl ?_;exact λW hS=>⟨by omega,hS.old A0 hb1 cK trivial⟩
theorem nYl(w:World):Calls prog 110 #[] w (cZ w (λb1:Nat=>.func (.func 249) #[] #[ptr b1 0]) (λb1 w1=>Ah w1 b1 w.heap.size)):=by
 refine ef 7 func110 ntmps110 ?_;refine rM underlying390 sizeOf227 zeroValue227 rfl rfl rfl rfl rfl rfl rfl ?_;refine yV ?_;intro b1 w1 hb1 cK gS fX jK;refine nv (α:=Nat) (v:=λb9:Nat=>.func (.func 249) #[] #[ptr b9 0]) (Φ:=λW b9 w9=>W.heap.size<=b9/\w9.heap[b9]? =some (oC #[.slice (ao b1) 3 3] 390)) call182 rfl rfl rfl (λW hS=>nap b1 W) ?_;rintro W9 b9 w9 cC xY ⟨xX,uB⟩;have Za:=(cC.links w1 A0).size;have hzw:=(cC.links w A1).size;refine B 4 ?_;refine sQ b9 results110 rfl A2 rfl ?_;exact λW hS=>⟨by omega,b1,by omega,hS.old A0 uB zI trivial,hS.old A1 hb1 cK trivial⟩
theorem nml(bk:Nat)(w:World):Calls prog 241 #[ak,ab 0,ab 0,.func (.func 249) #[] #[ptr bk 0]] w (aP w (.tuple #[])):=by
 refine ef 8 func241 ntmps241 ?_;refine zFd ?_;rintro j _;refine B 5 ?_;refine wX ?_;exact cu (.inr rfl) results241 bB A0 trivial rfl
theorem n6o(bk:Nat)(l:Int)(w:World):Calls prog 181 #[ak,ab 0,ab 0,ab l,.func (.func 249) #[] #[ptr bk 0]] w (aP w (.tuple #[])):=by
 refine ef 11 func181 ntmps181 ?_;refine zGd ?_;rintro j _;refine QE ?_;refine B 9 ?_;refine call call241 rfl rfl rfl (λW hS=>nml bk W) ?_;refine B 7 ?_;exact cu (.inl rfl) results181 bB A0 trivial rfl
theorem nin(bk:Nat)(w:World):Calls prog 109 #[ak,.func (.func 249) #[] #[ptr bk 0]] w (aP w (.tuple #[])):=by
 refine eN func109 ntmps109 ?_;refine z1f ?_;refine call call181 rfl rfl rfl (λW hS=>n6o bk _ W) ?_;refine B 1 ?_;exact cu (.inr rfl) results109 bB A0 trivial rfl
theorem n7i(hZ:FxOk Z)(cs:List Cm)(bW:cs.length<=1000)(dE:∀c∈cs,bN c)(N:Nat)(la:Option Addr)(lc:Nat)(w:World)(hN:N<=w.heap.size)(aH:ai cM 73 N w la cs)(hC:∀c∈cs,dB N w c)(ia:Option Addr)(ic:Nat)(ta:Option Addr)(tc:Nat)(hp:pN Z cs N w ⟨ia,ic,ta,tc⟩)(G:Gv)(hG:cj N w G)(hg:Glb w):Calls prog 63 #[.agg (Ac Z cs la lc ⟨ia,ic,ta,tc⟩),.agg (bF G)] w (λe w'=>∃ds:List Cd,(ds.map jT=Ba Z cs G.g/\∀d∈ds,tR Z cs G.g d/\cj w'.heap.size w' d.x/\ez w.heap.size d.x)/\aD w oZ 143 159 ds id e w'):=by
 have hg4:=hg.lt;have gj:=nyh Z cs cs.length;have mw:((bO Z cs cs.length).map (·.1)).length=(bO Z cs cs.length).length:=eO ..;have Jm:((bO Z cs cs.length).map (·.2)).length=(bO Z cs cs.length).length:=eO ..;have Gd:=hp.ids;have Ge:=hp.at_;dsimp only at Gd Ge;refine nB (dF []) [] (vs:=[_,_]) func63 rfl ntmps63 rfl (Lm w) ?_;refine cH 2 ?_;intro b2 w2 dw bX fB dJ dH;refine yX ?_;intro b3 w3 dA cX fT eC ff;refine aE 7 (.slice ta ((bO Z cs cs.length).map (·.2)).length tc) ?_;refine B 5 ?_;refine CJ.loop (α:=((Rw×List Cd)×ad)×Nat) (λp9=>[(2,ptr b2 0),(3,ptr b3 0),(4,p9.1.1.1.val p9.1.1.2.length),(11,.slice ta ((bO Z cs cs.length).map (·.2)).length tc),(12,ab (((bO Z cs cs.length).map (·.2)).length:Int)),(13,ab (p9.2:Int))]) (λp9=>p9.1.1.1.hp oZ 159 p9.1.1.2++[]) (λp9=>[w3,w2,w]) (λp9=>dF p9.1.2) (λp9=>p9.2<=((bO Z cs cs.length).map (·.2)).length/\p9.1.1.1.Fr (dF p9.1.2) [w3,w2,w]/\p9.1.1.1.Fit 143 p9.1.1.2/\p9.1.1.2.map jT=wz Z cs G.g p9.2/\(∀d∈p9.1.1.2,tR Z cs G.g d/\qo p9.1.2 d.x)/\p9.1.1.2.length<=p9.2/\∀q∈p9.1.2,w.heap.size<=q.1) (λp9=>((bO Z cs cs.length).map (·.2)).length-p9.2) (((.nil,[]),[]),0) ⟨cY _,True.intro,rfl,rfl,by simp,aj _,by simp⟩ zR rfl rfl zJ ?_;rintro⟨⟨⟨r,ds⟩,F⟩,k⟩ ⟨hk,aM,ae,aW,iP,uQ,dC⟩
 dsimp only at hk aM ae aW iP uQ dC ⊢;have bJ:r.ge w3.heap.size:=Rw.ge_fz aM A0;refine aG 6 ?_ ?_
 ·intro av;refine B 5 ?_;obtain⟨q,hq⟩:=ng (bO Z cs cs.length) k aa;obtain⟨i,c,LS,lM,hc,hqk⟩:=Sk Z cs _ q (cA hq);have Ju:((bO Z cs cs.length).map (·.2))[k]? =some ((i:Nat):Int):=by rw[mY,hq,Ky,LS]
  have Qd:((bO Z cs cs.length).map (·.1))[k]? =some (dk (aB Z c)):=by rw[mY,hq,Ky,hqk]
  have Dl:=cA hc;obtain⟨ba,oa,csa,ta,fra,rfl,Sx,Gf,Gg⟩:=Ge.get aa;obtain⟨bq,oq,Ri,tq,Rj,rfl,pG,zf,qI⟩:=Gd.get aa;obtain⟨bl,ol,csl,tl,frl,rfl,jr,tS,mI⟩:=aH.get aa;refine B 3 ?_;refine rv rfl rfl rfl (ar (v:=ab (i:Int)) isAgg3 rfl A2 Gf zI zz zNc) ?_;refine aE 7 (.slice (some ⟨bl,ol,none⟩) cs.length lc) ?_;refine aE 2 (.agg (cM c)) ?_;refine bH 1 ?_;intro b7 kh v7;refine B 5 ?_;by_cases hq9:iA c.par G.g.last=true
  ·refine aE 2 (.agg (dg c.par)) ?_;refine aE 1 (.agg (dg G.g.last)) ?_;refine rq bG (dT nO zA nF rfl rfl rfl) (congrArg (λq=>Value.bool (!q)) hq9) ?_;refine aE 7 (.agg (bF G)) ?_;refine dp (.agg (cM c)) ?_;refine Pd (γ:=Gv) (v:=λX=>.tuple #[.agg (bF X),ab (iy Z G.g c)]) (Φ:=λF X=>X.g=yj Z G.g c/\qo F X) call83 rfl rfl rfl (λW hS=>nll hZ G c (dE c Dl) N W cJ (hG.up (aj _) (hS.same A2 hN zH zD)) ((hC c Dl).up (aj _) (hS.same A2 hN zH zD)) (hg.old hS A2 zH zD)) ?_;rintro Xn F2 ⟨gi,jZ⟩ Pb;obtain⟨e,he⟩:∃e,iy Z G.g c=e:=⟨_,rfl⟩;rw[he];refine bH 4 ?_;intro b8 CZ Jc;refine aG 10 ?_ ?_
   ·intro aR;refine eS 15 14 [] (pb:=by exact zU 11 (k:=by exact aJ (nf call108 rfl rfl (λW hS _=>Lw G N W cJ (hG.up (aj _) (hS.same A2 hN zH zD)) c.author) (λ_=>rfl)) zT)) (sp:=[_,_,some (.agg (cM c)),_,some (.slice (some ⟨bq,oq,none⟩) ((bO Z cs cs.length).map (·.1)).length ic),_,_,some (.agg (dg (aB Z c))),some (.agg (bF G)),_,some (ab c.author),some (ab (Cq G.g.ms c.author)),some (.agg (bF Xn)),some (.agg (jm (⟨(i:Int),c,aB Z c,Cq G.g.ms c.author,Xn⟩:Cd))),_]) (h:=?_);intro _ _ hk;refine kp underlying162 sizeOf159 zeroValue159 rfl rfl rfl rfl rfl rfl rfl ?_;intro b50 pL iw;have apv:w3.heap.size<=b50:=pL.1;refine zE ?_;refine kz (r:=r) (xs:=ds) (zs:=[(⟨(i:Int),c,aB Z c,Cq G.g.ms c.author,Xn⟩:Cd)]) (enc:=oZ) (m:=143) (H0:=[(b50,oC (jm (⟨(i:Int),c,aB Z c,Cq G.g.ms c.author,Xn⟩:Cd)) 159),(b8,oC (bF Xn) 53),(b7,oC (cM c) 61)]) (H1:=[]) zX FV FR rfl rfl rfl rfl (cD.one (z:=(⟨(i:Int),c,aB Z c,Cq G.g.ms c.author,Xn⟩:Cd)) FR nsk underlying162 (bE.own (i:=0) rfl)) ae aM zJ y9 ?_;intro b51 ajo ajp Sy Sz;replace Sy:=yb Sy;refine zc ?_;refine qF ?_;refine ag (((Rw.row b51 ajo ajp,ds++[(⟨(i:Int),c,aB Z c,Cq G.g.ms c.author,Xn⟩:Cd)]),F2++F),k+1) ⟨by dsimp only;omega,Sy.elim (λh=>Rw.Fr_at aM h) (λh=>.inr h),Sz,by dsimp only;rw[LL hq LS (LO hc hq9 (by rw[he];assumption)),gL,aW];rfl,λd hd=>(aY.1 hd).elim (λh=>⟨(iP d h).1,(iP d h).2.mono (λp hp=>aY.2 (.inr hp))⟩) (λh=>by rw[gh.1 h];exact⟨⟨Int.natCast_nonneg _,hc,rfl,rfl,gi.trans (if_pos (by rw[he];assumption)),by rw[he];assumption⟩,jZ.mono (λp hp=>aY.2 (.inl hp))⟩),by dsimp only;rw[cO,List.length_singleton];omega,λq hq=>(aY.1 hq).elim (λh=>(Pb q h).not A2) (dC q)⟩
   intro aR;refine LB ?_;refine ag (((r,ds),F2++F),k+1) ⟨by dsimp only;omega,aM,ae,by dsimp only;rw[Ga hq LS (LN hc (by rw[he];assumption))];exact aW,λd hd=>⟨(iP d hd).1,(iP d hd).2.mono (λp hp=>aY.2 (.inr hp))⟩,by dsimp only;omega,λq hq=>(aY.1 hq).elim (λh=>(Pb q h).not A2) (dC q)⟩
  refine aE 2 (.agg (dg c.par)) ?_;refine aE 1 (.agg (dg G.g.last)) ?_;refine rq bZ (dT nO zA nF rfl rfl rfl) (congrArg (λq=>Value.bool (!q)) (Bool.eq_false_iff.2 hq9)) ?_;refine B 11 ?_;refine qF ?_;refine ag (((r,ds),F),k+1) ⟨by dsimp only;omega,aM,ae,by dsimp only;rw[Ga hq LS (LM hc hq9)];exact aW,iP,by dsimp only;omega,dC⟩
 intro av;refine B 6 ?_;have hke:k=(bO Z cs cs.length).length:=by omega
 rw[hke]at aW;refine B 2 ?_;refine nv (α:=Nat) (v:=λb:Nat=>.func (.func 249) #[] #[ptr b 0]) (Φ:=λW b w1=>Ah w1 b W.heap.size) call110 rfl rfl rfl (λW hS=>nYl W) ?_;intro Wk bk wk wj ES WD;have hzk:=ES.size;refine EM (r:=r) (enc:=oZ) (m:=143) (t:=159) (xs:=ds) (ys:=gU rkI ds) (H0:=[]) (H1:=[]) (v:=λ_=>.tuple #[]) rfl call109 rfl rfl rfl (λhr W hS=>?_) (λb cap sp hr W hS h=>?_) ?_
 ·subst hr;have h0:ds=[]:=ae;subst h0;exact(nin bk W).mono λe w2 h=>⟨h.1,my (O1 CO.rkI.swo []),h.2⟩
 ·subst hr;have jr:b<Wk.heap.size:=wj.lt (b,_) A0;exact Sw aa ae h bk (λw9 hk9=>((WD.keep (X:=λk=>k=b) ((hS.links wk A0).mono (λk _ hx=>by rcases hx with hx|hx;(exact hx.elim);simpa[Rw.hp]using hx)) (λk hk=>by omega)).keep hk9 (λk hk=>by omega)).at)
 intro r2 eM lS rT kA;have ey:=rT _ bJ;refine B 9 ?_;refine bQ (.inl rfl) results63 bB λW hS=>?_;have lQ:(gU rkI ds).Perm ds:=Wu CO.rkI.swo ds;refine⟨gU rkI ds,⟨LR hZ aW (λd hd=>(iP d hd).1),λd hd=>⟨(iP d (lQ.mem_iff.1 hd)).1,(iP d (lQ.mem_iff.1 hd)).2.lies hS.fzLies,(iP d (lQ.mem_iff.1 hd)).2.new dC⟩⟩,r2,?_,?_,Rw.ge_mono ey aa,eM,?_⟩
 ·show Ending.returned (r.val ds.length)=Ending.returned (r2.val (gU rkI ds).length);rw[kA,O1 CO.rkI.swo]
 ·exact(hS.links w A3).below (λk hk hx=>by rcases hx with hx|hx;(exact hx);simp only[eX,ee]at hx;have:=Rw.mem_ge ey hx;omega)
 cases r2 with
  |nil=>trivial
  |row b cap sp=>exact hS.own (b,_) oV
instance:Inhabited Cm:=⟨⟨0,0,λ_=>0,0,[],none,0,[],none,0,[],none,0,[],none,0,λ_=>0,0,0⟩⟩
def zCd:Cd:=default
def ajs {α:Type} (cf:α->Cm) (l:List α) (d:α):Bool:=l.any λx=>decide ((cf x).author≠(cf d).author)&&(cf x).chs.any (ai1 (cf d).author)
def ajt {α:Type} (cf:α->Cm) (b:Option α) (d:α):Option α:=match b with|none=>some d|some w=>if rmN (cf w).chs<rmN (cf d).chs then some d else some w
def wnS {α:Type} (cf:α->Cm) (s:List α×Option α) (d:α):List α×Option α:=if ajs cf s.1 d=true then s else(s.1++[d],ajt cf s.2 d)
def wnT {α:Type} (cf:α->Cm) (l:List α) (k:Nat):List α×Option α:=(l.take k).foldl (wnS cf) ([],none)
def iQ (cs:List Cm) (i:Nat):Cm:=(cs[i]?).getD default
noncomputable def wnI (Z:Fx) (cs:List Cm) (g:Gp):Option Nat:=(wnT (iQ cs) (Ba Z cs g) (Ba Z cs g).length).2
theorem ez.mono{K':Nat}(h:ez K x)(hk:K'<=K):ez K' x:=⟨λq e=>(h.1 q e).imp id (eE hk),λq e=>(h.2 q e).imp id (eE hk)⟩
structure Fo where
 id:Int
 first:Nat->Int
def qR (f:Fo):Array Value:=(ab f.id::lJ f.first []).toArray
def g0 (f:Fo):Gp:=⟨f.id,0,λ_=>0,[],[]⟩
def g0v (f:Fo):Gv:=⟨g0 f,none,0,none,0⟩
theorem SA(f:Fo)(N:Nat)(w:World):cj N w (g0v f):=⟨.inl rfl,.inl rfl,by simp[g0v,g0],by simp[g0v,g0]⟩
theorem nDp(l:List Dk)(k:Dk):pM l k= -1\/∃j:Nat,pM l k=(j:Int)/\l[j]? =some k:=by
 unfold pM;cases h:l.findIdx? λx=>decide (x=k)with
 |none=>exact .inl rfl
 |some j=>
  obtain⟨h1,h2,_⟩:=aqr.1 h;refine .inr ⟨j,rfl,?_⟩;rw[lj h1];simpa using h2
noncomputable def LU (Z:Fx) (cs:List Cm) (f:Fo):Option Nat:=if pM ((bO Z cs cs.length).map (·.1)) (dk f.first)<0 then none else((bO Z cs cs.length)[(pM ((bO Z cs cs.length).map (·.1)) (dk f.first)).toNat]?).map λp=>p.2.toNat
noncomputable def sZ (Z:Fx) (cs:List Cm) (f:Fo):Option Nat:=(LU Z cs f).bind λi=>if iy Z (g0 f) (iQ cs i)=0 then some i else none
structure xj (Z:Fx) (cs:List Cm) (g:Gp) (d:Cd):Prop where
 nn:0<=d.at_
 at_:cs[jT d]? =some d.c
 x:d.x.g=kr Z g d.c
 ok:iy Z g d.c=0
theorem tR.le(h:tR Z cs g d):xj Z cs g d:=⟨h.nn,h.at_,h.x,h.ok⟩
def wC (b:Nat) (x:Gv):Prop:=(∀q,x.ma=some q->x.g.ms=[]\/q.block≠b)/\(∀q,x.na=some q->x.g.ns=[]\/q.block≠b)
theorem ez.off(h:(∀q,x.ma=some q->K<=q.block)/\(∀q,x.na=some q->K<=q.block))(hb:b<K):wC b x:=⟨λq e=>.inr (by have:=h.1 q e;omega),λq e=>.inr (by have:=h.2 q e;omega)⟩
theorem ai.ltq{α:Type}{enc:α->Array Value}{n:Nat}{xs:List α}(h:ai enc n N w a xs):∀q,a=some q->xs=[]\/q.block<N:=by
 intro q e;rcases h with h|⟨b,off,cs,t,fr,h1,h2,_⟩;all_goals grind
theorem cj.off(h:cj N w x)(hb:N<=b):wC b x:=⟨λq e=>(h.ms.ltq q e).imp id (λh=>by omega),λq e=>(h.ns.ltq q e).imp id (λh=>by omega)⟩
theorem cj.toO(h:cj N w x)(hS:St Gh.no L H W)(hw:w∈L)(hN:N<=w.heap.size)(ho:∀p∈H,wC p.1 x):cj W.heap.size W x:=by
 have key:∀b,(∀p∈H,p.1≠b)->bM H b:=λb hb=>bM.of_mem (λhm=>by obtain⟨p,hp,e⟩:=bT.1 hm;exact hb p hp e);refine⟨h.ms.toG hS hw hN (λb off e=>?_),h.ns.toG hS hw hN (λb off e=>?_),h.mn,h.nn⟩
 ·by_cases h0:x.g.ms=[]
  ·exact .inl h0
  exact .inr (λ_=>⟨λh=>h,key b (λp hp e2=>((ho p hp).1 _ e).resolve_left h0 e2.symm)⟩)
 by_cases h0:x.g.ns=[]
 ·exact .inl h0
 exact .inr (λ_=>⟨λh=>h,key b (λp hp e2=>((ho p hp).2 _ e).resolve_left h0 e2.symm)⟩)
theorem nfp(hZ:FxOk Z)(cs:List Cm)(bW:cs.length<=1000)(dE:∀c∈cs,bN c)(N:Nat)(la:Option Addr)(lc:Nat)(w:World)(hN:N<=w.heap.size)(aH:ai cM 73 N w la cs)(hC:∀c∈cs,dB N w c)(ia:Option Addr)(ic:Nat)(ta:Option Addr)(tc:Nat)(hp:pN Z cs N w ⟨ia,ic,ta,tc⟩)(fo:Fo)(hg:Glb w):Calls prog 62 #[.agg (Ac Z cs la lc ⟨ia,ic,ta,tc⟩),.agg (qR fo)] w (cZ w (λq:Cd×Bool=>.tuple #[.agg (jm q.1),.bool q.2]) (λq w'=>(q.2=true/\sZ Z cs fo=some (jT q.1)/\xj Z cs (g0 fo) q.1/\cj w'.heap.size w' q.1.x/\ez w.heap.size q.1.x)\/(q.2=false/\sZ Z cs fo=none))):=by
 have hg4:=hg.lt;have gj:=nyh Z cs cs.length;have mw:((bO Z cs cs.length).map (·.1)).length=(bO Z cs cs.length).length:=eO ..;have Jm:((bO Z cs cs.length).map (·.2)).length=(bO Z cs cs.length).length:=eO ..;have Gd:=hp.ids;have Ge:=hp.at_;dsimp only at Gd Ge;obtain⟨k,hk0⟩:∃k,pM ((bO Z cs cs.length).map (·.1)) (dk fo.first)=k:=⟨_,rfl⟩;refine eN func62 ntmps62 ?_;refine cH 2 ?_;intro b2 w2 dw bX fB dJ dH;refine yX ?_;intro b3 w3 dA cX fT eC ff;refine bH 1 ?_;intro b4 iT iU;refine aE 6 (.slice ia ((bO Z cs cs.length).map (·.1)).length ic) ?_;refine aE 1 (.agg (dg fo.first)) ?_;refine call call107 rfl rfl rfl (λW hS=>by rw[<-hk0];exact FY ((bO Z cs cs.length).map (·.1)) aa N ia ic W cJ (Gd.up (aj _) hS.sm) fo.first) (v:=ab k) ?_;refine B 5 ?_;rcases nDp ((bO Z cs cs.length).map (·.1)) (dk fo.first)with hd1|⟨j,hd1,hd2⟩
 ·have hk:k= -1:=by rw[<-hk0];exact hd1
  refine B 2 ?_;refine Rz ?_;refine dp (.agg (jm zCd)) ?_;refine B 6 ?_;refine bQ (.inl rfl) results62 bB λW hS=>⟨(zCd,false),rfl,hS.base A2 zF,.inr ⟨rfl,?_⟩⟩;show sZ Z cs fo=none;unfold sZ LU;rw[hd1,if_pos aa];rfl
 have hk:k=(j:Int):=by rw[<-hk0];exact hd1
 refine B 2 ?_;refine Eo ?_;obtain⟨q,hq⟩:=ng (bO Z cs cs.length) j (by have:=nq hd2;omega);obtain⟨i,c,LS,lM,hc,hqk⟩:=Sk Z cs _ q (cA hq);have Ju:((bO Z cs cs.length).map (·.2))[j]? =some ((i:Nat):Int):=by rw[mY,hq,Ky,LS]
 have BT:=nq Ju;have Dl:=cA hc;obtain⟨e,he⟩:∃e,iy Z (g0 fo) c=e:=⟨_,rfl⟩;subst hk;obtain⟨ba,oa,csa,ta,fra,rfl,Sx,Gf,Gg⟩:=Ge.get aa;obtain⟨bl,ol,csl,tl,frl,rfl,jr,tS,mI⟩:=aH.get aa;have hk:pM ((bO Z cs cs.length).map (·.1)) (dk fo.first)=(j:Int):=hd1;refine CJ.less (E':=[(0,_),(1,_),(2,_),(3,_),(4,_),(5,_),(6,_),(9,_),(10,_),(11,_),(12,_),(13,_),(14,_),(15,_)]) zR ?_;refine dN 18 [12,13,14,16,17] [[],[0],[0,1],[],[0,1,2,3]] (λcv L' H'=>let eo:ad:=[(b4,oC (jm zCd) 159)];match cv with| [none,none,none,none,none]=>L'=[w3,w2,w]/\H'=eo| [none,none,none,some xk,none]=>∃(b7:Nat),xk=ptr b7 0/\L'=[w3,w2,w]/\H'=(b7,oC (bF gf) 53)::eo/\w3.heap.size<=b7| [some v12,none,none,none,none]=>∃(Xn:Gv) (fq:World),v12= .tuple #[.agg (bF Xn),ab e]/\L'=[fq,w3,w2,w]/\H'=eo/\Xn.g=yj Z (g0 fo) c/\cj fq.heap.size fq Xn/\wC b4 Xn/\ez w.heap.size Xn| [some v12,none,none,some xk,none]=>∃(Xn:Gv) (fq:World) (b7:Nat),v12= .tuple #[.agg (bF Xn),ab e]/\xk=ptr b7 0/\L'=[fq,w3,w2,w]/\H'=(b7,oC (bF gf) 53)::eo/\Xn.g=yj Z (g0 fo) c/\cj fq.heap.size fq Xn/\wC b4 Xn/\ez w.heap.size Xn/\w3.heap.size<=b7/\wC b7 Xn| [some v12,some xl,none,none,none]=>∃(Xn:Gv) (fq:World),v12= .tuple #[.agg (bF Xn),ab e]/\xl= .tuple #[.agg (bF Xn),ab e]/\L'=[fq,w3,w2,w]/\H'=eo/\Xn.g=yj Z (g0 fo) c/\cj fq.heap.size fq Xn/\wC b4 Xn/\ez w.heap.size Xn| [some v12,some xl,none,some xk,none]=>∃(Xn:Gv) (fq:World) (b7:Nat),v12= .tuple #[.agg (bF Xn),ab e]/\xl= .tuple #[.agg (bF Xn),ab e]/\xk=ptr b7 0/\L'=[fq,w3,w2,w]/\H'=(b7,oC (bF gf) 53)::eo/\Xn.g=yj Z (g0 fo) c/\cj fq.heap.size fq Xn/\wC b4 Xn/\ez w.heap.size Xn/\w3.heap.size<=b7/\wC b7 Xn| [some v12,some xl,some Cs,none,none]=>∃(Xn:Gv) (fq:World),v12= .tuple #[.agg (bF Xn),ab e]/\xl= .tuple #[.agg (bF Xn),ab e]/\Cs= .agg (bF Xn)/\L'=[fq,w3,w2,w]/\H'=eo/\Xn.g=yj Z (g0 fo) c/\cj fq.heap.size fq Xn/\wC b4 Xn/\ez w.heap.size Xn| [some v12,some xl,some Cs,some xk,none]=>∃(Xn:Gv) (fq:World) (b7:Nat),v12= .tuple #[.agg (bF Xn),ab e]/\xl= .tuple #[.agg (bF Xn),ab e]/\Cs= .agg (bF Xn)/\xk=ptr b7 0/\L'=[fq,w3,w2,w]/\H'=(b7,oC (bF gf) 53)::eo/\Xn.g=yj Z (g0 fo) c/\cj fq.heap.size fq Xn/\wC b4 Xn/\ez w.heap.size Xn/\w3.heap.size<=b7/\wC b7 Xn| [some v12,some xl,some Cs,some xk,some v17]=>∃(Xn:Gv) (fq:World) (b7:Nat),v12= .tuple #[.agg (bF Xn),ab e]/\xl= .tuple #[.agg (bF Xn),ab e]/\Cs= .agg (bF Xn)/\xk=ptr b7 0/\v17= .tuple #[]/\L'=[fq,w3,w2,w]/\H'=(b7,oC (bF Xn) 53)::eo/\Xn.g=yj Z (g0 fo) c/\cj fq.heap.size fq Xn/\wC b4 Xn/\ez w.heap.size Xn/\w3.heap.size<=b7/\wC b7 Xn|_=>False) ⟨rfl,rfl⟩ (qm 1 (k:=by exact lD zcq (qm 2 (k:=by exact lD zcq (qm 1 (k:=by exact lD zcq (qm 2 (k:=by exact lD zcq (qm 1 (k:=by exact lD zcq (qm 3 (k:=by exact lD (λcv L' H' hl hd hP=>by obtain⟨rm,s9,uL,ym,yn,rfl⟩:=tQ hl;(rcases rm with _|v12<;>rcases s9 with _|xl<;>rcases uL with _|Cs<;>rcases ym with _|xk<;>rcases yn with _|v17<;>try exact False.elim hP);exact(absurd (show false=true from hd) zA);exact(absurd (show false=true from hd) zA);exact(absurd (show false=true from hd) zA);exact(absurd (show false=true from hd) zA);(obtain⟨Xn,fq,rfl,rfl,rfl,rfl,gi,jZ,lY,lZ⟩:=hP;exact X.v (jg rfl rfl));(obtain⟨Xn,fq,b7,rfl,rfl,rfl,rfl,rfl,gi,jZ,lY,lZ,kh,td⟩:=hP;exact X.v (jg rfl rfl));(obtain⟨Xn,fq,rfl,rfl,rfl,rfl,rfl,gi,jZ,lY,lZ⟩:=hP;exact X.v (jg rfl rfl));(obtain⟨Xn,fq,b7,rfl,rfl,rfl,rfl,rfl,rfl,gi,jZ,lY,lZ,kh,td⟩:=hP;exact X.v (jg rfl rfl));(obtain⟨Xn,fq,b7,rfl,rfl,rfl,rfl,rfl,rfl,rfl,gi,jZ,lY,lZ,kh,td⟩:=hP;exact X.v (jg rfl rfl))) LI)))))))))))) (sp:=[_,some (ab fo.id),some (.agg (bF (g0v fo))),_,some (.slice (some ⟨bl,ol,none⟩) cs.length lc),_,some (.slice (some ⟨ba,oa,none⟩) ((bO Z cs cs.length).map (·.2)).length tc),_,_,some (ab (i:Int)),_,some (.agg (cM c)),_,_,_,some (ab e),_,_]) ?_ ?_
 ·refine nc rfl rfl ?_ ?_
  ·intro cv L' H' hl hr hP F Q' hk;obtain⟨rm,s9,uL,ym,yn,rfl⟩:=tQ hl;rcases rm with _|v12<;>rcases s9 with _|xl<;>rcases uL with _|Cs<;>rcases ym with _|xk<;>rcases yn with _|v17<;>try exact False.elim hP
   ·obtain⟨rfl,rfl⟩:=hP;refine ztd ?_;rintro W9 Xn fq cC xY ⟨gi,jZ,Jw⟩;try dsimp only at gi jZ Jw
    have Gj:=cC.lt (b4,_) A0;try dsimp only at Gj
    have Gk:=(cC.links w A2).size;have lY:=ez.off Jw Gj;have lZ:ez w.heap.size Xn:=⟨λq e=>.inr (eE Gk (Jw.1 q e)),λq e=>.inr (eE Gk (Jw.2 q e))⟩;exact OJ.done (hk _ _ _ ⟨Xn,fq,rfl,rfl,rfl,gi,jZ,lY,lZ⟩)
   ·obtain⟨b7,rfl,rfl,rfl,kh⟩:=hP;refine ztd ?_;rintro W9 Xn fq cC xY ⟨gi,jZ,Jw⟩;try dsimp only at gi jZ Jw
    have Gj:=cC.lt (b4,_) A1;try dsimp only at Gj
    have aak:=cC.lt (b7,_) A0;try dsimp only at aak
    have Gk:=(cC.links w A2).size;have lY:=ez.off Jw Gj;have lZ:ez w.heap.size Xn:=⟨λq e=>.inr (eE Gk (Jw.1 q e)),λq e=>.inr (eE Gk (Jw.2 q e))⟩;have td:=ez.off Jw aak;exact OJ.done (hk _ _ _ ⟨Xn,fq,b7,rfl,rfl,rfl,rfl,gi,jZ,lY,lZ,kh,td⟩)
   ·exact cN
   ·exact cN
   ·exact cN
   ·exact cN
   ·exact cN
   ·exact cN
   exact cN
  refine nc rfl rfl ?_ ?_
  ·intro cv L' H' hl hr hP F Q' hk;obtain⟨rm,s9,uL,ym,yn,rfl⟩:=tQ hl;rcases rm with _|v12<;>rcases s9 with _|xl<;>rcases uL with _|Cs<;>rcases ym with _|xk<;>rcases yn with _|v17<;>try exact False.elim hP
   ·exact cN
   ·exact cN
   ·obtain⟨Xn,fq,rfl,rfl,rfl,gi,jZ,lY,lZ⟩:=hP;refine B 1 ?_;exact OJ.done (hk _ _ _ ⟨Xn,fq,rfl,rfl,rfl,rfl,gi,jZ,lY,lZ⟩)
   ·obtain⟨Xn,fq,b7,rfl,rfl,rfl,rfl,gi,jZ,lY,lZ,kh,td⟩:=hP;refine B 1 ?_;exact OJ.done (hk _ _ _ ⟨Xn,fq,b7,rfl,rfl,rfl,rfl,rfl,gi,jZ,lY,lZ,kh,td⟩)
   ·exact cN
   ·exact cN
   ·exact cN
   ·exact cN
   exact cN
  refine nc rfl rfl ?_ ?_
  ·intro cv L' H' hl hr hP F Q' hk;obtain⟨rm,s9,uL,ym,yn,rfl⟩:=tQ hl;rcases rm with _|v12<;>rcases s9 with _|xl<;>rcases uL with _|Cs<;>rcases ym with _|xk<;>rcases yn with _|v17<;>try exact False.elim hP
   ·exact cN
   ·exact cN
   ·exact cN
   ·exact cN
   ·obtain⟨Xn,fq,rfl,rfl,rfl,rfl,gi,jZ,lY,lZ⟩:=hP;refine B 1 ?_;exact OJ.done (hk _ _ _ ⟨Xn,fq,rfl,rfl,rfl,rfl,rfl,gi,jZ,lY,lZ⟩)
   ·obtain⟨Xn,fq,b7,rfl,rfl,rfl,rfl,rfl,gi,jZ,lY,lZ,kh,td⟩:=hP;refine B 1 ?_;exact OJ.done (hk _ _ _ ⟨Xn,fq,b7,rfl,rfl,rfl,rfl,rfl,rfl,gi,jZ,lY,lZ,kh,td⟩)
   ·exact cN
   ·exact cN
   exact cN
  refine nc rfl rfl ?_ ?_
  ·intro cv L' H' hl hr hP F Q' hk;obtain⟨rm,s9,uL,ym,yn,rfl⟩:=tQ hl;rcases rm with _|v12<;>rcases s9 with _|xl<;>rcases uL with _|Cs<;>rcases ym with _|xk<;>rcases yn with _|v17<;>try exact False.elim hP
   ·obtain⟨rfl,rfl⟩:=hP;refine B 1 ?_;intro b7 ha ho;exact OJ.done (hk _ _ _ ⟨b7,rfl,rfl,rfl,(ha.mem w3 zJ)⟩)
   ·exact cN
   ·obtain⟨Xn,fq,rfl,rfl,rfl,gi,jZ,lY,lZ⟩:=hP;refine B 1 ?_;intro b7 ha ho;have td:wC b7 Xn:=jZ.off (by have:=ha.not (w:=fq) A0;omega);exact OJ.done (hk _ _ _ ⟨Xn,fq,b7,rfl,rfl,rfl,rfl,gi,jZ,lY,lZ,(ha.mem w3 zJ),td⟩)
   ·exact cN
   ·obtain⟨Xn,fq,rfl,rfl,rfl,rfl,gi,jZ,lY,lZ⟩:=hP;refine B 1 ?_;intro b7 ha ho;have td:wC b7 Xn:=jZ.off (by have:=ha.not (w:=fq) A0;omega);exact OJ.done (hk _ _ _ ⟨Xn,fq,b7,rfl,rfl,rfl,rfl,rfl,gi,jZ,lY,lZ,(ha.mem w3 zJ),td⟩)
   ·exact cN
   ·obtain⟨Xn,fq,rfl,rfl,rfl,rfl,rfl,gi,jZ,lY,lZ⟩:=hP;refine B 1 ?_;intro b7 ha ho;have td:wC b7 Xn:=jZ.off (by have:=ha.not (w:=fq) A0;omega);exact OJ.done (hk _ _ _ ⟨Xn,fq,b7,rfl,rfl,rfl,rfl,rfl,rfl,gi,jZ,lY,lZ,(ha.mem w3 zJ),td⟩)
   ·exact cN
   exact cN
  refine nc rfl rfl ?_ ?_
  ·intro cv L' H' hl hr hP F Q' hk;obtain⟨rm,s9,uL,ym,yn,rfl⟩:=tQ hl;rcases rm with _|v12<;>rcases s9 with _|xl<;>rcases uL with _|Cs<;>rcases ym with _|xk<;>rcases yn with _|v17<;>try exact False.elim hP
   ·exact cN
   ·exact cN
   ·exact cN
   ·exact cN
   ·exact cN
   ·exact cN
   ·exact cN
   ·obtain⟨Xn,fq,b7,rfl,rfl,rfl,rfl,rfl,rfl,gi,jZ,lY,lZ,kh,td⟩:=hP;refine B 1 ?_;exact OJ.done (hk (.tuple #[]) _ _ ⟨Xn,fq,b7,rfl,rfl,rfl,rfl,rfl,rfl,rfl,gi,jZ,lY,lZ,kh,td⟩)
   exact cN
  exact nn
 intro cv L' H' hl hr hP;obtain⟨rm,s9,uL,ym,yn,rfl⟩:=tQ hl;rcases rm with _|v12<;>rcases s9 with _|xl<;>rcases uL with _|Cs<;>rcases ym with _|xk<;>rcases yn with _|v17
 ·exact cN
 ·exact cN
 ·exact cN
 ·exact cN
 ·exact cN
 ·exact cN
 ·exact cN
 ·exact cN
 ·exact cN
 ·exact cN
 ·exact cN
 ·exact cN
 ·exact cN
 ·exact cN
 ·exact cN
 ·exact cN
 ·exact cN
 ·exact cN
 ·exact cN
 ·exact cN
 ·exact cN
 ·exact cN
 ·exact cN
 ·exact cN
 ·exact cN
 ·exact cN
 ·exact cN
 ·exact cN
 ·exact cN
 ·exact cN
 ·exact cN
 obtain⟨Xn,fq,b7,rfl,rfl,rfl,rfl,rfl,rfl,rfl,gi,jZ,lY,lZ,kh,td⟩:=hP;refine B 4 ?_;refine CJ.less (E':=[(0,_),(1,_),(2,_),(3,_),(4,_),(5,_),(6,_),(7,_),(8,_),(9,_),(10,_),(11,_),(12,_),(13,_),(14,_),(15,_),(17,_),(18,_),(19,_),(20,_),(21,_),(22,_),(23,_),(24,_),(25,_),(26,_),(27,_),(28,_),(29,_),(30,_),(31,_),(32,_)]) zR ?_;refine CJ.chn 21 [20] [_,some (.slice (some ⟨ba,oa,none⟩) ((bO Z cs cs.length).map (·.2)).length tc),_,_,some (ab (i:Int)),_,some (.slice (some ⟨bl,ol,none⟩) cs.length lc),_,some (.slice (some ⟨ba,oa,none⟩) ((bO Z cs cs.length).map (·.2)).length tc),_,_,some (ab (i:Int)),_,some (.agg (cM c)),_,some (.agg (dg fo.first)),some (.agg (bF Xn)),some (.agg (jm (⟨(i:Int),c,fo.first,0,Xn⟩:Cd))),_,_,none] (λcv L' H'=>match cv with| []=>L'=[fq,w3,w2,w]/\H'=[(b7,oC (bF Xn) 53),(b4,oC (jm zCd) 159)]| [v1]=>v1= .tuple #[]/\L'=[fq,w3,w2,w]/\H'=[(b7,oC (bF Xn) 53),(b4,oC (jm (⟨(i:Int),c,fo.first,0,Xn⟩:Cd)) 159)]|_=>False) (pc (by exact λcv L' H' hd hP=>X.v (cR underlying156 rfl sizeOf55 rfl)) (pc Jx (pc zM (pc zDb (pc Jx (pc (by exact λcv L' H' hd hP=>X.v (cR underlying156 rfl sizeOf24 rfl)) (pc Jx (pc (by exact λcv L' H' hd hP=>X.v (cR underlying156 rfl sizeOf55 rfl)) (pc Jx (pc zM (pc zDb (pc Jx (pc zzc (pc Jx (pc (by exact λcv L' H' hd hP=>X.v (cR underlying97 rfl sizeOf33 rfl)) (pc Jx (pc Jx (pc (by exact λcv L' H' hd hP=>X.v (vF underlying159 zeroValue159 (qp.c sizeOf3 (qp.c sizeOf61 (qp.c sizeOf33 (qp.c sizeOf3 (qp.c sizeOf53 (qp.n)))))) rfl rfl)) (pc zM (pc (by exact λcv L' H' hd hP=>X.v (kY rfl rfl)) (pk (pn)))))))))))))))))))))) ?_ ?_
 ·exact z3g
 intro cv L' H' hl hP;obtain⟨v1,rfl⟩:=jv hl;obtain⟨rfl,rfl,rfl⟩:=hP;refine B 4 ?_;have sY:LU Z cs fo=some i:=by unfold LU;rw[hk,if_neg aa,xU,hq,Ky,LS,xU]
 have hcN:iQ cs i=c:=by unfold iQ;rw[hc];rfl
 refine bQ (.inl rfl) results62 bB λW hS=>⟨((⟨(i:Int),c,fo.first,0,Xn⟩:Cd),decide (e=0)),rfl,hS.base A3 zF,?_⟩;by_cases WE:e=0
 ·refine .inl ⟨decide_eq_true WE,by unfold sZ;rw[sY,Option.bind_some,hcN,he,if_pos WE];rfl,⟨Int.natCast_nonneg _,hc,gi.trans (if_pos (by rw[he];exact WE)),by rw[<-WE];exact he⟩,jZ.toO hS A0 (aj _) (λp hp=>?_),lZ⟩;simp only[dx,ec,cd,dV,or_false]at hp;rcases hp with rfl|rfl
  ·exact td
  exact lY
 exact .inr ⟨decide_eq_false WE,by unfold sZ;rw[sY,Option.bind_some,hcN,he,if_neg WE]⟩
def Jy (cs:List Cm) (e:Int):Nat:=(cs.filter λc=>decide (e<c.epoch)).length
theorem SB(cs:List Cm)(e:Int):Jy cs e<=cs.length:=Sa _ _
theorem nAl(e:Int):∀cs:List Cm,Jy cs (e+1)<=Jy cs e
 | []=>aj _
 |c::cs=>by
  have ih:=nAl e cs;unfold Jy at ih ⊢;by_cases h1:e+1<c.epoch
  ·rw[SC Dg,SC mV];simp only[dO];omega
  rw[aCr Dg];by_cases h2:e<c.epoch
  ·rw[SC K9];simp only[dO];omega
  rw[aCr K9];exact ih
theorem Gl{e:Int}{c:Cm}(he:c.epoch=e+1):∀{cs:List Cm},c∈cs->Jy cs (e+1)<Jy cs e
 | [],h=>by cases h
 |b::cs,h=>by
  rcases cd.1 h with rfl|h
  ·have ih:=nAl e cs;unfold Jy at ih ⊢;rw[aCr mV,SC mV];simp only[dO];omega
  have ih:=Gl he h;unfold Jy at ih ⊢;by_cases h1:e+1<b.epoch
  ·rw[SC Dg,SC mV];simp only[dO];omega
  rw[aCr Dg];by_cases h2:e<b.epoch
  ·rw[SC K9];simp only[dO];omega
  rw[aCr K9];exact ih
theorem Gm(h:c∈cs):1+Jy cs c.epoch<=cs.length:=by
 have h1:=Gl (e:=c.epoch-1) (c:=c) aa h;rw[show c.epoch-1+1=c.epoch by omega]at h1;have:=SB cs (c.epoch-1);omega
theorem nhh(h:iy Z g c=0):c.epoch=g.epoch+1:=by grind [iy,lC]
def ChG (Z:Fx) (cs:List Cm):Gp->List (Nat×Gp)->Prop
 |g,[]=>wnI Z cs g=none
 |g,p::l=>wnI Z cs g=some p.1/\p.2=kr Z g (iQ cs p.1)/\ChG Z cs p.2 l
def ChF (Z:Fx) (cs:List Cm) (fo:Fo):List (Nat×Gp)->Prop
 | []=>sZ Z cs fo=none
 |p::l=>sZ Z cs fo=some p.1/\p.2=kr Z (g0 fo) (iQ cs p.1)/\ChG Z cs p.2 l
def qq (d:Cd):Nat×Gp:=(jT d,d.x.g)
def xm (Y:aI) (x:Gv):Prop:=(∀q,x.ma=some q->x.g.ms=[]\/¬Y q.block)/\(∀q,x.na=some q->x.g.ns=[]\/¬Y q.block)
theorem ez.out{Y:aI}(h:ez K x)(hy:∀k,Y k->k<K):xm Y x:=⟨λq e=>(h.1 q e).imp id (λh h2=>by have:=hy _ h2;omega),λq e=>(h.2 q e).imp id (λh h2=>by have:=hy _ h2;omega)⟩
theorem xm.up{Y Y':aI}(h:xm Y x)(ha:cj N w x)(hy:∀k,Y' k->Y k\/N<=k):xm Y' x:=
 ⟨λq e=>by
  rcases h.1 q e with h1|h1
  ·exact .inl h1
  rcases ha.ms.ltq q e with h2|h2
  ·exact .inl h2
  exact .inr (λh3=>(hy _ h3).elim h1 (λh4=>by omega)),
  λq e=>by
   rcases h.2 q e with h1|h1
   ·exact .inl h1
   rcases ha.ns.ltq q e with h2|h2
   ·exact .inl h2
   exact .inr (λh3=>(hy _ h3).elim h1 (λh4=>by omega))⟩
structure ChS (Z:Fx) (cs:List Cm) (fo:Fo) (M:aI) (pre:List Cd) (d:Cd) (V:aI) (wk:World) (b4:Nat):Prop where
 next:∀l,ChG Z cs d.x.g l->ChF Z cs fo (pre.map qq++qq d::l)
 lies:cj wk.heap.size wk d.x
 out:xm (λk=>M k\/V k) d.x
 off:wC b4 d.x
 mu:pre.length+1+Jy cs d.x.g.epoch<=cs.length
theorem xj.nx(h:xj Z cs g d):d.x.g=kr Z g (iQ cs (jT d)):=by rw[h.x];unfold iQ;rw[h.at_];rfl
variable {fo:Fo}
theorem ChS.first{M:aI}{w9:World}{b4:Nat}(h:sZ Z cs fo=some (jT d))(hd:xj Z cs (g0 fo) d)(ha:cj w9.heap.size w9 d.x)(hn:ez K d.x)(hM:∀k,M k->k<K)(hb:w9.heap.size<=b4):ChS Z cs fo M [] d (λ_=>False) w9 b4 where
 next:=λl hl=>⟨h,hd.nx,hl⟩
 lies:=ha
 out:=hn.out (λk hk=>hk.elim (hM k) (λh=>h.elim))
 off:=ha.off hb
 mu:=by
  have h1:=Gm (cA hd.at_);rw[hd.x];simp only[fO,kr];omega
def aam (NQ NR NX:Nat):aI:=λk=>k<NX/\(k<NQ\/NR<=k)
structure PlB (Z:Fx) (cs:List Cm) (la ia ta:Option Addr) (ic tc NQ NR NX:Nat) (W:World):Prop where
 q:NQ<=NX
 x:NX<=W.heap.size
 n3:6<=NQ
 sl:ai cM 73 NQ W la cs
 C:∀c∈cs,dB NQ W c
 p:pN Z cs NX W ⟨ia,ic,ta,tc⟩
 pi:∀q,ia=some q->NR<=q.block
 pt:∀q,ta=some q->NR<=q.block
 g:Glb W
theorem PlB.same{la ia ta:Option Addr}{ic tc NQ NR NX:Nat}{W':World}{M V:aI}{I:World->Prop}{hM:∀k,M k->k<W.heap.size/\¬(λ_=>False) k/\¬aam NQ NR NX k}{hI:gk (λk=>(k<W.heap.size/\¬(λ_=>False) k)\/V k) I}(h:PlB Z cs la ia ta ic tc NQ NR NX W)(hS:St (dD hM V hI) L H W')(hw:W∈L)(hV:∀k,V k->W.heap.size<=k)(ho:Over W.heap.size H):∀k,aam NQ NR NX k->W'.heap[k]? =W.heap[k]? :=λk hk=>by
 have hx:=h.x;have JT:=hk.1
 refine(hS.links W hw).block k aa ?_;rintro((h1|h1)|h1)
 ·exact(hM k h1).2.2 hk
 ·have:=hV k h1;omega
 obtain⟨p,hp,rfl⟩:=bT.1 h1;have:=ho.mem p hp;omega
theorem CJ.resnap{C:Cx}{c:Code}{Q:bC}{E:Env}{D:List Deferred}{G:Gh}{L':List World}{o:Obj}(hi:H[i]? =some (b,o))(hb:ah L' b)(hs:∀w∈L',w∈L)(k:∀W,St G L H W->CJ C c Q E D G (W::L') (H.eraseIdx i)):CJ C c Q E D G L H:=
 λa W hN hD hF hS=>k W hS a W hN hD hF ((hS.lessL hs).dropAt hi hb).snap

def tU (c:Cm):Bool:=c.bxs.all (λx=>decide (x.w.body.length<=200))&&c.wes.all (λx=>decide (x.w.body.length<=200))&&decide (c.chs.length<=10)&&decide (c.path.length<=12)&&decide (c.bxs.length<=40)&&decide (c.wes.length<=10)
section
variable {α:Type}{f:α->Bool}{xs:List α}
include α f
theorem nmg{x:α}(h:(xs.take j).all f=true)(hx:xs[j]? =some x)(hf:f x=true):(xs.take (j+1)).all f=true:=by rw[np hx,List.all_append,h];simp[hf]
theorem noh(h:(xs.take j).all f=true)(hj:¬j<xs.length):xs.all f=true:=by rw[iz aa]at h;exact h
theorem nib{x:α}(hx:xs[j]? =some x)(hf:f x=false):xs.all f=false:=by grind
end
theorem nQj(l:List Ch)(a:Option Addr)(c:Nat)(w:World):Calls prog 91 #[.slice a l.length c] w (aP w (.bool (decide (l.length<=10)))):=by
 refine ef 14 func91 ntmps91 ?_;refine aK results91 rfl A0 ?_;exact vb (by rw[DZ];simp;omega)
theorem LV(c:Cm)(N:Nat)(w:World)(hN:N<=w.heap.size)(hC:dB N w c)(jr:c.bxs.length<=9223372036854775807)(hwl:c.wes.length<=9223372036854775807):Calls prog 46 #[.agg (cM c)] w (aP w (.bool (tU c))):=by
 refine eN func46 ntmps46 ?_;refine cH 2 ?_;intro b1 w1 hb1 cK gS fX jK;refine B 10 ?_;refine CJ.lp (α:=Nat) [1] (λj=>[(3,ab (j:Int))]) (λj=>[]) (λj=>j<=c.bxs.length/\(c.bxs.take j).all (λx:Bx=>decide (x.w.body.length<=200))=true) (λj=>c.bxs.length-j) 0 ⟨cY _,rfl⟩ ?_;rintro j ⟨hj,yl⟩;refine aG 10 ?_ ?_
 ·intro av;refine B 5 ?_;obtain⟨b0,o0,cs0,t0,fC,eZ,hb0,bW,aS⟩:=hC.bxs.get aa;obtain⟨y,hy⟩:=ng c.bxs j aa;refine B 2 ?_;refine rq (.slice (some ⟨b0,o0,none⟩) c.bxs.length c.bc) (ar isAgg56 rfl A0 hb1 cK trivial rfl) (congrArg (λq=>Value.slice q c.bxs.length c.bc) eZ) ?_;refine B 4 ?_;refine rv rfl rfl rfl (ar (v:=.slice y.w.ba y.w.body.length y.w.bc) isAgg106 rfl A1 bW zI trivial (by have:=vh aS hy rfl 3 zA;simpa[tN]using this)) ?_;refine aG 4 ?_ ?_
  ·intro aR;refine B 11 ?_;exact WG
  intro aR;refine B 8 ?_;refine ag (j+1) ⟨by omega,nmg yl hy (decide_eq_true aa)⟩
 intro av;refine B 7 ?_;have qQ:=noh yl aa;refine B 5 ?_;refine CJ.lp (α:=Nat) [1] (λj=>[(4,ab (j:Int))]) (λj=>[]) (λj=>j<=c.wes.length/\(c.wes.take j).all (λx:We=>decide (x.w.body.length<=200))=true) (λj=>c.wes.length-j) 0 ⟨cY _,rfl⟩ ?_;rintro j ⟨hj,hwx⟩;refine aG 10 ?_ ?_
 ·intro dm;refine B 5 ?_;obtain⟨b0,o0,cs0,t0,fC,eZ,hb0,bW,aS⟩:=hC.wes.get aa;obtain⟨y,hy⟩:=ng c.wes j aa;refine B 2 ?_;refine rq (.slice (some ⟨b0,o0,none⟩) c.wes.length c.wc) (ar isAgg57 rfl A0 hb1 cK trivial rfl) (congrArg (λq=>Value.slice q c.wes.length c.wc) eZ) ?_;refine B 4 ?_;refine rv rfl rfl rfl (ar (v:=.slice y.w.ba y.w.body.length y.w.bc) isAgg106 rfl A1 bW zI trivial (by have:=vh aS hy rfl 2 zA;simpa[vj]using this)) ?_;refine aG 4 ?_ ?_
  ·intro je;refine B 11 ?_;exact WG
  intro je;refine B 8 ?_;refine ag (j+1) ⟨by omega,nmg hwx hy (decide_eq_true aa)⟩
 intro dm;refine B 6 ?_;have haw:=noh hwx aa;refine B 3 ?_;refine call call91 rfl rfl rfl (λW hS=>nQj c.chs c.ca c.cc W) ?_;refine B 1 ?_;refine ni (t:=40) rfl (λib=>?_) (λib=>?_)
 ·replace ib:=ya ib;refine B 6 ?_;refine ni (t:=46) rfl (λkX=>?_) (λkX=>?_)
  ·replace kX:=ya kX;refine B 6 ?_;refine ni (t:=52) rfl (λjW=>?_) (λjW=>?_)
   ·replace jW:=ya jW;refine B 9 ?_;exact WG
   replace jW:=ya jW;refine B 9 ?_;exact WG
  replace kX:=ya kX;refine B 15 ?_;exact WG
 replace ib:=ya ib;refine B 21 ?_;exact WG
def Cu (cs:List Cm):Bool:=decide (cs.length<=7)&&cs.all tU
structure Gn (c:Cm):Prop where
 b:c.bxs.length<=9223372036854775807
 w:c.wes.length<=9223372036854775807
theorem LW(cs:List Cm)(hlm:∀c∈cs,Gn c)(N:Nat)(la:Option Addr)(lc:Nat)(w:World)(hN:N<=w.heap.size)(aH:ai cM 73 N w la cs)(hC:∀c∈cs,dB N w c):Calls prog 25 #[.slice la cs.length lc] w (aP w (.bool (Cu cs))):=by
 refine eN func25 ntmps25 ?_;refine aG 13 ?_ ?_
 ·intro av;refine B 7 ?_;exact zVg
 intro av;refine B 9 ?_;refine CJ.lp (α:=Nat) [0] (λj=>[(3,ab (j:Int))]) (λj=>[]) (λj=>j<=cs.length/\(cs.take j).all tU=true) (λj=>cs.length-j) 0 ⟨cY _,rfl⟩ ?_;rintro j ⟨hj,wo⟩;refine aG 9 ?_ ?_
 ·intro aR;refine B 5 ?_;obtain⟨bl,ol,csl,tl,frl,rfl,jr,tS,mI⟩:=aH.get aa;obtain⟨c,hc⟩:=ng cs j aa;have Dl:=cA hc;refine aE 4 (.agg (cM c)) ?_;refine call call46 rfl rfl rfl (λW hS=>LV c N W cJ ((hC c Dl).up (aj _) hS.sm) (hlm c Dl).b (hlm c Dl).w) ?_;refine aG 3 ?_ ?_
  ·intro dm;refine B 11 ?_;exact zVg
  intro dm;refine B 8 ?_;refine ag (j+1) ⟨by omega,nmg wo hc (by simpa using ‹_›)⟩
 intro aR;refine B 6 ?_;have cF:=noh wo aa;refine B 5 ?_;exact zVg

def SD:List TK:=mF 32 [.i]
theorem eqA33:u3 prog 2 33 SD:=u3.array underlying33 sizeOf5 rfl ((mP.int underlying5 isAgg5).up zA:mP prog 1 5 [.i])
theorem aan:prog.eqGuardType prog.depth 33=false:=by kernel_rfl
def aao:List TK:=[.i]++([.i]++(SD++([.i]++([]))))
theorem Gq:u3 prog 3 35 aao:=u3.struct underlying35 zO (pP.c rfl zA ((mP.int underlying3 isAgg3).up zA:mP prog 2 3 [.i]) (pP.c rfl zA ((mP.int underlying3 isAgg3).up zA:mP prog 2 3 [.i]) (pP.c rfl zA ((mP.agg isAgg33 sizeOf33 rfl eqA33).up zA:mP prog 2 33 SD) (pP.c rfl zA ((mP.int underlying3 isAgg3).up zA:mP prog 2 3 [.i]) (pP.n)))))
theorem Jz:prog.eqGuardType prog.depth 35=false:=by kernel_rfl
def fw (x:Dk) (i:Nat):Int:=x.1.getD i 0
theorem Dp(x:Dk):dk (fw x)=x:=by
 obtain⟨l,h⟩:=x
 match l,h with
 | [x0,x1,x2,x3,x4,x5,x6,x7,x8,x9,Dq,Gs,rm,s9,uL,x15,ym,yn,x18,x19,x20,x21,x22,x23,x24,x25,x26,x27,x28,x29,x30,x31],_=>rfl
structure Se where
 kind:Int
 pub:Int
 com:Dk
 lev:Int
instance:DecidableEq Se:=λa b=>decidable_of_iff (a.kind=b.kind/\a.pub=b.pub/\a.com=b.com/\a.lev=b.lev) (by cases a;cases b;simp)
def seA (s:Se):Array Value:=(ab s.kind::ab s.pub::lJ (fw s.com) [ab s.lev]).toArray
def er (s:Se):List Value:=(ab s.kind::ab s.pub::lJ (fw s.com) [ab s.lev])
def cB (s:Se):Value:=.agg (seA s)
theorem n1m(s:Se):(seA s).toList=[ab s.kind,ab s.pub]++(s.com.1.map (Value.int .u8)++[ab s.lev]):=by
 obtain⟨k,p,c,l⟩:=s;obtain⟨f,rfl⟩:∃f,dk f=c:=⟨_,Dp c⟩;rfl
theorem nz(s:Se):(er s).length=35:=rfl
theorem Pe(s:Se):∀u∈er s,u.oneCell'=true:=LC rfl
theorem Gt(a b:Se):kM aao (seA a).toList (seA b).toList=true:=rfl
theorem Gu(a b:Se):oT (seA a).toList (seA b).toList=decide (a=b):=by
 rw[n1m,n1m,nDd (show([ab a.kind,ab a.pub]:List Value).length=([ab b.kind,ab b.pub]:List Value).length from rfl),nDd (by simp[a.com.2,b.com.2]),WB _ _ (by rw[a.com.2,b.com.2])];have e:decide (a=b)=(decide (a.kind=b.kind)&&decide (a.pub=b.pub)&&(decide (a.com.1=b.com.1)&&decide (a.lev=b.lev))):=by
  rw[DZ];cases a;cases b
  simp[Subtype.ext_iff,and_assoc]
 all_goals grind [oT,QV]
theorem LX:xh prog 35 cB where
 und:=⟨_,underlying35,λk v=>by cases v<;>rfl⟩
 chk:=λb s W=>by
  show(Instr.checkKey b (9997+1+1+1) 35 _).run _ _=_;generalize 9997=n;refine SE (fs:=[_,_,_,_]) underlying35 λf hf=>?_;simp only[cd,dV,or_false]at hf;rcases hf with rfl|rfl|rfl|rfl
  ·exact⟨by decide,_,nWl isAgg3 rfl,nnk underlying3⟩
  ·exact⟨by decide,_,nWl isAgg3 rfl,nnk underlying3⟩
  ·exact⟨by decide,.agg (lJ (fw s.com) []).toArray,(SF isAgg33 sizeOf33).trans (congrArg (λq=>Result.ok (Value.agg q) W) (show cut (seA s) 2 32=_ from rfl)),Gw underlying33 underlying5 sizeOf5 isAgg5 b _ rfl _⟩
  exact⟨by decide,_,nWl isAgg3 rfl,nnk underlying3⟩
 eq:=λa b W=>by
  rw[<-Gu];exact Gq 9997 _ _ W (Gt a b)
 bits:=λs=>by
  show Instr.sameBits (9999+1) (cB s) (cB s)=true;generalize 9999=n;simp only[cB,seA,Instr.sameBits,beq_self_eq_true,Bool.true_and,List.zip_cons_cons,List.all_cons,List.zip_nil_right,List.all_nil,Gx,Bool.and_self]
theorem LY:prog.info? 35=some Tryz.t35:=by kernel_rfl
theorem WH:jN prog 38 35 35:=⟨underlying38,Tryz.t35,.agg (ab 0::ab 0::um [ab 0]).toArray,LY,rfl,rfl,rfl,by decide⟩
def aO (p:Int):Se:=⟨1,p,dk λ_=>0,0⟩
def nj (d:Dk) (l:Int):Se:=⟨2,0,d,l⟩
def aT (d:Dk):Se:=⟨3,0,d,0⟩
theorem nMe(p:Int)(w:World):Calls prog 29 #[ab p] w (aP w (cB (aO p))):=by
 refine eN func29 ntmps29 ?_;refine bH 3 ?_;intro b2 dJ dH;refine B 10 ?_;refine cu (.inl rfl) results29 bB A0 zB ?_;rfl
theorem SG(p:Int)(w:World):Calls prog 18 #[ab p] w (aP w (cB (aO p))):=by
 refine eN func18 ntmps18 ?_;refine bH 3 ?_;intro b2 dJ dH;refine B 10 ?_;refine cu (.inl rfl) results18 bB A0 zB ?_;rfl
theorem npd(f:Nat->Int)(l:Int)(w:World):Calls prog 31 #[.agg (dg f),ab l] w (aP w (cB (nj (dk f) l))):=by
 refine eN func31 ntmps31 ?_;refine cH 2 ?_;intro b2 w2 dw bX fB dJ dH;refine bH 1 ?_;intro b4 iT iU;refine B 11 ?_;refine cu (.inl rfl) results31 bB A1 zB ?_;rfl
theorem nKc(f:Nat->Int)(w:World):Calls prog 97 #[.agg (dg f)] w (aP w (cB (aT (dk f)))):=by
 refine eN func97 ntmps97 ?_;refine cH 2 ?_;intro b1 w1 hb1 cK gS fX jK;refine bH 1 ?_;intro b2 dJ dH;refine B 10 ?_;refine cu (.inl rfl) results97 bB A1 zB ?_;rfl
theorem Pf(f:Nat->Int)(w:World):Calls prog 16 #[.agg (dg f)] w (aP w (cB (aT (dk f)))):=by
 refine eN func16 ntmps16 ?_;refine cH 2 ?_;intro b1 w1 hb1 cK gS fX jK;refine bH 1 ?_;intro b2 dJ dH;refine B 10 ?_;refine cu (.inl rfl) results16 bB A1 zB ?_;rfl
theorem nli(p:Prop)[Decidable p]:(!decide p)=decide ¬p:=by simp
def Gy {α:Type} (xs:List α) (p:α->Bool):Int:=match xs.findIdx? p with|some j=>(j:Int)|none=> -1
theorem SH{α:Type}{p:α->Bool}{xs:List α}{x:α}(h:gC p xs j)(hx:xs[j]? =some x)(hp:p x=true):Gy xs p=(j:Int):=by
 obtain⟨h1,h2⟩:=gW.1 hx;have e:xs.findIdx? p=some j:=aqr.2 ⟨h1,by rw[h2];exact hp,λk hk=>by simp[h k xs[k] hk (lj aa)]⟩;simp[Gy,e]
theorem aas{α:Type}{p:α->Bool}{xs:List α}(h:gC p xs j)(hj:xs.length<=j):Gy xs p= -1:=by
 have e:xs.findIdx? p=none:=List.findIdx?_eq_none_iff.2 λx hx=>by
  obtain⟨i,hi⟩:=jG.1 hx;exact h i x (by have:=nq hi;omega) hi
 simp[Gy,e]
theorem n0l{α:Type}(p:α->Bool)(xs:List α):(Gy xs p= -1/\∀x∈xs,p x=false)\/∃(j:Nat) (x:α),Gy xs p=(j:Int)/\xs[j]? =some x/\p x=true/\gC p xs j:=by
 unfold Gy;cases h:xs.findIdx? p with
 |none=>exact .inl ⟨rfl,λx hx=>by simpa using List.findIdx?_eq_none_iff.1 h x hx⟩
 |some j=>
  obtain⟨h1,h2,h3⟩:=aqr.1 h;refine .inr ⟨j,_,rfl,lj h1,h2,λi x hi hx=>?_⟩;have:=h3 i hi;rw[lj aa]at hx;cases hx
  simpa using this
theorem SI(s:Se)(xs:List Se):decide (0<=Gy xs (λy=>decide (s=y)))=decide (s∈xs):=by grind [n0l]
variable {xs:List Se}
theorem nho{x s:Se}(hx:xs[j]? =some x)(h:x=s):true=decide (s∈xs):=by subst h;simp[cA hx]
theorem SJ{s:Se}(h:gC (λy=>decide (y=s)) xs j)(hj:xs.length<=j):false=decide (s∈xs):=by
 symm;rw[decide_eq_false_iff_not];intro hm;obtain⟨i,hi⟩:=jG.1 hm;have:=h i s (by have:=nq hi;omega) hi;simp at this
def Ai {α:Type} (xs ys:List α) (j:Nat):Prop:=xs.take j=ys.take j
theorem Ai.next{α:Type}{xs ys:List α}{x y:α}(h:Ai xs ys j)(hx:xs[j]? =some x)(hy:ys[j]? =some y)(e:x=y):Ai xs ys (j+1):=by
 unfold Ai at h ⊢;rw[np hx,np hy,h,e]
theorem nGf{α:Type}[DecidableEq α]{xs ys:List α}(h:Ai xs ys j)(hl:xs.length=ys.length)(hj:xs.length<=j):true=decide (xs=ys):=by
 unfold Ai at h;rw[iz hj,iz aa]at h;simp[h]
theorem nHh{α:Type}[DecidableEq α]{xs ys:List α}{x y:α}(hx:xs[j]? =some x)(hy:ys[j]? =some y)(e:x≠y):false=decide (xs=ys):=by grind
theorem nTf{α:Type}[DecidableEq α]{xs ys:List α}(h:xs.length≠ys.length):false=decide (xs=ys):=by grind
section
variable (xs:List Se)(hxl:xs.length<=1000000000)(N:Nat)(a:Option Addr)(cp:Nat)(w:World)(hN:N<=w.heap.size)(aH:ai seA 35 N w a xs)(s:Se)
include hxl cp hN aH s
theorem n3l:Calls prog 27 #[.slice a xs.length cp,cB s] w (aP w (ab (Gy xs (λy=>decide (s=y))))):=by
 refine eN func27 ntmps27 ?_;refine cH 2 ?_;intro b3 w3 dA cX fT eC ff;refine B 12 ?_;refine CJ.lp (α:=Nat) [0,3,7] (λj=>[(8,ab (j:Int))]) (λj=>[]) (λj=>j<=xs.length/\gC (λy=>decide (s=y)) xs j) (λj=>xs.length-j) 0 ⟨cY _,λi x hi=>absurd hi aa⟩ ?_;rintro j ⟨hj,dP⟩;refine aG 6 ?_ ?_
 ·intro av;refine B 11 ?_;obtain⟨bo,oo,cs0,to,fC,rfl,fE,bW,aS⟩:=aH.get aa;obtain⟨x,hx⟩:=ng xs j aa;refine eA 5 (sp:=[_,_,_,_,some (.agg (seA x))]) (k:=?_);refine rq (.bool (decide (s=x))) (gG Gq zA Jz rfl rfl (Gt _ _)) (vb (Gu _ _)) ?_;refine aG 2 ?_ ?_
  ·intro aR;refine B 12 ?_;refine aK results27 rfl A1 ?_;exact congrArg ab ztc
  intro aR;refine B 7 ?_;exact zUh
 intro av;refine B 11 ?_;refine aK results27 rfl A1 ?_;exact congrArg ab ztc
theorem nxn:Calls prog 28 #[.slice a xs.length cp,cB s] w (aP w (.bool (decide (s∈xs)))):=by
 refine eN func28 ntmps28 ?_;refine cH 2 ?_;intro b3 w3 dA cX fT eC ff;refine B 7 ?_;refine CY (f:=27) (cap:=[]) rfl call27 rfl rfl rfl (λW hS=>n3l xs hxl N a cp W cJ (aH.up (aj _) hS.sm) s) ?_;refine B 5 ?_;refine aK results28 rfl A1 ?_;exact vb (SI s xs)
theorem nQc:Calls prog 13 #[.slice a xs.length cp,cB s] w (aP w (.bool (decide (s∈xs)))):=by
 refine eN func13 ntmps13 ?_;refine cH 2 ?_;intro b3 w3 dA cX fT eC ff;refine B 10 ?_;refine CJ.lp (α:=Nat) [0,3] (λj=>[(5,ab (j:Int))]) (λj=>[]) (λj=>j<=xs.length/\gC (λy=>decide (y=s)) xs j) (λj=>xs.length-j) 0 ⟨cY _,λi x hi=>absurd hi aa⟩ ?_;rintro j ⟨hj,dP⟩;refine aG 9 ?_ ?_
 ·intro av;refine B 5 ?_;obtain⟨bo,oo,cs0,to,fC,rfl,fE,bW,aS⟩:=aH.get aa;obtain⟨x,hx⟩:=ng xs j aa;refine eA 5 (sp:=[_,_,_,some (.agg (seA x)),_]) (k:=?_);refine rq (.bool (decide (x=s))) (gG Gq zA Jz rfl rfl (Gt _ _)) (vb (Gu _ _)) ?_;refine aG 2 ?_ ?_
  ·intro aR;exact zNh
  intro aR;refine B 8 ?_;exact zUh
 intro av;exact zNh
end
theorem GA(xs ys:List Se)(hxl:xs.length<=1000000000)(Ko:ys.length<=1000000000)(N:Nat)(a c:Option Addr)(cp cq:Nat)(w:World)(hN:N<=w.heap.size)(aH:ai seA 35 N w a xs)(GB:ai seA 35 N w c ys):Calls prog 19 #[.slice a xs.length cp,.slice c ys.length cq] w (aP w (.bool (decide (xs=ys)))):=by
 refine eN func19 ntmps19 ?_;refine aG 15 ?_ ?_
 ·intro av;refine B 7 ?_;exact zXh
 intro av;refine B 4 ?_;have hlen:xs.length=ys.length:=by omega
 refine B 5 ?_;refine zie ?_;rintro j ⟨hj,dP⟩;refine aG 9 ?_ ?_
 ·intro aR;refine B 5 ?_;obtain⟨bo,oo,cs0,to,fC,rfl,fE,bW,aS⟩:=aH.get aa;obtain⟨x,hx⟩:=ng xs j aa;obtain⟨bp,op,ps0,tp,fp0,rfl,BL,gV,ajB⟩:=GB.get aa;obtain⟨y,hy⟩:=ng ys j aa;refine eA 8 (sp:=[_,_,_,some (.agg (seA x)),_,_,_,some (.agg (seA y))]) (k:=?_);refine rq (.bool (decide (¬x=y))) (dT Gq zA Jz rfl rfl (Gt _ _)) (vb ((congrArg not (Gu _ _)).trans (nli _))) ?_;refine aG 2 ?_ ?_
  ·intro dm;refine B 11 ?_;exact zXh
  exact z3h
 intro aR;refine B 11 ?_;exact zXh
theorem SK(x y:Dk):oT (vA x).toList (vA y).toList=decide (x=y):=by
 have h:=WB x.1 y.1 (by rw[x.2,y.2]);have e:decide (x=y)=decide (x.1=y.1):=by simp only[Subtype.ext_iff]
 rw[e,<-h];rfl
theorem SL(x y:Dk):kM (mF 32 [.i]) (vA x).toList (vA y).toList=true:=n5f 32 x.1 y.1 x.2 y.2
theorem ngp(xs ys:List Dk)(hxl:xs.length<=1000000000)(Ko:ys.length<=1000000000)(N:Nat)(a c:Option Addr)(cp cq:Nat)(w:World)(hN:N<=w.heap.size)(aH:ai vA 32 N w a xs)(GB:ai vA 32 N w c ys):Calls prog 24 #[.slice a xs.length cp,.slice c ys.length cq] w (aP w (.bool (decide (xs=ys)))):=by
 refine eN func24 ntmps24 ?_;refine aG 15 ?_ ?_
 ·intro av;refine B 7 ?_;exact zVh
 intro av;refine B 4 ?_;have hlen:xs.length=ys.length:=by omega
 refine B 5 ?_;refine zie ?_;rintro j ⟨hj,dP⟩;refine aG 9 ?_ ?_
 ·intro aR;refine B 5 ?_;obtain⟨bo,oo,cs0,to,fC,rfl,fE,bW,aS⟩:=aH.get aa;obtain⟨x,hx⟩:=ng xs j aa;obtain⟨bp,op,ps0,tp,fp0,rfl,BL,gV,ajB⟩:=GB.get aa;obtain⟨y,hy⟩:=ng ys j aa;refine eA 8 (sp:=[_,_,_,some (.agg (vA x)),_,_,_,some (.agg (vA y))]) (k:=?_);refine rq (.bool (decide (¬x=y))) (dT eqA33 zA aan rfl rfl (SL _ _)) (vb ((congrArg not (SK _ _)).trans (nli _))) ?_;refine aG 2 ?_ ?_
  ·intro dm;refine B 11 ?_;exact zVh
  exact z3h
 intro aR;refine B 11 ?_;exact zVh
section
variable (p:Se->Bool)(f:Nat)(cap:List Value)(aA:eU prog f)(xs:List Se)(hxl:xs.length<=1000000000)(N:Nat)(a:Option Addr)(cp:Nat)(w:World)(hN:N<=w.heap.size)(aH:ai seA 35 N w a xs)(hp:∀(j:Nat) (x:Se),xs[j]? =some x->∀W,Below w.heap.size w W->Calls prog f (.agg (seA x)::cap).toArray W (aP W (.bool (p x))))
include p f aA hxl cp hN aH hp
theorem nHl:Calls prog 99 #[.slice a xs.length cp,.func (.func f) #[] cap.toArray] w (cZ w (λi:Int=>ab i) (λi _=>fF p xs i)):=by
 refine eN func99 ntmps99 ?_;refine VO ?_;rintro j ⟨hj,dP⟩;refine aG 6 ?_ ?_
 ·intro av;refine B 11 ?_;obtain⟨bo,oo,cs0,to,fC,rfl,fE,bW,aS⟩:=aH.get aa;obtain⟨x,hx⟩:=ng xs j aa;refine aE 5 (.agg (seA x)) ?_;refine VP ?_;refine uh ?_ ?_
  ·intro aR;refine B 12 ?_;refine sQ (j:Int) results99 rfl A0 rfl ?_;exact VQ
  exact VR
 intro av;refine B 11 ?_;refine sQ (-1:Int) results99 rfl A0 rfl ?_;exact VS
theorem ndj:Calls prog 50 #[.slice a xs.length cp,.func (.func f) #[] cap.toArray] w (aP w (.bool (xs.any p))):=by
 refine ef 9 func50 ntmps50 ?_;refine nv (α:=Int) (v:=λi:Int=>ab i) (Φ:=λ_ i _=>fF p xs i) call99 rfl rfl rfl (λW hS=>nHl p f cap aA xs hxl N a cp W cJ (aH.up (aj _) hS.sm) (λj x hx W2 hB=>hp j x hx W2 (((hS.links w A0).below KP).trans (hB.mono (hS.links w A0).size)))) ?_;intro Wi i wi Fa Fb hi;refine B 5 ?_;refine aK results50 rfl A1 ?_;exact vb hi.any
end
def xn:List Int->Int
 | []=>0
 |x::l=>if x=0 then xn l else x
theorem GC:∀{xs:List Int} {j:Nat} {x:Int},(∀(i:Nat) (y:Int),i<j->xs[i]? =some y->y=0)->xs[j]? =some x->x≠0->x=xn xs
 | [],_,_,_,h,_=>by simp at h
 |y::xs,0,x,_,h,hn=>by
  simp only[J8,wK]at h;subst h;simp[xn,hn]
 |y::xs,j+1,x,h0,h,hn=>by
  have e:=h0 0 y aa rfl;unfold xn;rw[if_pos e];exact GC (j:=j) (λi z hi hz=>h0 (i+1) z aa (by simpa using hz)) BK hn
theorem nBo:∀{xs:List Int},(∀(i:Nat) (y:Int),xs[i]? =some y->y=0)->0=xn xs
 | [],_=>rfl
 |y::xs,h=>by
  unfold xn;rw[if_pos (h 0 y rfl)];exact nBo λi z hz=>h (i+1) z (by simpa using hz)
theorem ajD(xs:List Int)(b cap t:Nat)(cs:Array Value)(fr:Nat×Nat)(hl:xs.length<=1000)(w:World)(hb:w.heap[b]? =some (.cells cs t fr))(bW:∀(i:Nat) (x:Int),xs[i]? =some x->cs[i]? =some (ab x)):Calls prog 102 #[.slice (ao b) xs.length cap] w λe w'=>e= .returned (ab (xn xs))/\w'=w:=by
 refine F5 (vs:=[_]) func102 rfl ntmps102 rfl ?_;have hT:∀W',W'=w->St Gh.no [w] [] W':=λW' e=>by
  rw[e];exact O7 (by intro v hv;simp only[cd,dV,or_false]at hv;subst hv;exact Below.refl _ _)
 refine AY ?_;refine Su ?_;refine AY ?_;refine Su ?_;refine CX.seq ?_;refine AY ?_;refine O8 ?_;refine qn hT rfl rfl rfl (mE underlying55 rfl) ?_;refine O8 ?_;refine F7 ?_;refine CX.block ?_;refine CX.loop (α:=Nat) (λj=>[(3,ab 0),(6,.slice (ao b) xs.length cap),(7,ab (xs.length:Int)),(8,ab (j:Int))]) (λ_=>(· =w)) (λj=>j<=xs.length/\∀(i:Nat) (y:Int),i<j->xs[i]? =some y->y=0) (λj=>xs.length-j) 0 ⟨cY _,λi y h=>absurd h aa⟩ zR (λW e=>e) ?_;rintro j ⟨hj,hz⟩;refine AY ?_;by_cases av:j<xs.length
 ·obtain⟨x,hx⟩:=ng xs j av;have hv:=bW j x hx;refine zff ?_;refine qn hT rfl rfl rfl (bK underlying55 sizeOf3 rfl rfl aa aa) ?_;refine qn hT rfl rfl rfl (ar (v:=ab x) isAgg3 rfl A0 hb zI trivial (by simpa using hv)) ?_;refine Su ?_;refine AY ?_;refine O8 ?_;refine O8 ?_;by_cases aR:x=0
  ·refine qn hT rfl rfl rfl (RV.re (v':=bG) (dz rfl rfl) (vb (by simp[aR]))) ?_;refine zof ?_;refine qn hT rfl rfl rfl (jx rfl rfl aa aa) ?_;refine O8 ?_;refine OX.done ?_;exact PX.again (j+1) ⟨by omega,λi y hi hy=>by by_cases e:i=j;(subst e;rw[hx]at hy;cases hy;exact aR);exact hz i y aa hy⟩ aa zR (λW' e=>e)
  refine qn hT rfl rfl rfl (RV.re (v':=bZ) (dz rfl rfl) (vb (by simp[aR]))) ?_;refine F7 ?_;refine CX.condT rfl ?_;refine AY ?_;refine O8 ?_;refine Su ?_;refine zBe ?_;exact AZ (.inl rfl) results102 rfl (λW' e=>⟨congrArg (λn=>Ending.returned (ab n)) (GC hz hx aR),e⟩)
 refine zGf ?_;refine O8 ?_;refine Su ?_;refine CX.ret ?_;exact AZ (.inl rfl) results102 rfl (λW' e=>⟨congrArg (λn=>Ending.returned (ab n)) (nBo (λi y hy=>hz i y (by have:=nq hy;omega) hy)),e⟩)
def l9 (x y:Se):Int:=xn [du x.kind y.kind,du x.pub y.pub,Go.Lib.compareBytes (cI (fw x.com)) (cI (fw y.com)),du x.lev y.lev]
theorem CO.or{α:Type}{f:α->α->Int}{g:α->α->List Int}(hf:CO f)(hg:CO λx y=>xn (g x y)):CO λx y=>xn (f x y::g x y):=by
 have:=hf.lex hg;exact this
theorem CO.ord:CO l9:=by
 have h4:CO λx y:Se=>xn [du x.lev y.lev]:=by
  have e:(λx y:Se=>xn [du x.lev y.lev])=λx y:Se=>du x.lev y.lev:=by funext x y;simp only[xn];split<;>simp_all
  rw[e];exact CO.int.key (λx:Se=>x.lev)
 exact(CO.int.key (λx:Se=>x.kind)).or ((CO.int.key (λx:Se=>x.pub)).or ((CO.bytes.key (λx:Se=>cI (fw x.com))).or h4))
theorem Pg{X:Array Value}(hb:W.heap[b]? =some (.cells X t fr))(h:X[k]? =some v):W.cell? ⟨b,k,none⟩=some v:=by
 simp only[World.cell?,hb];exact h
theorem aat{w':World}(h:Below w.heap.size w w'):∃q Aa,w'=Go.Sort.grow (w.drewN q) Aa:=by
 refine⟨w'.drawn-w.drawn,w'.heap.extract w.heap.size w'.heap.size,?_⟩;have e1:w.heap++w'.heap.extract w.heap.size w'.heap.size=w'.heap:=by
  apply Array.ext_getElem?;intro k;by_cases hk:k<w.heap.size
  ·rw[WI hk];exact(h.block k hk).symm
  rw[Array.getElem?_append_right aa,Array.getElem?_extract];have:=h.size;split
  ·rw[show w.heap.size+(k-w.heap.size)=k by omega]
  rw[Array.getElem?_eq_none aa]
 have e2:w.drawn+(w'.drawn-w.drawn)=w'.drawn:=by have:=h.drawn;omega
 have h1:=h.os;have h2:=h.tape;have h3:=h.output
 obtain⟨hp,tp,dn,os,op⟩:=w';obtain⟨Wt,tp0,dn0,os0,op0⟩:=w;simp only[Go.Sort.grow,World.drewN]at *;all_goals grind
theorem npn(x y:Se){b1 b2 t1 t2:Nat}{fr1 xQ:Nat×Nat}(h1:W.heap[b1]? =some (.cells (seA x) t1 fr1))(h2:W.heap[b2]? =some (.cells (seA y) t2 xQ)):Calls prog 104 #[.slice (some ⟨b1,2,none⟩) 32 32,.slice (some ⟨b2,2,none⟩) 32 32] W (aP W (ab (Go.Lib.compareBytes (cI (fw x.com)) (cI (fw y.com))))):=by
 have key:∀(z:Se) (i:Nat) (h:i<(dk (fw z.com)).1.length),(seA z)[2+i]? =some (.int .u8 (dk (fw z.com)).1[i]):=by
  intro z i h;have h2:i<32:=by rw[(dk (fw z.com)).2]at h;exact h
  have e1:((dk (fw z.com)).1.map (Value.int .u8))[i]? =some (.int .u8 ((dk (fw z.com)).1[i]'h)):=by rw[mY,lj h];rfl
  have e2:(dg (fw z.com))[i]? =((dk (fw z.com)).1.map (Value.int .u8))[i]? :=by rw[<-nOn,Es];rfl
  exact(vD (k:=2) (n:=32) (r:=dg (fw z.com)) rfl i h2).trans (e2.trans e1)
 have:=nBf (W:=W) (b1:=b1) (o1:=2) (c1:=32) (b2:=b2) (o2:=2) (c2:=32) (xs:=(dk (fw x.com)).1) (ys:=(dk (fw y.com)).1) (λi h=>Pg h1 (key x i h)) (λi h=>Pg h2 (key y i h));rw[(dk (fw x.com)).2,(dk (fw y.com)).2,nJi,nJi]at this;refine this.mono ?_;exact zdi
theorem ajE(a b c d:Int){n:Nat}(h:W.heap[n]? =some (.cells #[ab a,ab b,ab c,ab d] t fr)):Calls prog 102 #[.slice (ao n) 4 4] W (aP W (ab (xn [a,b,c,d]))):=by
 refine(ajD [a,b,c,d] n 4 t _ fr zJ W h (by
  intro i x hi
  match i,hi with
  |0,hi=>exact congrArg (λq=>some (ab q)) (Option.some.inj hi)
  |1,hi=>exact congrArg (λq=>some (ab q)) (Option.some.inj hi)
  |2,hi=>exact congrArg (λq=>some (ab q)) (Option.some.inj hi)
  |3,hi=>exact congrArg (λq=>some (ab q)) (Option.some.inj hi))).mono ?_
 exact zdi
theorem GD(x y:Se)(w:World):Calls prog 54 #[cB x,cB y] w (aP w (ab (l9 x y))):=by
 refine eN func54 ntmps54 ?_;refine cH 2 ?_;intro b2 w2 dw bX fB dJ dH;refine yX ?_;intro b3 w3 dA cX fT eC ff;refine B 4 ?_;refine eA 19 (pb:=by exact zU 4 (k:=by exact aJ (nf call103 rfl rfl (λW hS _=>nth _ _ W) (λ_=>rfl)) (zU 4 (k:=by exact aJ (nf call103 rfl rfl (λW hS _=>nth _ _ W) (λ_=>rfl)) (zU 1 (k:=by exact aJ (X.v (RV.re (v':=.slice (some ⟨b2,2,none⟩) 32 32) (fY (h:=32) underlying33 sizeOf5 rfl rfl aa) rfl)) (zU 1 (k:=by exact aJ (X.v (RV.re (v':=.slice (some ⟨b3,2,none⟩) 32 32) (fY (h:=32) underlying33 sizeOf5 rfl rfl aa) rfl)) (aJ (nf call104 rfl rfl (λW hS _=>npn x y (hS.old A1 dw bX trivial) (hS.old A0 dA cX trivial)) (λ_=>rfl)) zT))))))))) (k:=?_);refine call call103 rfl rfl rfl (λW hS=>nth _ _ W) ?_;refine EL ?_;refine yW ?_;intro VG ajF ajG;refine call (v:=ab (l9 x y)) call102 rfl rfl rfl (λW hS=>ajE _ _ _ _ (hS.own _ A0)) ?_;refine B 4 ?_;refine cu (.inl rfl) results54 bB A2 zB ?_;rfl
theorem aau(x y:Se)(W:World):Calls prog 54 #[cB x,cB y] W λe w'=>e= .returned (ab (l9 x y))/\∃q Aa,w'=Go.Sort.grow (W.drewN q) Aa:=(GD x y W).mono λe w' h=>⟨h.1,aat h.2⟩
instance:Inhabited Se:=⟨aO 0⟩
abbrev gO (xs:List Se):List Se:=gU l9 xs
theorem LZ(xs:List Se):(gO xs).length=xs.length:=O1 CO.ord.swo xs
theorem nki:gO []=[]:=my (LZ [])
theorem nsi(xs:List Se)(s:Se):s∈gO xs↔s∈xs:=(Wu CO.ord.swo xs).mem_iff
theorem Pj(hl:xs.length<=1000000){cap:Nat}(bP:(Rw.row b cap sp).Fit 35 xs)(h:W.heap[b]? =some (bj er 35 xs sp)):Calls prog 59 #[.slice (ao b) xs.length cap,.func (.func 54) #[] #[]] W (λe w'=>∃bY,e= .returned ((λ_=>.tuple #[]) (Rw.row b cap bY))/\aQ (· =b) W w'/\(Rw.row b cap bY).Fit 35 (gO xs)/\w'.heap[b]? =some (bj er 35 (gO xs) bY)):=by
 have hc:=Go.Proofs.AnyQ.slices_SortFunc_eq Go.Proofs.Tryz.laySS 35 isAgg35 sizeOf35 er nz Pe l9 CO.ord.swo 54 #[] b 0 cap xs.toArray W (Go.Proofs.enters_of func54 zO rfl) (λ_ _ _ _ x y=>aau x y _) (nlj nz h) (bA.1 h).1 mV;change Calls prog 59 _ _ _ at hc;refine hc.mono ?_;rintro e w' ⟨rfl,n,os,rfl⟩;have hp:=ZJ (n:=n) (os:=os) nz h (ys:=gO xs) (LZ xs);exact⟨sp,rfl,hp.1,by simp only[Rw.Fit,LZ];exact bP,hp.2⟩
def mJ (xs:List Se):Nat->List Se
 |0=>[]
 |j+1=>match xs[j]? with
  |none=>mJ xs j
  |some x=>if 0<j/\xs[j-1]? =some x then mJ xs j else mJ xs j++[x]
def GF (xs:List Se):List Se:=mJ xs xs.length
theorem nXn{x y:Se}(hj:0<j)(hx:xs[j]? =some x)(hy:xs[j-1]? =some y)(e:x=y):mJ xs (j+1)=mJ xs j:=by grind [mJ]
theorem GG{x y:Se}(hx:xs[j]? =some x)(hy:xs[j-1]? =some y)(e:x≠y):mJ xs (j+1)=mJ xs j++[x]:=by grind [mJ]
theorem L1:mJ xs 1=xs.take 1:=by
 cases xs with
 |nil=>rfl
 |cons x l=>rfl
theorem nzj(xs:List Se):∀(j:Nat) (s:Se),s∈mJ xs j↔s∈xs.take j
 |0,s=>by simp[mJ]
 |j+1,s=>by
  have ih:=nzj xs j;cases hx:xs[j]? with
  |none=>
   have e1:mJ xs (j+1)=mJ xs j:=by conv=>lhs;unfold mJ;rw[hx]
   rw[e1,ih,iz (by have:=List.getElem?_eq_none_iff.1 hx;omega),iz (by have:=List.getElem?_eq_none_iff.1 hx;omega)]
  |some x=>
   rw[np hx,aY,gh];by_cases h:0<j/\xs[j-1]? =some x
   ·have e1:mJ xs (j+1)=mJ xs j:=by conv=>lhs;unfold mJ;rw[hx];simp only;rw[if_pos h]
    rw[e1,ih];refine⟨.inl,λh1=>h1.elim id λh1=>?_⟩;subst h1;have:(xs.take j)[j-1]? =some s:=by rw[RX aa];exact h.2
    exact cA this
   have e1:mJ xs (j+1)=mJ xs j++[x]:=by conv=>lhs;unfold mJ;rw[hx];simp only;rw[if_neg h]
   rw[e1,aY,gh,ih]
theorem L2(xs:List Se)(s:Se):s∈GF xs↔s∈xs:=by unfold GF;rw[nzj,uw]
theorem L3(xs:List Se):∀j,(mJ xs j).length<=j:=
 by intro x;induction x<;>(intros;grind [mJ])
theorem L4(xs:List Se):(GF xs).length<=xs.length:=L3 xs _
def Aj (xs:List Se) (j:Nat):Prop:=mJ xs j=xs.take j
theorem Aj.next{x y:Se}(h:Aj xs j)(hx:xs[j]? =some x)(hy:xs[j-1]? =some y)(e:¬x=y):Aj xs (j+1):=by
 unfold Aj at h ⊢;rw[GG hx hy e,h,np hx]
theorem Aj.end_(h:Aj xs j)(hj:j=xs.length):GF xs=xs:=by
 subst hj;unfold GF;rw[show mJ xs xs.length=xs.take xs.length from h,uw]
theorem nZg(h:xs.length<2):GF xs=xs:=by
 match xs,h with
 | [],_=>rfl
 | [x],_=>rfl
 |_::_::_,h=>simp at h;omega
def eF (xs:List Se):List Se:=GF (gO xs)
theorem Dt(xs:List Se)(s:Se):s∈eF xs↔s∈xs:=(L2 _ _).trans (nsi _ _)
theorem noi(xs:List Se):(eF xs).length<=xs.length:=by have:=L4 (gO xs);rw[LZ]at this;exact this
theorem nei:eF []=[]:=by unfold eF;rw[nki];rfl
theorem nZf{α:Type}{enc:α->List Value}{m o:Nat}{cur:List α}{x:α}(hm:∀x,(enc x).length=m)(hx:cur[o+k]? =some x){i:Int}(hi:i=(k:Int)):cut (iB enc cur++sp).toArray (o*m+i.toNat*m) m=(enc x).toArray:=by
 subst hi;have:=R7 (enc:=enc) (sp:=sp) hm hx;rw[xU,mr,qh]at this;rw[xU];exact this
theorem nJh{α:Type}{enc:α->List Value}{m o:Nat}{cur:List α}(hm:∀x,(enc x).length=m)(hj:o+k<cur.length){i:Int}(hi:i=(k:Int)):o*m+i.toNat*m+m<=(iB enc cur++sp).toArray.size:=by
 subst hi;have:=R8 (enc:=enc) (sp:=sp) hm hj;rw[xU,mr,qh]at this;rw[xU];exact this
theorem nzm(n c:Nat)(w:World):Calls prog 58 #[.slice none n c] w (aD w er 35 35 ([]:List Se) id):=by
 refine ef 9 func58 ntmps58 ?_;refine rr bZ (vt underlying38 rfl rfl) ?_;refine B 10 ?_;exact nQ (H0:=[]) (H1:=[]) (r:=.nil) (.inl rfl) results58 bB A0 trivial rfl rfl True.intro rfl
theorem njl(xs:List Se)(hxl:xs.length<=100000)(N:Nat)(q:Addr)(cp:Nat)(w:World)(hN:N<=w.heap.size)(aH:ai seA 35 N w (some q) xs):Calls prog 58 #[.slice (some q) xs.length cp] w (aD w er 35 35 xs id):=by
 refine ef 9 func58 ntmps58 ?_;refine rr bG (vw underlying38 rfl rfl) ?_;refine B 7 ?_;refine L5 ?_;refine yW ?_;intro b5 rF rG;refine B 1 ?_;refine apR (xs:=([]:List Se)) (zs:=xs) (enc:=er) (m:=35) (H0:=[]) (H1:=[]) (sp:=[]) (by rfl) WH nz rfl rfl rfl rfl (cD.sl nz Pe underlying38 A0 aH (λb hb=>⟨λh=>h,by simp only[bM,and_true];omega⟩)) ⟨aj _,rfl⟩ (.inr zC) mV ?_;intro b7 Dc ZD uq qj;have Fw:w.heap.size<=b7:=by rcases uq with h|h;(omega);exact h.not A0
 rw[eX]at qj ⊢;refine B 4 ?_;exact nQ (H0:=[]) (H1:=[]) (r:=.row b7 Dc ZD) (.inl rfl) results58 bB A0 (by simp only[eX,Over,and_true];omega) rfl qj Fw (by rfl)
theorem GH(xs:List Se)(hxl:xs.length<=100000)(N:Nat)(a:Option Addr)(cp:Nat)(w:World)(hN:N<=w.heap.size)(aH:ai seA 35 N w a xs):Calls prog 58 #[.slice a xs.length cp] w (aD w er 35 35 xs id):=by
 cases a with
 |none=>
  have h0:xs=[]:=by rcases aH with h|⟨b,off,cs,t,fr,h,_⟩;(exact h);cases h
  subst h0;exact nzm 0 cp w
 |some q=>exact njl xs hxl N q cp w hN aH
theorem n4k(w:World):Calls prog 171 #[ak,ab 0,ab 0,.func (.func 54) #[] #[]] w (aP w (.tuple #[])):=by
 refine ef 8 func171 ntmps171 ?_;refine zFd ?_;rintro j _;refine B 5 ?_;refine wX ?_;exact cu (.inr rfl) results171 bB A0 trivial rfl
theorem n2o(l:Int)(w:World):Calls prog 105 #[ak,ab 0,ab 0,ab l,.func (.func 54) #[] #[]] w (aP w (.tuple #[])):=by
 refine ef 11 func105 ntmps105 ?_;refine zGd ?_;rintro j _;refine QE ?_;refine B 9 ?_;refine call call171 rfl rfl rfl (λW hS=>n4k W) ?_;refine B 7 ?_;exact cu (.inl rfl) results105 bB A0 trivial rfl
theorem n3h(w:World):Calls prog 59 #[ak,.func (.func 54) #[] #[]] w (aP w (.tuple #[])):=by
 refine eN func59 ntmps59 ?_;refine z1f ?_;refine call call105 rfl rfl rfl (λW hS=>n2o _ W) ?_;refine B 1 ?_;exact cu (.inr rfl) results59 bB A0 trivial rfl
theorem nlp(xs:List Se)(hxl:xs.length<=100000)(b cp:Nat)(sp:List Value)(w:World)(hb:w.heap[b]? =some (bj er 35 xs sp))(bP:(Rw.row b cp sp).Fit 35 xs):Calls prog 60 #[.slice (ao b) xs.length cp] w (λe w'=>∃bY,e= .returned ((λr=>r.val (GF xs).length) (Rw.row b cp bY))/\aQ (· =b) w w'/\(Rw.row b cp bY).Fit 35 (GF xs)/\w'.heap[b]? =some (bj er 35 (GF xs) bY)):=by
 have iI:=bP.1;have eM:=bP.2;have jr:=(bA.1 hb).1;refine nB (Gh.lent (· =b)) [(b,bj er 35 xs sp)] (vs:=[_]) func60 rfl ntmps60 rfl (Ef hb) ?_;refine aG 13 ?_ ?_
 ·intro av;refine B 8 ?_;exact bQ (.inl rfl) results60 bB λW hS=>⟨sp,by rw[nZg aa];rfl,hS.baseX A0 OH,by rw[nZg aa];exact bP,by rw[nZg aa];exact hS.own _ A0⟩
 intro av;refine B 9 ?_;refine CJ.lp (α:=Nat) [0] (λj=>[(3,ab (j:Int))]) (λj=>[(b,bj er 35 xs sp)]) (λj=>1<=j/\j<=xs.length/\Aj xs j) (λj=>xs.length-j) 1 ⟨aj _,by omega,L1⟩ ?_;rintro j ⟨Vi,hj,sV⟩;refine aG 9 ?_ ?_
 ·intro aR;refine B 5 ?_;obtain⟨x,hx⟩:=ng xs j aa;obtain⟨y,hy⟩:=ng xs (j-1) aa;refine eA 9 (pb:=by exact zU 3 (k:=by exact aJ (X.v (RV.re (v':=.agg (seA x)) (fH (i:=0) rfl isAgg35 sizeOf35 rfl (R8 nz aa)) (va (R7 (sp:=sp) nz hx)))) (zU 4 (k:=by exact aJ (X.v (RV.re (v':=.agg (seA y)) (fH (i:=0) rfl isAgg35 sizeOf35 rfl (R8 nz aa)) (va (R7 (sp:=sp) nz hy)))) (rf rfl))))) (sp:=[_,_,_,_,_,_,some (ab ((j-1:Nat):Int)),_,_]) (k:=?_);refine rq (.bool (decide (x=y))) (gG Gq zA Jz rfl rfl (Gt _ _)) (vb (Gu _ _)) ?_;refine aG 2 ?_ ?_
  ·intro dm;refine B 4 ?_;refine rq (.slice (some ⟨b,j*35,none⟩) (xs.length-j) (cp-j)) (gu (l:=j) (h:=xs.length) underlying38 sizeOf35 rfl ⟨_,_,rfl,rfl⟩ rfl aa aa rfl) (by rw[if_neg aa,mr]) ?_;refine B 10 ?_;refine CJ.lp (α:=(Nat×List Se)×Nat) [0,4] (λp9=>[(3,ab (p9.1.1:Int)),(5,ab (p9.2:Int))]) (λp9=>[(b,bj er 35 p9.1.2 sp)]) (λp9=>1<=p9.2/\p9.1.1<=j+p9.2-1/\p9.2<=xs.length-j/\p9.1.2.length=xs.length/\p9.1.2.take p9.1.1=mJ xs (j+p9.2)/\p9.1.2.drop (j+p9.2-1)=xs.drop (j+p9.2-1)) (λp9=>xs.length-p9.2) ((j,xs),1) ⟨aj _,by dsimp only;omega,by dsimp only;omega,rfl,by dsimp only;rw[nXn aa hx hy cV];exact sV.symm,rfl⟩ ?_;rintro⟨⟨i2,cur⟩,k2⟩ ⟨JT,hik,WJ,mA,xa,zx⟩;dsimp only at JT hik WJ mA xa zx ⊢;refine aG 9 ?_ ?_
   ·intro je;refine B 5 ?_;obtain⟨x2,Ju⟩:=ng xs (j+k2) aa;obtain⟨y2,hy2⟩:=ng xs (j+k2-1) aa;obtain⟨hcy,si⟩:=ZF zx hy2;rw[show j+k2-1+1=j+k2 by omega]at si;obtain⟨wo,apw⟩:=ZF si Ju;have ajO:cur[j+(k2-1)]? =some y2:=by rw[show j+(k2-1)=j+k2-1 by omega];exact hcy
    refine eA 9 (pb:=by exact zU 3 (k:=by exact aJ (X.v (RV.re (v':=.agg (seA x2)) (fH (i:=0) rfl isAgg35 sizeOf35 rfl (nJh (o:=j) (k:=k2) nz aa rfl)) (va (nZf (sp:=sp) (o:=j) (k:=k2) nz wo rfl)))) (zU 4 (k:=by exact aJ (X.v (RV.re (v':=.agg (seA y2)) (fH (i:=0) rfl isAgg35 sizeOf35 rfl (nJh (o:=j) (k:=(k2-1)) nz aa rfl)) (va (nZf (sp:=sp) (o:=j) (k:=(k2-1)) nz ajO rfl)))) (rf rfl))))) (sp:=[_,_,_,_,_,_,some (ab ((k2-1:Nat):Int)),_,_]) (k:=?_);refine rq (.bool (decide (¬x2=y2))) (dT Gq zA Jz rfl rfl (Gt _ _)) (vb ((congrArg not (Gu _ _)).trans (nli _))) ?_;refine aG 2 ?_ ?_
    ·intro ib;refine B 7 ?_;refine rq (.agg (seA x2)) (fH (i:=0) rfl isAgg35 sizeOf35 rfl (nJh (o:=j) (k:=k2) nz aa rfl)) (va (nZf (sp:=sp) (o:=j) (k:=k2) nz wo rfl)) ?_;refine B 1 ?_;refine Lr (enc:=er) (m:=35) (i:=0) (j:=i2) (z:=x2) rfl nz Pe sizeOf35 rfl rfl rfl zJ aa rfl rfl ?_;refine B 14 ?_;refine ag ((i2+1,cur.set i2 x2),k2+1) ⟨by dsimp only;omega,by dsimp only;omega,by dsimp only;omega,by dsimp only;rw[List.length_set];exact mA,by dsimp only;rw[n8c aa,xa,<-Nat.add_assoc,GG Ju hy2 cV],by dsimp only;rw[show j+(k2+1)-1=j+k2 by omega,n3d aa];exact si⟩
    intro ib;refine B 8 ?_;refine ag ((i2,cur),k2+1) ⟨by dsimp only;omega,by dsimp only;omega,by dsimp only;omega,mA,by dsimp only;rw[xa,<-Nat.add_assoc,nXn aa Ju hy2 (Decidable.not_not.1 cV)],by dsimp only;rw[show j+(k2+1)-1=j+k2 by omega];exact si⟩
   intro je;refine B 6 ?_;have zy:j+k2=xs.length:=by omega
   have jl:cur.take i2=GF xs:=by rw[xa,zy];rfl
   refine B 3 ?_;refine rq (.slice (some ⟨b,if cp=i2 then 0 else 0+i2*35,none⟩) (cur.drop i2).length (cp-i2)) (gu (l:=i2) (h:=xs.length) underlying38 sizeOf35 rfl ⟨_,_,rfl,rfl⟩ rfl aa aa rfl) (by rw[B8,mA]) ?_;refine OJ.reH (H':=[(b,bj er 35 (cur.take i2++cur.drop i2) sp)]) (by rw[AV]) ?_;refine AW (i:=0) rfl nz underlying38 zeroValue35 rfl (nsf rfl _) rfl rfl zrb ?_;intro R9 zV;refine B 6 ?_;refine rq (.slice (ao b) (cur.take i2).length cp) (eL (h:=i2) underlying38 sizeOf35 rfl ⟨_,_,rfl,rfl⟩ aa) ZG ?_;refine B 9 ?_;exact bQ (.inl rfl) results60 bB λW hS=>⟨R9,by rw[<-jl];rfl,hS.baseX A0 OH,by rw[<-jl];exact⟨by rw[jM];omega,by rw[zV,B8,jM,eM,Nat.min_eq_left aa,mA,<-qh];congr 1;omega⟩,by rw[<-jl];exact hS.own _ A0⟩
  intro dm;refine B 8 ?_;refine ag (j+1) ⟨by omega,by omega,sV.next hx hy cV⟩
 intro aR;refine B 12 ?_;exact bQ (.inl rfl) results60 bB λW hS=>⟨sp,by rw[sV.end_ aa];rfl,hS.baseX A0 OH,by rw[sV.end_ aa];exact bP,by rw[sV.end_ aa];exact hS.own _ A0⟩
theorem nak(w:World):Calls prog 60 #[ak] w (aP w (ak)):=by
 refine ef 10 func60 ntmps60 ?_;refine Lq ?_;refine aK results60 rfl A0 ?_;rfl
theorem nRg(xs:List Se)(hxl:xs.length<=100000)(N:Nat)(a:Option Addr)(cp:Nat)(w:World)(hN:N<=w.heap.size)(aH:ai seA 35 N w a xs):Calls prog 32 #[.slice a xs.length cp] w (aD w er 35 35 (eF xs) id):=by
 refine ef 8 func32 ntmps32 ?_;refine Jj (enc:=er) (m:=35) (t:=35) (xs:=xs) (v:=id) (first:=[]) (cap:=[]) rfl call58 rfl rfl rfl (λW hS=>GH xs hxl N a cp W cJ (aH.up (aj _) hS.sm)) ?_;intro r aM ae;have bJ:=Rw.ge_of aM A0;refine B 6 ?_;refine EM (r:=r) (enc:=er) (m:=35) (t:=35) (xs:=xs) (ys:=gO xs) (H0:=[]) (H1:=[]) (v:=λ_=>.tuple #[]) rfl call59 rfl rfl rfl (λhr W hS=>?_) (λb cap sp hr W hS h=>?_) ?_
 ·exact zei
 ·subst hr;exact Pj aa ae h
 intro r2 gH lS rT kA;have iV:=lS aM;have ey:=rT _ bJ;refine B 5 ?_;refine EM (r:=r2) (enc:=er) (m:=35) (t:=35) (xs:=gO xs) (ys:=eF xs) (H0:=[]) (H1:=[]) (v:=λr=>r.val (eF xs).length) rfl call60 rfl rfl rfl (λhr W hS=>?_) (λb cap sp hr W hS h=>?_) ?_
 ·have e8:=kA (xs).length;rw[<-e8,<-LZ xs];subst hr;have h0:gO xs=[]:=gH;unfold eF;rw[h0];exact(nak W).mono λe w2 h=>⟨h.1,rfl,h.2⟩
 ·have e8:=kA (xs).length;rw[<-e8,<-LZ xs];subst hr;have e9:=LZ xs;exact nlp (gO xs) aa b cap sp W h gH
 intro r3 SM u9 EN EO;have KM:=u9 iV;have qb:=EN _ ey;refine B 4 ?_;exact nQ (H0:=[]) (H1:=[]) (r:=r3) (.inl rfl) results32 bB A0 (by rw[ee];exact Rw.over qb) rfl SM qb zJ
def tV {K β:Type} [Inhabited K] (kv:List (K×β)) (j:Nat):K:=((kv[j]?).map (·.1)).getD default
theorem nvp{K β:Type}[Inhabited K]{kv:List (K×β)}{p:K×β}(hp:kv[j]? =some p)(js:List Nat):(js++[j]).map (tV kv)=js.map (tV kv)++[p.1]:=by simp[tV,hp]
theorem nqp{K β:Type}[Inhabited K]{kv:List (K×β)}{js:List Nat}(hd:js.Nodup)(hl:∀j∈js,j<kv.length)(cF:∀j,j<kv.length->j∈js):(js.map (tV kv)).Perm (kv.map (·.1)):=by
 have h1:js.Perm (List.range kv.length):=(List.perm_ext_iff_of_nodup hd List.nodup_range).2 λa=>⟨λh=>ux.2 (hl a h),λh=>cF a (ux.1 h)⟩;have h2:(List.range kv.length).map (tV kv)=kv.map (·.1):=by
  apply List.ext_getElem zJ;intro i h3 h4;simp only[eO,List.length_range]at h3;simp[tV,h3]
 rw[<-h2];exact h1.map _
theorem nwh{K β:Type}{kv:List (K×β)}{js:List Nat}{jn:Nat}{pn:K×β}(hnd:js.Nodup)(qd:∀j∈js,j<kv.length)(wR:kv[jn]? =some pn)(tE:jn∉js):(js++[jn]).Nodup/\(∀j∈js++[jn],j<kv.length)/\js.length+1<=kv.length:=by
 exact zJg
theorem nhp(mp:Option Nat)(w:World):Calls prog 53 #[.map mp] w (cZ w (λb:Nat=>.func (.func 101) #[] #[ptr b 0]) (λb w1=>w.heap.size<=b/\w1.heap[b]? =some (oC #[.map mp] 137))):=by
 refine eN func53 ntmps53 ?_;refine cH 2 ?_;intro b1 w1 hb1 cK gS fX jK;refine B 10 ?_;refine sQ b1 results53 rfl A1 rfl ?_;exact zLh
theorem nVo{kv:List (Se×Bool)}(mb bx:Nat)(m:Mq)(hm:m.Ok kv)(W:World)(hb1:W.heap[bx]? =some (oC #[.map (some mb)] 137))(tF:W.heap[mb]? =some (m.obj cB Value.bool kv)):uT prog 101 [ptr bx 0] (λs:Se=>[cB s]) (λp=>p.length<=kv.length) (λxs=>xs.Perm (kv.map (·.1))) (λ_=>False) (λk=>k=bx\/k=mb) W:=by
 intro l M I X0 hM hI hX hy h0;have cK:¬(dD hM (λ_=>False) (hI [] _)).X bx:=by rintro(h|h);exact(hM _ h).2.2 (.inl rfl);exact h.elim
 have B2:¬(dD hM (λ_=>False) (hI [] _)).X mb:=by rintro(h|h);exact(hM _ h).2.2 (.inr rfl);exact h.elim
 have Q6:=(bA.1 tF).1;refine nB (dD hM (λ_=>False) (hI [] _)) [] (vs:=[_,_]) func101 rfl ntmps101 rfl (Oi hM (hI [] _) h0 zJ (by simp[lO]) zJ) ?_;refine B 3 ?_;refine ajQ (ek:=cB) (ev:=Value.bool) underlying137 (bE.old A0 tF B2 trivial) rfl rfl rfl ?_;intro rb wS YB;replace wS:=yb wS;refine B 3 ?_;refine CJ.loop (α:=List Nat×aI) (λp=>[(0,yv l),(5,ptr rb 0)]) (λp=>[(rb,m.it mb p.1)]) (λp=>[W]) (λp=>dD hM p.2 (hI (p.1.map (tV kv)) p.2)) (λp=>p.1.Nodup/\(∀j∈p.1,j<kv.length)/\∀k,p.2 k->W.heap.size<=k) (λp=>kv.length-p.1.length) ([],λ_=>False) ⟨List.nodup_nil,by simp,λ_ h=>h.elim⟩ ⟨rfl,rfl,trivial⟩ rfl rfl zJ ?_;rintro⟨js,V⟩ ⟨hnd,qd,hV⟩;dsimp only at hnd qd hV ⊢;have B2:¬(dD hM V (hI (js.map (tV kv)) V)).X mb:=by rintro(h|h);exact(hM _ h).2.2 (.inr rfl);have:=hV _ h;omega
 have YC:=Yz kv.length js hnd qd;refine B 2 ?_;refine aav (ek:=cB) (ev:=Value.bool) (i:=0) rfl hm (bE.old A0 tF B2 zz) qd rfl rfl rfl (λcF=>?_) (λjn pn wR tE=>?_)
 ·refine B 9 ?_;exact BP (.inr rfl) results101 A0 hV zKb (λA hA=>.inl ⟨_,nqp hnd qd cF,hA⟩)
 refine B 10 ?_;refine rv rfl rfl rfl (SN (ek:=cB) (ev:=Value.bool) (i:=0) rfl hm (bE.old A0 tF B2 zz) wR rfl) ?_;refine bH 2 ?_;intro b3 eC ff;refine aE 6 (cB pn.1) ?_;refine BO (λV=>hI (js.map (tV kv)++[pn.1]) V) hX hV zJ rfl rfl rfl rfl (λW1 uU lI=>hy (js.map (tV kv)) (pn.1) V W1 (by have h9:=(nwh hnd qd wR tE).2.2;simp only[cO,eO,dO,fO];omega) uU lI) ?_ ?_
 ·intro V hV;refine B 6 ?_;refine qF ?_;refine PJ.again (js++[jn],V) ⟨(nwh hnd qd wR tE).1,(nwh hnd qd wR tE).2.1,hV⟩ (by have h9:=(nwh hnd qd wR tE).2.2;simp only[cO,dO,fO];omega) ⟨rfl,rfl,trivial⟩ rfl (by dsimp only;rw[nvp wR]) zJ
 intro V hV;refine B 8 ?_;exact BP (.inl rfl) results101 A0 hV zKb (λA hA=>.inr hA)
variable {Fin Pre:List Se->Prop}
section
variable {f:Nat}(aA:eU prog f)(w:World)(pB:∀k,RO k->k<w.heap.size)(hlen:∀p,Pre p->p.length<=100000)(qG:∀W2,Below w.heap.size w W2->uT prog f cap (λs:Se=>[cB s]) Pre Fin (λ_=>False) RO W2)
include f aA pB hlen qG
theorem nwn:Calls prog 168 #[ak,.func (.func f) #[] cap.toArray] w (λe w'=>∃xs,Fin xs/\aD w er 35 35 xs id e w'):=by
 refine Qk Gh.no [] (vs:=[_,_]) func168 rfl ntmps168 rfl (JU w) ?_;refine OI ?_;refine yW ?_;intro b2 dJ dH;refine B 10 ?_;refine XA (f:=f) (cap:=cap) (α:=Se) (enc:=(λs:Se=>[cB s])) (Pre:=Pre) (Fin:=Fin) (RO:=RO) (MI:=λ_=>False) rfl aA (λW W2 hS hB=>qG W2 ((hS.links w A0).below (by simp only[dL,ft,cd,dV,or_false,Gh.no,false_or];omega) |>.trans (hB.mono (hS.links w A0).size))) (λ_ _ _ hk=>hk.elim) (λW hS k hk=>by have h1:=pB k hk;have h2:=(hS.links w A0).size;exact⟨by omega,by simp only[dL,ft,cd,dV,or_false];omega,λh=>h⟩) (λ_=>rfl) (λpre G' Hc=>G'=Gh.no/\∃r:Rw,r.Fr Gh.no [w]/\r.Fit 35 pre/\Hc=[(b2,oC #[r.val pre.length] 38)]++(r.hp er 35 pre++[])) (λ_ _ _=>False) ⟨rfl,.nil,True.intro,rfl,rfl⟩ zA ?_ ?_ ?_
 ·rintro pre x G' Hc l Dk rec W1 M V Wy p7 xN eK ⟨rfl,r,aM,ae,rfl⟩ jf mm Qm yG dK DS;simp only[ah]at jf yG;have bJ:r.ge w.heap.size:=Rw.ge_of aM A0;have gj:=hlen _ eK;simp only[cO,dO,fO]at gj;have EF:∀p∈r.hp er 35 pre,M p.1\/V p.1:=λp hp=>dK.loc.h p VC;refine bH 2 ?_;intro b5 rF rG;refine B 2 ?_;refine PJ.reH (H':=book ([(b5,oC (seA x) 35)]++([(b2,oC #[r.val pre.length] 38)]++(r.hp er 35 pre++[]))) l rec (ji Dk)) rfl ?_;refine Om p7 ?_;refine aE 3 (.agg (seA x)) ?_;refine L5 ?_;refine yW ?_;intro gd lT pC;refine kz (r:=r) (xs:=pre) (zs:=[x]) (enc:=er) (m:=35) (H0:=[(gd,oC (seA x) 35),(b5,oC (seA x) 35),(b2,oC #[r.val pre.length] 38)]) (H1:=(l,.loop {rec with state:=.busy})::ji Dk) zX WH nz rfl rfl rfl rfl (cD.one (z:=x) nz Pe underlying38 (bE.own (i:=0) rfl)) ae (Rw.Fr_ext EF) zJ y9 ?_;intro gB pD pE jL lk;replace jL:=yb jL;refine B 3 ?_;refine vC ?_;refine JW (G2:=Gh.no) (Hc2:=[(b2,oC #[(Rw.row gB pD pE).val (pre++[x]).length] 38)]++((Rw.row gB pD pE).hp er 35 (pre++[x])++[])) dK mm ⟨λ_ h=>h,λ_ h=>.inl h,λ_ h=>.inl h,(VD rfl (jL.imp id (λh=>h.1))),zUc⟩ (JX p7 xN) ?_;exact zlh
 ·rintro qB l Dk rec G' Hc dW jf mm ⟨rfl,r,aM,ae,rfl⟩;replace jf:=yb jf;have bJ:r.ge w.heap.size:=Rw.ge_of aM A0;refine QZ λWd yF=>?_;have mX:=VE yF;refine B 9 ?_;have hq:=λ(k:Nat)=>Rw.mem_ge (enc:=er) (t:=35) (xs:=qB) (k:=k) bJ;refine PJ.reH (H':=(b2,oC #[r.val qB.length] 38)::(r.hp er 35 qB++(l,.loop rec)::ji Dk)) VF ?_;refine B3 (.inl rfl) zJ λa W H' hF hS eV aW=>?_;refine⟨_,by rw[results_tmp results168];exact congrArg (λu=>Result.ok u W) (hF 4 _ rfl),qB,dW,r,rfl,?_,bJ,ae,?_⟩
  ·refine(hS.links w A0).below λk hk hx=>?_;exact Yr
  cases r with
  |nil=>trivial
  |row b cap sp=>exact hS.own _ (eV (b,bj er 35 qB sp) oV (mX _ oV).1)
 exact Qo
theorem nop:Calls prog 100 #[.func (.func f) #[] cap.toArray] w (λe w'=>∃xs,Fin xs/\aD w er 35 35 xs id e w'):=by
 refine ef 8 func100 ntmps100 ?_;refine VI (enc:=er) (m:=35) (t:=35) (Fin:=Fin) (v:=id) call168 rfl rfl rfl (λW hS=>nwn aA W (λk hk=>qH (pB k hk) (hS.links w A0).size) hlen (λW2 hB=>qG W2 (((hS.links w A0).below KP).trans (hB.mono (hS.links w A0).size)))) ?_;intro xs r dW aM ae;refine B 4 ?_;exact bQ (.inl rfl) results100 bB λW hS=>⟨xs,dW,r,rfl,hS.base A0 Ys,Rw.ge_of aM A0,ae,by cases r with|nil=>exact True.intro|row b cap sp=>exact hS.own _ A0⟩
theorem nxl(jl:∀xs,Fin xs->xs.length<=100000):Calls prog 52 #[.func (.func f) #[] cap.toArray,.func (.func 54) #[] #[]] w (λe w'=>∃xs,Fin xs/\aD w er 35 35 (gO xs) id e w'):=by
 refine ef 8 func52 ntmps52 ?_;refine VI (enc:=er) (m:=35) (t:=35) (Fin:=Fin) (v:=id) call100 rfl rfl rfl (λW hS=>nop aA W (λk hk=>qH (pB k hk) (hS.links w A0).size) hlen (λW2 hB=>qG W2 (((hS.links w A0).below KP).trans (hB.mono (hS.links w A0).size)))) ?_;intro xs r dW aM ae;have hxl:=jl xs dW;have bJ:=Rw.ge_of aM A0;refine B 7 ?_;refine EM (r:=r) (enc:=er) (m:=35) (t:=35) (xs:=xs) (ys:=gO xs) (H0:=[]) (H1:=[]) (v:=λ_=>.tuple #[]) rfl call59 rfl rfl rfl (λhr W hS=>?_) (λb cap sp hr W hS h=>?_) ?_
 ·exact zei
 ·subst hr;exact Pj aa ae h
 intro r2 gH lS rT kA;have iV:=lS aM;have ey:=rT _ bJ;refine B 9 ?_;exact bQ (.inl rfl) results52 bB λW hS=>⟨xs,dW,r2,by show Ending.returned (r.val _)=Ending.returned (r2.val _);rw[<-kA,LZ],hS.base A0 (by rw[ee];exact Rw.over ey),ey,gH,by cases r2 with|nil=>exact True.intro|row b cap sp=>exact hS.own _ A0⟩
end
noncomputable def cP (ns:List Nd) (node:Int):Option Int:=aF (di ns) node
noncomputable def ajR (o:Option Int):Value:=.tuple #[ab (o.getD 0),.bool o.isSome]
theorem L6(o:Option Int):((o.map ab).getD (ab 0))=ab (o.getD 0):=by cases o<;>rfl
theorem nTb(ns:List Nd)(hn:ns.length<=100000)(N:Nat)(a:Option Addr)(cp:Nat)(w:World)(hN:N<=w.heap.size)(aH:ai fV 2 N w a ns)(node:Int):Calls prog 36 #[.agg #[.slice a ns.length cp],ab node] w (aP w (ajR (cP ns node))):=by
 refine eN func36 ntmps36 ?_;refine cH 2 ?_;intro b2 w2 dw bX fB dJ dH;refine B 6 ?_;refine KV ?_;refine zwd ?_;intro bf m EZ OD hm;replace EZ:=yb EZ;refine B 1 ?_;refine rq (.tuple #[ab ((cP ns node).getD 0),.bool (cP ns node).isSome]) (rj (ev:=ab) underlying165 underlying3 zeroValue3 hm (bE.own (i:=0) rfl) rfl rfl) (by unfold cP;rw[L6]) ?_;refine B 16 ?_;refine cu (.inl rfl) results36 bB A1 zB ?_;rfl
theorem nzg(ns:List Nd)(wZ:ns.length<=90000)(l:List Ch)(AM:l.length<=64)(lq:∀x∈l,dd x.dev)(N:Nat)(na:Option Addr)(nc:Nat)(a:Option Addr)(cp:Nat)(w:World)(hN:N<=w.heap.size)(L7:ai fV 2 N w na ns)(aH:ai gK 5 N w a l):Calls prog 57 #[.agg #[.slice na ns.length nc],.slice a l.length cp] w (cZ w (λq:Option Addr×Nat=>.agg #[.slice q.1 (aN ns l).length q.2]) (λq w1=>ai fV 2 w1.heap.size w1 q.1 (aN ns l)/\((l=[]/\q=(na,nc))\/∀b off,q.1=some ⟨b,off,none⟩->w.heap.size<=b))):=by
 refine eN func57 ntmps57 ?_;refine OI ?_;refine yW ?_;intro b2 dJ dH;refine bH 1 ?_;intro b4 iT iU;refine B 11 ?_;refine CJ.loop (α:=(Option Addr×Nat)×World×Nat) (λp=>[(2,ptr b2 0),(4,ptr b4 0),(7,.slice a l.length cp),(8,ab (l.length:Int)),(9,ab (p.2.2:Int))]) (λp=>[(b4,oC #[ak] 51),(b2,oC #[.slice p.1.1 (aN ns (l.take p.2.2)).length p.1.2] 51)]) (λp=>[p.2.1,w]) (λp=>Gh.no) (λp=>p.2.2<=l.length/\w.heap.size<=p.2.1.heap.size/\ai fV 2 p.2.1.heap.size p.2.1 p.1.1 (aN ns (l.take p.2.2))/\(∀b off,p.1.1=some ⟨b,off,none⟩->aN ns (l.take p.2.2)=[]\/(b≠b2/\b≠b4/\(b<N\/w.heap.size<=b)))/\((p.2.2=0/\p.1=(na,nc))\/∀b off,p.1.1=some ⟨b,off,none⟩->w.heap.size<=b)) (λp=>l.length-p.2.2) ((na,nc),w,0) ⟨cY _,aj _,L7.up hN R2,λb off e=>by rcases L7.lt e with h|h;(exact .inl h);exact .inr aa,.inl ⟨rfl,rfl⟩⟩ zR rfl rfl zJ ?_;rintro⟨⟨ta,tc⟩,wk,j⟩ ⟨hj,tJ,eV,dP,htn⟩;dsimp only at hj tJ eV dP htn ⊢;refine aG 6 ?_ ?_
 ·intro av;refine B 5 ?_;obtain⟨bo,oo,cs0,to,fC,rfl,fE,bW,aS⟩:=aH.get aa;obtain⟨x,hx⟩:=ng l j aa;have hd:=lq x (cA hx);have La:=nXg ns l j aa;refine B 2 ?_;refine VU ?_;refine yW ?_;intro b6 ky ri;refine aG 10 ?_ ?_
  ·intro aR;refine B 4 ?_;refine OJ.dropAt (i:=0) rfl zC ?_;refine nH (enc:=ie) (m:=2) (t:=240) (xs:=lV (aN ns (l.take j)) x.dev) (v:=λs=>.tuple #[.agg #[s],ab (pI (aN ns (l.take j)) x.dev)]) (first:=[]) (cap:=[]) rfl call35 rfl rfl rfl KJ (λW hS=>n1d (aN ns (l.take j)) aa W.heap.size ta tc W (aj _) (eV.to hS A0 (aj _) (λb off e=>by rcases dP b off e with h9|h9;(exact .inl h9);rcases eV.lt e with h8|h8;(exact .inl h8);refine .inr ?_;simp only[bM,dx,ec,rO,and_true];omega)) x.dev hd) ?_;intro W9 a9 Fg Jo cC xY jQ kC;have RI:=cC.under;simp only[I9,dx,ec,rO,and_true]at RI;have Za:=xY.size;have XE:=(cC.links w A1).size;refine B 11 ?_;refine PJ.again ((a9,Fg),Jo,j+1) ⟨by dsimp only;omega,by dsimp only;omega,by dsimp only;rw[VV hx cV];exact jQ,λb off e=>by have:=kC _ e;dsimp only at this;exact .inr aa,.inr λb off e=>by have:=kC _ e;dsimp only at this ⊢;omega⟩ zW zR (by rw[VV hx cV];rfl) rfl zJ
  intro aR;refine B 6 ?_;refine OJ.dropAt (i:=0) rfl zC ?_;refine nH (enc:=ie) (m:=2) (t:=240) (xs:=ll (aN ns (l.take j)) x.dev x.pub) (v:=λs=>.tuple #[.agg #[s],ab (pJ (aN ns (l.take j)) x.dev x.pub)]) (first:=[]) (cap:=[]) rfl call34 rfl rfl rfl KJ (λW hS=>nxf (aN ns (l.take j)) aa W.heap.size ta tc W (aj _) (eV.to hS A0 (aj _) (λb off e=>by rcases dP b off e with h9|h9;(exact .inl h9);rcases eV.lt e with h8|h8;(exact .inl h8);refine .inr ?_;simp only[bM,dx,ec,rO,and_true];omega)) x.dev x.pub hd aa) ?_;intro W9 a9 Fg Jo cC xY jQ kC;have RI:=cC.under;simp only[I9,dx,ec,rO,and_true]at RI;have Za:=xY.size;have XE:=(cC.links w A1).size;refine B 11 ?_;refine PJ.again ((a9,Fg),Jo,j+1) ⟨by dsimp only;omega,by dsimp only;omega,by dsimp only;rw[VW hx cV];exact jQ,λb off e=>by have:=kC _ e;dsimp only at this;exact .inr aa,.inr λb off e=>by have:=kC _ e;dsimp only at this ⊢;omega⟩ zW zR (by rw[VW hx cV];rfl) rfl zJ
 intro av;refine B 6 ?_;rw[nfi _ _ _ aa]at eV dP ⊢;refine B 6 ?_;exact bQ (.inl rfl) results57 bB λW hS=>⟨(ta,tc),rfl,hS.base A1 zF,eV.to hS A0 (aj _) (λb off e=>by rcases dP b off e with h9|h9;(exact .inl h9);exact .inr zz),htn.imp (λh=>⟨my (by have:=h.1;omega),h.2⟩) id⟩
noncomputable def yo (Z:Fx) (cs:List Cm) (p:Nat×Gp):List (Nat×Gp):=(Ba Z cs p.2).map λj=>(j,kr Z p.2 (iQ cs j))
noncomputable def th (Z:Fx) (cs:List Cm):Nat->List (Nat×Gp)->List (Nat×Gp)
 |0,_=>[]
 |_+1,[]=>[]
 |n+1,q::qs=>q::th Z cs n (qs++yo Z cs q)
noncomputable def gI (Z:Fx) (cs:List Cm) (fo:Fo):List (Nat×Gp):=match sZ Z cs fo with
 |none=>[]
 |some i=>th Z cs (cs.length+1) [(i,kr Z (g0 fo) (iQ cs i))]
theorem L8(Z:Fx)(cs:List Cm)(n:Nat):th Z cs n []=[]:=by cases n<;>rfl
theorem nXo{α β γ:Type}{f:α->β}{h:α->γ}:∀{l:List α},(l.map f).Nodup->(∀a∈l,∀b∈l,h a=h b->f a=f b)->(l.map h).Nodup:=
 by intro x;induction x<;>(intros;grind)
theorem nOp(Z:Fx)(cs:List Cm)(g:Gp):(wz Z cs g (bO Z cs cs.length).length).Nodup:=by grind [wz,nXo,nMg,Sk]
theorem n8l(Z:Fx)(cs:List Cm)(g:Gp):(Ba Z cs g).Perm (wz Z cs g (bO Z cs cs.length).length):=List.mergeSort_perm _ _
theorem nWh(h:j∈Ba Z cs g):∃c,cs[j]? =some c/\(dk (aB Z c),(j:Int))∈bO Z cs cs.length/\dk c.par=dk g.last/\iy Z g c=0:=by
 have h1:=(n8l Z cs g).mem_iff.1 h;obtain⟨c,hc,hm⟩:=n3j h1;refine⟨c,hc,hm,?_⟩;have h2:=(uK.1 h1).2;all_goals grind [F8,O5]
structure QOk (Z:Fx) (cs:List Cm) (p:Nat×Gp):Prop where
 c:∃c,cs[p.1]? =some c/\(dk (aB Z c),(p.1:Int))∈bO Z cs cs.length/\p.2.last=aB Z c/\p.2.epoch=c.epoch
theorem GI{k:Dk}{i j:Int}(h1:(k,i)∈bO Z cs cs.length)(h2:(k,j)∈bO Z cs cs.length):i=j:=by
 have nd:=nMg Z cs cs.length;obtain⟨a,ha⟩:=jG.1 h1;obtain⟨b,hb⟩:=jG.1 h2;have e1:((bO Z cs cs.length).map (·.1))[a]? =some k:=by rw[mY,ha];rfl
 have e2:((bO Z cs cs.length).map (·.1))[b]? =some k:=by rw[mY,hb];rfl
 have qQ:a=b:=(List.getElem?_inj (by rw[eO];exact nq ha) nd).1 (e1.trans e2.symm);all_goals grind
structure QI (Z:Fx) (cs:List Cm) (vs qs:List (Nat×Gp)):Prop where
 nd:((vs++qs).map (·.1)).Nodup
 ok:∀p∈vs++qs,QOk Z cs p
 par:∀p∈vs++qs,∀c,cs[p.1]? =some c->c.epoch=1\/∃r∈vs,dk c.par=dk r.2.last
 ge:∀p∈vs++qs,1<=p.2.epoch
theorem QI.len{qs:List (Nat×Gp)}(h:QI Z cs vs qs):vs.length+qs.length<=cs.length:=by
 have h1:=Yz cs.length _ h.nd λj hj=>by
  obtain⟨p,hp,rfl⟩:=bT.1 hj;obtain⟨c,hc,_⟩:=(h.ok p hp).c;exact nq hc
 simpa using h1
theorem QI.step{qs:List (Nat×Gp)}(h:QI Z cs vs (q::qs)):QI Z cs (vs++[q]) (qs++yo Z cs q):=by
 have e:(vs++[q])++(qs++yo Z cs q)=(vs++q::qs)++yo Z cs q:=by simp
 have GJ:(yo Z cs q).map (·.1)=Ba Z cs q.2:=by unfold yo;rw[List.map_map];exact(List.map_congr_left λ_ _=>rfl).trans (List.map_id _)
 have sw:∀p∈yo Z cs q,∃c,cs[p.1]? =some c/\(dk (aB Z c),(p.1:Int))∈bO Z cs cs.length/\dk c.par=dk q.2.last/\iy Z q.2 c=0/\p.2=kr Z q.2 c:=by
  intro p hp;obtain⟨j,hj,rfl⟩:=bT.1 hp;obtain⟨c,h1,h2,h3,h4⟩:=nWh hj;exact⟨c,h1,h2,h3,h4,by show kr Z q.2 (iQ cs j)=_;unfold iQ;rw[h1];rfl⟩
 have hq:q∈vs++q::qs:=aY.2 (.inr A0);have jI:=h.ge q hq;refine⟨?_,λp hp=>?_,λp hp c hc=>?_,λp hp=>?_⟩
 ·rw[e,gL,GJ,List.nodup_append];refine⟨h.nd,(n8l Z cs q.2).nodup_iff.2 (nOp Z cs q.2),λa ha b hb qQ=>?_⟩;subst qQ;obtain⟨p,hp,e1⟩:=bT.1 ha;obtain⟨c,h1,_,h3,h4⟩:=nWh hb;have he:=nhh h4;rcases h.par p hp c (by rw[e1];exact h1)with h5|⟨r,hr,h5⟩
  ·omega
  obtain⟨c1,_,g2,g3,_⟩:=(h.ok q hq).c;obtain⟨c2,_,k2,k3,_⟩:=(h.ok r (aY.2 (.inl hr))).c;have e2:dk (aB Z c1)=dk (aB Z c2):=by rw[<-g3,<-k3,<-h3,h5]
  rw[e2]at g2;have e3:q.1=r.1:=by have:=GI g2 k2;omega
  have nd:=h.nd;rw[gL,List.nodup_append]at nd;exact nd.2.2 r.1 (bT.2 ⟨r,hr,rfl⟩) q.1 zJ e3.symm
 ·rw[e]at hp;rcases aY.1 hp with hp|hp
  ·exact h.ok p hp
  obtain⟨c,h1,h2,_,_,h5⟩:=sw p hp;exact⟨c,h1,h2,by rw[h5];rfl,by rw[h5];rfl⟩
 ·rw[e]at hp;rcases aY.1 hp with hp|hp
  ·exact(h.par p hp c hc).imp id λ⟨r,hr,h5⟩=>⟨r,aY.2 (.inl hr),h5⟩
  obtain⟨c',h1,_,h3,_⟩:=sw p hp;rw[h1]at hc;cases hc;exact .inr ⟨q,by simp,h3⟩
 rw[e]at hp;rcases aY.1 hp with hp|hp
 ·exact h.ge p hp
 obtain⟨c,_,_,_,h4,h5⟩:=sw p hp;have:=nhh h4;rw[h5];show 1<=c.epoch;omega
structure Cv (Z:Fx) (cs:List Cm) (fo:Fo) (vs qs:List (Nat×Gp)):Prop where
 qi:QI Z cs vs qs
 eq:∃n,vs++th Z cs n qs=gI Z cs fo/\cs.length+1<=n+vs.length
theorem Cv.first(h:sZ Z cs fo=some (jT d))(hd:xj Z cs (g0 fo) d):Cv Z cs fo [] [qq d]:=by
 have hx:d.x.g=kr Z (g0 fo) (iQ cs (jT d)):=hd.nx;have he:=nhh hd.ok;have hm:(dk (aB Z d.c),((jT d:Nat):Int))∈bO Z cs cs.length:=by
  unfold sZ LU at h;split at h
  ·cases h
  rename_i h0;rw[Option.bind_eq_some_iff]at h;obtain⟨i,h1,h2⟩:=h;rw[wv]at h1;obtain⟨p,hp,e1⟩:=h1;obtain⟨j,c,f1,_,f3,f4⟩:=Sk Z cs _ p (cA hp);have vf:i=j:=by rw[<-e1,f1,xU]
  subst vf;split at h2
  ·have e3:=Option.some.inj h2;subst e3;rw[hd.at_]at f3;cases f3;have:=cA hp;rw[show p=(p.1,p.2)from rfl,f4,f1]at this;exact this
  cases h2
 refine⟨⟨by simp,λp hp=>?_,λp hp c hc=>?_,λp hp=>?_⟩,cs.length+1,?_,by simp⟩
 ·simp only[eX,gh]at hp;subst hp;exact⟨d.c,hd.at_,hm,by show d.x.g.last=_;rw[hd.x];rfl,by show d.x.g.epoch=_;rw[hd.x];rfl⟩
 ·simp only[eX,gh]at hp;subst hp;have:cs[jT d]? =some c:=hc;rw[hd.at_]at this;cases this;exact .inl (by rw[he];rfl)
 ·simp only[eX,gh]at hp;subst hp;show 1<=d.x.g.epoch;rw[hd.x];show 1<=d.c.epoch;rw[he];show(1:Int)<=0+1;decide
 unfold gI;rw[h,eX];show th Z cs (cs.length+1) [(jT d,d.x.g)]=_;rw[hx]
theorem Cv.step{qs:List (Nat×Gp)}(h:Cv Z cs fo vs (q::qs)):Cv Z cs fo (vs++[q]) (qs++yo Z cs q):=by
 obtain⟨n,h1,h2⟩:=h.eq;have hl:=h.qi.len;simp only[dO]at hl;obtain⟨m,rfl⟩:∃m,n=m+1:=⟨n-1,by omega⟩;exact⟨h.qi.step,m,by rw[<-h1];simp[th],by simp only[cO,dO,fO];omega⟩
theorem Cv.done(h:Cv Z cs fo vs []):vs=gI Z cs fo:=by
 obtain⟨n,h1,_⟩:=h.eq;rw[L8,ee]at h1;exact h1
theorem Cv.none(h:sZ Z cs fo=none):gI Z cs fo=[]:=by unfold gI;rw[h]
theorem n6n{ds:List Cd}(hm:ds.map jT=Ba Z cs d.x.g)(hd:∀x∈ds,tR Z cs d.x.g x):ds.map qq=yo Z cs (qq d):=by
 unfold yo;show _=(Ba Z cs d.x.g).map _;rw[<-hm,List.map_map];refine List.map_congr_left λx hx=>?_;show(jT x,x.x.g)=(jT x,kr Z d.x.g (iQ cs (jT x)));rw[(hd x hx).le.nx]
theorem cj.fz(h:cj N w x)(hn:ez K x):∃F:ad,(∀p∈F,K<=p.1/\w.heap[p.1]? =some p.2)/\qo F x:=by
 have key:∀{α:Type} {enc:α->Array Value} {n:Nat} {a:Option Addr} {xs:List α},ai enc n N w a xs->(∀q,a=some q->xs=[]\/K<=q.block)->∃F:ad,(∀p∈F,K<=p.1/\w.heap[p.1]? =some p.2)/\iK enc n F a xs:=by
  intro α enc n a xs h1 h2;by_cases h0:xs=[]
  ·exact⟨[],by simp,.inl h0⟩
  exact h1.fs λq hq=>(h2 q hq).resolve_left h0
 obtain⟨F1,wB,uJ⟩:=key h.ms hn.1;obtain⟨F2,Pb,hs2⟩:=key h.ns hn.2;exact⟨F1++F2,λp hp=>(aY.1 hp).elim (wB p) (Pb p),uJ.mono (λp hp=>aY.2 (.inl hp)),hs2.mono (λp hp=>aY.2 (.inr hp)),h.mn,h.nn⟩
theorem cj.fzAll{N K:Nat}{w:World}:∀{ds:List Cd},(∀d∈ds,cj N w d.x/\ez K d.x)->∃F:ad,(∀p∈F,K<=p.1/\w.heap[p.1]? =some p.2)/\∀d∈ds,qo F d.x
 | [],_=>⟨[],by simp,by simp⟩
 |d::ds,h=>by
  obtain⟨F1,h1,h2⟩:=(h d A0).1.fz (h d A0).2;obtain⟨F2,h3,h4⟩:=cj.fzAll λx hx=>h x (.tail _ hx);refine⟨F1++F2,λp hp=>(aY.1 hp).elim (h1 p) (h3 p),λx hx=>?_⟩;rcases cd.1 hx with rfl|hx
  ·exact h2.mono λp hp=>aY.2 (.inl hp)
  exact(h4 x hx).mono λp hp=>aY.2 (.inr hp)
section
variable (hZ:FxOk Z)(cs:List Cm)(bW:cs.length<=1000)(dE:∀c∈cs,bN c)(N:Nat)(la:Option Addr)(lc:Nat)(w:World)(hN:N<=w.heap.size)(aH:ai cM 73 N w la cs)(hC:∀c∈cs,dB N w c)(ia:Option Addr)(ic:Nat)(ta:Option Addr)(tc:Nat)(hp:pN Z cs N w ⟨ia,ic,ta,tc⟩)
include hZ bW dE la lc hN aH hC ia ic ta tc hp
theorem nxi(G:Gv)(hG:cj N w G)(hg:Glb w):Calls prog 63 #[.agg (Ac Z cs la lc ⟨ia,ic,ta,tc⟩),.agg (bF G)] w (λe w'=>∃(x:(Option Addr×Nat)×List Cd) (F':ad),e= .returned (.slice x.1.1 x.2.length x.1.2)/\Below w.heap.size w w'/\(∀p∈F',w.heap.size<=p.1/\w'.heap[p.1]? =some p.2)/\(x.2.map jT=Ba Z cs G.g/\(∀d∈x.2,tR Z cs G.g d/\qo F' d.x)/\iK jm 143 F' x.1.1 x.2)):=by
 refine(n7i hZ cs bW dE N la lc w hN aH hC ia ic ta tc hp G hG hg).mono ?_;rintro e w' ⟨ds,⟨hm,iP⟩,r,rfl,hb,jI,bP,fJ⟩;obtain⟨F1,h1,h2⟩:=cj.fzAll λd hd=>(iP d hd).2;obtain⟨a,c,he,aH⟩:=r.sl FR bP fJ (aj w'.heap.size);obtain⟨F2,h3,h4⟩:=aH.fs (K:=w.heap.size) (by
  intro q hq;cases r with
  |nil=>simp only[Rw.val,Value.slice.injEq]at he;rw[<-he.1]at hq;cases hq
  |row b cap sp=>simp only[Rw.val,Value.slice.injEq]at he;rw[<-he.1]at hq;cases hq;exact jI)
 exact⟨((a,c),ds),F1++F2,by show Ending.returned (r.val ds.length)=_;rw[he],hb,λp hp=>(aY.1 hp).elim (h1 p) (h3 p),hm,λd hd=>⟨(iP d hd).1,(h2 d hd).mono λp hp=>aY.2 (.inl hp)⟩,h4.mono λp hp=>aY.2 (.inr hp)⟩
theorem nsn(fo:Fo)(hg:Glb w):Calls prog 62 #[.agg (Ac Z cs la lc ⟨ia,ic,ta,tc⟩),.agg (qR fo)] w (λe w'=>∃(x:Cd×Bool) (F':ad),e= .returned (.tuple #[.agg (jm x.1),.bool x.2])/\Below w.heap.size w w'/\(∀p∈F',w.heap.size<=p.1/\w'.heap[p.1]? =some p.2)/\((x.2=true/\sZ Z cs fo=some (jT x.1)/\xj Z cs (g0 fo) x.1/\qo F' x.1.x)\/(x.2=false/\sZ Z cs fo=none))):=by
 refine(nfp hZ cs bW dE N la lc w hN aH hC ia ic ta tc hp fo hg).mono ?_;rintro e w' ⟨x,rfl,hb,h|h⟩
 ·obtain⟨F,h1,h2⟩:=h.2.2.2.1.fz h.2.2.2.2;exact⟨x,F,rfl,hb,h1,.inl ⟨h.1,h.2.1,h.2.2.1,h2⟩⟩
 exact⟨x,[],rfl,hb,by simp,.inr h⟩
end
theorem cD.slF{C:Cx}{F2:ad}{α:Type}{enc:α->List Value}{m tx e' c:Nat}{xs:List α}(hm:∀x,(enc x).length=m)(h1:∀x,∀u∈enc x,u.oneCell'=true)(hU:C.P.underlying tx=some (.slice e'))(h:iK (λx=>(enc x).toArray) m F a xs)(hs:∀p∈F,p∈F2):cD C (dF F2) L H enc m tx (.slice a xs.length c) xs:=by
 rcases h with h|⟨b,off,cs,t,fr,e1,e2,e4⟩
 ·subst h;exact zGh
 subst e1;have hl:off+xs.length*m<=cs.size\/xs=[]:=by
  exact zWg
 rcases hl with hl|h0
 ·exact cD.at hm h1 hU (λW hS=>(hS.fzLies _ (hs _ e2)).2) hl (n7f xs hm e4)
 subst h0;exact zGh
theorem nYj{α:Type}{enc:α->List Value}{x:α}{A:Array Value}(h:A=(enc x).toArray):(oC A t:Obj)=bj enc t ([]++[x]) []:=by subst h;simp[iB]
theorem pN.toO{M:Nat}{p:Pv}(h:pN Z cs N w p)(hN:N<=M)(hs:∀k,k<N->W.heap[k]? =w.heap[k]?):pN Z cs M W p:=⟨h.ids.up hN hs,h.at_.up hN hs⟩
structure AlV (Z:Fx) (cs:List Cm) (fo:Fo) (F:ad) (ds:List Cd):Prop where
 eq:ds.map qq=gI Z cs fo
 len:ds.length<=cs.length
 d:∀d∈ds,cs[jT d]? =some d.c/\0<=d.at_/\qo F d.x
theorem n9e{n:Nat}:∀{H:ad},(∀q∈H,n<=q.1)->Over n H
 | [],_=>trivial
 |p::H,h=>⟨h p A0,n9e λq hq=>h q (.tail _ hq)⟩
theorem Rw.geA{n cap:Nat}{r:Rw}(h:r.ge n)(hb:r.isAt b):Rw.ge n (Rw.row b cap sp):=by
 cases r with
 |nil=>exact hb.elim
 |row b' c' s'=>have e:b'=b:=hb;subst e;exact h
theorem n5h(hZ:FxOk Z)(cs:List Cm)(bW:cs.length<=1000)(dE:∀c∈cs,bN c)(N:Nat)(la:Option Addr)(lc:Nat)(w:World)(hN:N<=w.heap.size)(aH:ai cM 73 N w la cs)(hC:∀c∈cs,dB N w c)(fo:Fo)(hg:Glb w):Calls prog 33 #[.agg (qR fo),.slice la cs.length lc] w (λe w'=>∃(q:((Option Addr×Nat)×(Option Addr×Nat))×List Cd) (F':ad),e= .returned (.tuple #[.slice q.1.1.1 q.2.length q.1.1.2,.slice q.1.2.1 q.2.length q.1.2.2])/\Below w.heap.size w w'/\(∀p∈F',w.heap.size<=p.1/\w'.heap[p.1]? =some p.2)/\AlV Z cs fo F' q.2/\iK (λx=>(az x).toArray) 1 F' q.1.1.1 (q.2.map λd=>d.at_)/\iK (λx=>(lL x).toArray) 36 F' q.1.2.1 (q.2.map λd=>d.x)):=by
 have hg4:=hg.lt;refine nB (dF []) [] (vs:=[_,_]) func33 rfl ntmps33 rfl (Lm w) ?_;refine cH 2 ?_;intro b2 w2 dw bX fB dJ dH;refine B 7 ?_;refine nv (α:=Pv) (v:=λp=>.agg (Ac Z cs la lc p)) (Φ:=λW p w1=>pN Z cs w1.heap.size w1 p/\(∀q,p.ia=some q->W.heap.size<=q.block)/\∀q,p.ta=some q->W.heap.size<=q.block) call61 rfl rfl rfl (λW hS=>Px.newPool hZ cs bW dE N la lc W cJ (aH.up (aj _) hS.sm) (λc hc=>(hC c hc).up (aj _) hS.sm) (hg.old hS A1 zH True.intro)) ?_;rintro Wp ⟨ia,ic,ta,tc⟩ wp B4 Rh ⟨Gc,Sn,hp3⟩;try dsimp only at Gc Sn hp3
 have hzp:=Rh.size;have hzq:=(B4.links w A1).size;refine bH 1 ?_;intro b6 ky ri;refine aE 5 (.agg (Ac Z cs la lc ⟨ia,ic,ta,tc⟩)) ?_;refine dp (.agg (qR fo)) ?_;refine Pd (γ:=Cd×Bool) (v:=λx=>.tuple #[.agg (jm x.1),.bool x.2]) (Φ:=λF x=>(x.2=true/\sZ Z cs fo=some (jT x.1)/\xj Z cs (g0 fo) x.1/\qo F x.1.x)\/(x.2=false/\sZ Z cs fo=none)) call62 rfl rfl rfl (λW hS=>nsn hZ cs bW dE W.heap.size la lc W (aj _) (aH.up cJ (hS.same A2 hN zH ⟨by dsimp only;omega,True.intro⟩)) (λc hc=>(hC c hc).up cJ (hS.same A2 hN zH ⟨by dsimp only;omega,True.intro⟩)) ia ic ta tc (Gc.toO (hS.links wp A0).size (hS.same A0 (aj _) zH ⟨by dsimp only;omega,True.intro⟩)) fo (hg.old hS A2 zH ⟨by dsimp only;omega,True.intro⟩)) ?_;rintro⟨d0,k0⟩ F0 tG WK;dsimp only at tG ⊢;refine bH 4 ?_;intro b7 kh v7;refine B 6 ?_;rcases tG with⟨rfl,jY,zx,hgf⟩|⟨rfl,tG⟩
 ·refine B 2 ?_;refine CV ?_;refine dp (.agg (jm d0)) ?_;refine kp underlying162 sizeOf159 zeroValue159 rfl rfl rfl rfl rfl rfl rfl ?_;refine yW ?_;intro b22 Qv agO;refine B 4 ?_;refine CJ.reH (H':=[(b22,bj oZ 159 ([]++[d0]) []),(b7,oC (jm d0) 159),(b6,oC (Ac Z cs la lc ⟨ia,ic,ta,tc⟩) 156)]) (by rw[<-nYj (enc:=oZ) (A:=jm d0) rfl];rfl) ?_;refine CJ.loop (α:=((((List Cd×List Cd)×List Cd)×(Rw×Rw))×(((Nat×Nat)×Nat)×List Value)×ad)) (λp9=>[(2,ptr b2 0),(4,p9.1.2.1.val (p9.1.1.1.1.map λd=>d.at_).length),(5,p9.1.2.2.val (p9.1.1.1.1.map λd=>d.x).length),(6,ptr b6 0),(9,.slice (some ⟨p9.2.1.1.1.1,p9.2.1.1.1.2,none⟩) p9.1.1.1.2.length p9.2.1.1.2)]) (λp9=>[(p9.2.1.1.1.1,bj oZ 159 (p9.1.1.2++p9.1.1.1.2) p9.2.1.2),(b7,oC (jm d0) 159),(b6,oC (Ac Z cs la lc ⟨ia,ic,ta,tc⟩) 156)]++(p9.1.2.1.hp az 3 (p9.1.1.1.1.map λd=>d.at_)++(p9.1.2.2.hp lL 53 (p9.1.1.1.1.map λd=>d.x)++[]))) (λp9=>[wp,w2,w]) (λp9=>dF p9.2.2) (λp9=>Cv Z cs fo (p9.1.1.1.1.map qq) (p9.1.1.1.2.map qq)/\(∀x∈p9.1.1.1.1++p9.1.1.1.2,cs[jT x]? =some x.c/\0<=x.at_/\qo p9.2.2 x.x)/\(∀q∈p9.2.2,w.heap.size<=q.1)/\p9.1.2.1.Fr (dF p9.2.2) [wp,w2,w]/\p9.1.2.1.Fit 1 (p9.1.1.1.1.map λd=>d.at_)/\p9.1.2.2.Fr (dF p9.2.2) [wp,w2,w]/\p9.1.2.2.Fit 36 (p9.1.1.1.1.map λd=>d.x)/\ah [wp,w2,w] p9.2.1.1.1.1/\p9.1.1.1.2.length<=p9.2.1.1.2/\p9.2.1.2.length=(p9.2.1.1.2-p9.1.1.1.2.length)*143/\(p9.1.1.1.2=[]\/p9.2.1.1.1.2=p9.1.1.2.length*143)/\p9.1.1.1.1.length<=cs.length) (λp9=>cs.length-p9.1.1.1.1.length) (((([],[d0]),[]),(.nil,.nil)),(((b22,0),1),[]),F0++[]) ⟨Cv.first jY zx,λx hx=>by(have e:x=d0:=by simpa using hx);subst e;exact⟨zx.at_,zx.nn,hgf.mono (λp hp=>by simp[hp])⟩,λq hq=>(WK q (by simpa using hq)).not A2,True.intro,rfl,True.intro,rfl,by simp only[ah,and_true];omega,by simp,rfl,.inr zJ,by simp⟩ zR rfl rfl zJ ?_
  rintro⟨⟨⟨⟨vs,qs⟩,ps⟩,r1,r2⟩,⟨⟨⟨bq,off⟩,cq⟩,SO⟩,F⟩ ⟨hI,iP,dC,qO,jw,iV,gH,haq,WL,hsq,OD,hvl⟩;dsimp only at hI iP dC qO jw iV gH haq WL hsq OD hvl ⊢;have oH:r1.ge wp.heap.size:=Rw.ge_fz qO A0;have ey:r2.ge wp.heap.size:=Rw.ge_fz iV A0;have apx:wp.heap.size<=bq:=haq.1;refine aG 8 ?_ ?_
  ·intro av;refine B 5 ?_;obtain⟨d,qt,rfl⟩:∃d qt,qs=d::qt:=by cases qs with|nil=>(exfalso;simp at *)|cons d qt=>exact⟨d,qt,rfl⟩
   obtain rfl:off=ps.length*143:=OD.resolve_left zJ;refine B 3 ?_;refine rq (.agg (jm d)) (fH (i:=0) rfl isAgg159 sizeOf159 rfl (nJh (o:=ps.length) (k:=0) FR zJ rfl)) (va (nZf (enc:=oZ) (o:=ps.length) (k:=0) (sp:=SO) FR zJ rfl)) ?_;refine bH 1 ?_;intro gd lT pC;refine B 4 ?_;refine CJ.less (E':=[(2,_),(4,_),(5,_),(6,_),(9,_),(10,_),(23,_),(24,_),(25,_),(28,_),(29,_),(30,_)]) zR ?_;refine dN 9 [3,4,8] [[],[0],[]] (λcv L' H'=>let iY:Nat×Obj:=(b6,oC (Ac Z cs la lc ⟨ia,ic,ta,tc⟩) 156);let eo:ad:=[(gd,oC (jm d) 159),(bq,bj oZ 159 (ps++d::qt) SO),(b7,oC (jm d0) 159),iY]++(r1.hp az 3 (vs.map λd=>d.at_)++(r2.hp lL 53 (vs.map λd=>d.x)++[]));match cv with| [none,none,none]=>L'=[wp,w2,w]/\H'=eo| [none,none,some v8]=>∃(o8:Nat),v8= .slice (ao o8) 1 1/\L'=[wp,w2,w]/\H'=(o8,oC (bF d.x) 53)::eo/\ah [wp,w2,w] o8| [some v3,none,none]=>∃(fG:Nat),v3= .slice (ao fG) 1 1/\L'=[wp,w2,w]/\H'=(fG,oC #[ab d.at_] 3)::eo/\ah [wp,w2,w] fG| [some v3,none,some v8]=>∃(fG:Nat) (o8:Nat),v3= .slice (ao fG) 1 1/\v8= .slice (ao o8) 1 1/\L'=[wp,w2,w]/\H'=(o8,oC (bF d.x) 53)::(fG,oC #[ab d.at_] 3)::eo/\ah [wp,w2,w] fG/\ah [wp,w2,w] o8| [some v3,some v4,none]=>∃(fG:Nat) (ot:Nat) (iv:Nat) (iW:List Value),v3= .slice (ao fG) 1 1/\v4= .slice (ao ot) ((vs.map λd=>d.at_)++[d.at_]).length iv/\L'=[wp,w2,w]/\H'=[(fG,oC #[ab d.at_] 3),(gd,oC (jm d) 159),(bq,bj oZ 159 (ps++d::qt) SO),(b7,oC (jm d0) 159),iY]++((Rw.row ot iv iW).hp az 3 ((vs.map λd=>d.at_)++[d.at_])++(r2.hp lL 53 (vs.map λd=>d.x)++[]))/\ah [wp,w2,w] fG/\(r1.isAt ot\/ah [wp,w2,w] ot)/\(Rw.row ot iv iW).Fit 1 ((vs.map λd=>d.at_)++[d.at_])| [some v3,some v4,some v8]=>∃(fG:Nat) (ot:Nat) (iv:Nat) (iW:List Value) (o8:Nat),v3= .slice (ao fG) 1 1/\v4= .slice (ao ot) ((vs.map λd=>d.at_)++[d.at_]).length iv/\v8= .slice (ao o8) 1 1/\L'=[wp,w2,w]/\H'=[(o8,oC (bF d.x) 53),(fG,oC #[ab d.at_] 3),(gd,oC (jm d) 159),(bq,bj oZ 159 (ps++d::qt) SO),(b7,oC (jm d0) 159),iY]++((Rw.row ot iv iW).hp az 3 ((vs.map λd=>d.at_)++[d.at_])++(r2.hp lL 53 (vs.map λd=>d.x)++[]))/\ah [wp,w2,w] fG/\(r1.isAt ot\/ah [wp,w2,w] ot)/\(Rw.row ot iv iW).Fit 1 ((vs.map λd=>d.at_)++[d.at_])/\ah [wp,w2,w] o8|_=>False) ⟨rfl,rfl⟩ (qm 2 (k:=by exact lD zcs (qm 4 (k:=by exact lD zcs LI)))) ?_ ?_
   ·refine nc rfl rfl ?_ ?_
    ·intro cv L' H' hl hr hP F Q' hk;obtain⟨x3,x4,x8,rfl⟩:=py hl;rcases x3 with _|v3<;>rcases x4 with _|v4<;>rcases x8 with _|v8<;>try exact False.elim hP
     ·obtain⟨rfl,rfl⟩:=hP;refine EL ?_;intro fG ha ho;exact OJ.done (hk _ _ _ ⟨fG,rfl,rfl,rfl,ha⟩)
     ·obtain⟨o8,rfl,rfl,rfl,xp⟩:=hP;refine EL ?_;intro fG ha ho;refine OJ.perm (List.Perm.swap _ _ _) ?_;exact OJ.done (hk _ _ _ ⟨fG,o8,rfl,rfl,rfl,rfl,ha,xp⟩)
     ·exact cN
     ·exact cN
     ·exact cN
     exact cN
    refine nc rfl rfl ?_ ?_
    ·intro cv L' H' hl hr hP F Q' hk;obtain⟨x3,x4,x8,rfl⟩:=py hl;rcases x3 with _|v3<;>rcases x4 with _|v4<;>rcases x8 with _|v8<;>try exact False.elim hP
     ·exact cN
     ·exact cN
     ·obtain⟨fG,rfl,rfl,rfl,jR⟩:=hP;refine kz (r:=r1) (xs:=(vs.map λd=>d.at_)) (zs:=[d.at_]) (enc:=az) (m:=1) (H0:=[(fG,oC #[ab d.at_] 3),(gd,oC (jm d) 159),(bq,bj oZ 159 (ps++d::qt) SO),(b7,oC (jm d0) 159),(b6,oC (Ac Z cs la lc ⟨ia,ic,ta,tc⟩) 156)]) (H1:=r2.hp lL 53 (vs.map λd=>d.x)++[]) zJ OC ny rfl rfl rfl rfl (cD.one (z:=d.at_) ny OE underlying55 (bE.own (i:=0) rfl)) jw qO zJ QY ?_;intro ot iv iW lW iG;exact OJ.done (hk _ _ _ ⟨fG,ot,iv,iW,rfl,rfl,rfl,rfl,jR,lW,iG⟩)
     ·obtain⟨fG,o8,rfl,rfl,rfl,rfl,jR,xp⟩:=hP;refine kz (r:=r1) (xs:=(vs.map λd=>d.at_)) (zs:=[d.at_]) (enc:=az) (m:=1) (H0:=[(o8,oC (bF d.x) 53),(fG,oC #[ab d.at_] 3),(gd,oC (jm d) 159),(bq,bj oZ 159 (ps++d::qt) SO),(b7,oC (jm d0) 159),(b6,oC (Ac Z cs la lc ⟨ia,ic,ta,tc⟩) 156)]) (H1:=r2.hp lL 53 (vs.map λd=>d.x)++[]) zJ OC ny rfl rfl rfl rfl (cD.one (z:=d.at_) ny OE underlying55 (bE.own (i:=1) rfl)) jw qO zJ QY ?_;intro ot iv iW lW iG;exact OJ.done (hk _ _ _ ⟨fG,ot,iv,iW,o8,rfl,rfl,rfl,rfl,rfl,jR,lW,iG,xp⟩)
     ·exact cN
     exact cN
    refine nc rfl rfl ?_ ?_
    ·intro cv L' H' hl hr hP F Q' hk;obtain⟨x3,x4,x8,rfl⟩:=py hl;rcases x3 with _|v3<;>rcases x4 with _|v4<;>rcases x8 with _|v8<;>try exact False.elim hP
     ·obtain⟨rfl,rfl⟩:=hP;refine zAe ?_;intro o8 ha ho;exact OJ.done (hk _ _ _ ⟨o8,rfl,rfl,rfl,ha⟩)
     ·exact cN
     ·obtain⟨fG,rfl,rfl,rfl,jR⟩:=hP;refine zAe ?_;intro o8 ha ho;exact OJ.done (hk _ _ _ ⟨fG,o8,rfl,rfl,rfl,rfl,jR,ha⟩)
     ·exact cN
     ·obtain⟨fG,ot,iv,iW,rfl,rfl,rfl,rfl,jR,lW,iG⟩:=hP;refine zAe ?_;intro o8 ha ho;exact OJ.done (hk _ _ _ ⟨fG,ot,iv,iW,o8,rfl,rfl,rfl,rfl,rfl,jR,lW,iG,ha⟩)
     exact cN
    exact nn
   intro cv L' H' hl hr hP;obtain⟨x3,x4,x8,rfl⟩:=py hl;rcases x3 with _|v3<;>rcases x4 with _|v4<;>rcases x8 with _|v8
   ·exact cN
   ·exact cN
   ·exact cN
   ·exact cN
   ·exact cN
   ·exact cN
   ·exact cN
   obtain⟨fG,ot,iv,iW,o8,rfl,rfl,rfl,rfl,rfl,jR,lW,iG,xp⟩:=hP;simp only[ah]at jR xp lW;refine kz (r:=r2) (xs:=(vs.map λd=>d.x)) (zs:=[d.x]) (enc:=lL) (m:=36) (H0:=[(o8,oC (bF d.x) 53),(fG,oC #[ab d.at_] 3),(gd,oC (jm d) 159),(bq,bj oZ 159 (ps++d::qt) SO),(b7,oC (jm d0) 159),(b6,oC (Ac Z cs la lc ⟨ia,ic,ta,tc⟩) 156)]++(Rw.row ot iv iW).hp az 3 ((vs.map λd=>d.at_)++[d.at_])) (H1:=[]) zX FU Z0 rfl rfl rfl rfl (cD.one (z:=d.x) Z0 nxo underlying75 (bE.own (i:=0) rfl)) gH iV zJ QY ?_;intro b40 SP SQ L9 SR;replace L9:=yb L9;refine aE 6 (.agg (Ac Z cs la lc ⟨ia,ic,ta,tc⟩)) ?_;refine aE 1 (.agg (bF d.x)) ?_;have ajU:Rw.ge wp.heap.size (Rw.row ot iv iW):=lW.elim (λh=>Rw.geA oH h) (λh=>h.1);have ajV:Rw.ge wp.heap.size (Rw.row b40 SP SQ):=L9.elim (λh=>Rw.geA ey h) (λh=>h.1);have sS:wp.heap.size<=ot/\wp.heap.size<=b40:=⟨ajU,ajV⟩;refine Pd (γ:=(Option Addr×Nat)×List Cd) (v:=λx=>.slice x.1.1 x.2.length x.1.2) (Φ:=λF x=>x.2.map jT=Ba Z cs d.x.g/\(∀y∈x.2,tR Z cs d.x.g y/\qo F y.x)/\iK jm 143 F x.1.1 x.2) call63 rfl rfl rfl (λW hS=>nxi hZ cs bW dE W.heap.size la lc W (aj _) (aH.up cJ (hS.same A2 hN zH zeb)) (λc hc=>(hC c hc).up cJ (hS.same A2 hN zH zeb)) ia ic ta tc (Gc.toO (hS.links wp A0).size (hS.same A0 (aj _) zH zeb)) d.x ((iP d zJ).2.2.lies hS.fzLies) (hg.old hS A2 zH zeb)) ?_
   rintro⟨⟨a2,c2⟩,ds⟩ F2 ⟨bX,hd2,hs2⟩ Pb;dsimp only at bX hd2 hs2 ⊢;have uQ:ds.length<=1000:=by have h9:=hI.step.qi.len;simp only[cO,eO,dO,fO]at h9;have h8:=congrArg List.length (n6n bX (λx hx=>(hd2 x hx).1));rw[eO]at h8;omega
   refine apO (enc:=oZ) (m:=143) (H0:=[(o8,oC (bF d.x) 53),(fG,oC #[ab d.at_] 3),(gd,oC (jm d) 159)]) (H1:=[(b7,oC (jm d0) 159),(b6,oC (Ac Z cs la lc ⟨ia,ic,ta,tc⟩) 156)]++((Rw.row ot iv iW).hp az 3 ((vs.map λd=>d.at_)++[d.at_])++((Rw.row b40 SP SQ).hp lL 53 ((vs.map λd=>d.x)++[d.x])++[]))) (ps:=ps) (xs:=d::qt) (zs:=ds) rfl FV FR rfl rfl rfl rfl rfl (cD.slF FR nsk underlying162 hs2 (λp hp=>aY.2 (.inl hp))) WL hsq (.inr haq) (by have h9:=hI.qi.len;simp only[eO,dO]at h9 ⊢;omega) ?_;intro bq2 cq2 ps2 ajW ajX SS ajY;have ajZ:wp.heap.size<=bq2/\w2.heap.size<=bq2/\w.heap.size<=bq2:=by rcases ajX with h|h;(subst h;simp only[ah]at haq;omega);(simp only[ah]at h;omega)
   refine B 6 ?_;refine rq (.slice (some ⟨bq2,(if cq2=1 then ps2.length*143 else ps2.length*143+1*143),none⟩) (qt++ds).length (cq2-1)) (gu (l:=1) (h:=(d::qt++ds).length) underlying162 sizeOf159 rfl ⟨_,_,rfl,rfl⟩ rfl zJ (by exact SS) rfl) zJ ?_;refine B 2 ?_;refine vC ?_;refine qF ?_;refine PJ.again ((((vs++[d],qt++ds),ps2++[d]),(Rw.row ot iv iW,Rw.row b40 SP SQ)),(((bq2,(if cq2=1 then ps2.length*143 else ps2.length*143+1*143)),cq2-1),ajW),F2++F) ⟨by dsimp only;rw[gL,gL,n6n bX (λx hx=>(hd2 x hx).1)];exact hI.step,
    λx hx=>by dsimp only at hx ⊢;rw[show(vs++[d])++(qt++ds)=(vs++d::qt)++ds by simp]at hx;rcases aY.1 hx with h|h;(exact⟨(iP x h).1,(iP x h).2.1,(iP x h).2.2.mono (λp hp=>aY.2 (.inr hp))⟩);exact⟨(hd2 x h).1.at_,(hd2 x h).1.nn,(hd2 x h).2.mono (λp hp=>aY.2 (.inl hp))⟩,
    λq hq=>(aY.1 hq).elim (λh=>(Pb q h).not A2) (dC q),
    lW.elim (λh=>.inr (by have:=Rw.Fr_at qO h;exact this.elim (λh=>h.elim) id)) (λh=>.inr h),by dsimp only;rw[gL];exact iG,
    L9.elim (λh=>.inr (by have:=Rw.Fr_at iV h;exact this.elim (λh=>h.elim) id)) (λh=>.inr h),by dsimp only;rw[gL];exact SR,
    ajZ.imp id (λh=>⟨h.1,h.2,True.intro⟩),by dsimp only;simp only[cO,dO]at SS ⊢;omega,by dsimp only;rw[ajY];congr 1;simp only[cO,dO];omega,
    by dsimp only;by_cases h9:cq2=1;(left;apply my;simp only[cO,dO]at SS ⊢;omega);(right;rw[if_neg h9];simp only[cO,dO,fO];omega),
    by dsimp only;have h9:=hI.qi.len;simp only[eO,dO,cO,fO]at h9 ⊢;omega⟩ (by dsimp only;have h9:=hI.qi.len;simp only[eO,dO,cO,fO]at h9 ⊢;omega) ⟨rfl,by rw[gL];rfl,by rw[gL];rfl,rfl,rfl,trivial⟩ oV rfl zJ
  intro av;refine B 14 ?_;have hq0:qs=[]:=my aa;subst hq0;refine bQ (.inl rfl) results33 bB λW hS=>?_;have Ag:r1.At az 3 (vs.map λd=>d.at_) W:=by
   exact zoi
  have Sl:r2.At lL 53 (vs.map λd=>d.x) W:=by
   exact zni
  obtain⟨a1,c1,uu,uJ⟩:=Rw.sl ny jw Ag (aj W.heap.size);obtain⟨a3,c3,Yn,Bb⟩:=Rw.sl Z0 gH Sl (aj W.heap.size);obtain⟨F1,wB,uJ⟩:=uJ.fs (K:=w.heap.size) (Rw.val_new (Rw.ge_mono oH aa) uu);obtain⟨F3,hF3,Bb⟩:=Bb.fs (K:=w.heap.size) (Rw.val_new (Rw.ge_mono ey aa) Yn);refine⟨(((a1,c1),(a3,c3)),vs),F1++(F3++F),?_,?_,λp hp=>?_,⟨hI.done,hvl,λx hx=>⟨(iP x (by simpa using hx)).1,(iP x (by simpa using hx)).2.1,(iP x (by simpa using hx)).2.2.mono (λp hp=>by simp[hp])⟩⟩,uJ.mono (λp hp=>by simp[hp]),Bb.mono (λp hp=>by simp[hp])⟩
  ·show Ending.returned (.tuple #[r1.val _,r2.val _])=_;rw[uu,Yn];simp
  ·exact(hS.links w A2).below (λk hk hx=>by rcases hx with hx|hx;(exact hx);simp only[ee,gL,dL,ft,aY,cd,dV,or_false]at hx;rcases hx with(hx|hx|hx)|hx|hx<;>first|omega|(have:=haq.2.2.1;omega)|(have:=Rw.mem_ge oH hx;omega)|(have:=Rw.mem_ge ey hx;omega))
  rcases aY.1 hp with hp|hp
  ·exact wB p hp
  rcases aY.1 hp with hp|hp
  ·exact hF3 p hp
  exact⟨dC p hp,(hS.fzLies p hp).2⟩
 refine B 2 ?_;refine Lq ?_;refine bQ (.inl rfl) results33 bB λW hS=>?_;refine⟨(((none,0),(none,0)),[]),[],rfl,(hS.links w A2).below (λk hk hx=>?_),by simp,⟨by rw[Cv.none tG];rfl,by simp,by simp⟩,.inl rfl,.inl rfl⟩;rcases hx with hx|hx
 ·exact hx
 simp only[dx,dL,ft,cd,dV,or_false]at hx;omega
theorem n2l(p:Gv->Bool)(f:Nat)(cap:List Value)(aA:eU prog f)(xs:List Gv)(hxl:xs.length<=1000000)(N:Nat)(a:Option Addr)(cp:Nat)(w:World)(hN:N<=w.heap.size)(aH:ai bF 36 N w a xs)(hp:∀(j:Nat) (x:Gv),xs[j]? =some x->∀W,Below w.heap.size w W->Calls prog f (.agg (bF x)::cap).toArray W (aP W (.bool (p x)))):Calls prog 55 #[.slice a xs.length cp,.func (.func f) #[] cap.toArray] w (cZ w (λi:Int=>ab i) (λi _=>fF p xs i)):=by
 refine eN func55 ntmps55 ?_;refine VO ?_;rintro j ⟨hj,dP⟩;refine aG 6 ?_ ?_
 ·intro av;refine B 11 ?_;obtain⟨bo,oo,cs0,to,fC,rfl,fE,bW,aS⟩:=aH.get aa;obtain⟨x,hx⟩:=ng xs j aa;refine aE 5 (.agg (bF x)) ?_;refine VP ?_;refine uh ?_ ?_
  ·intro aR;refine B 12 ?_;refine sQ (j:Int) results55 rfl A0 rfl ?_;exact VQ
  exact VR
 intro av;refine B 11 ?_;refine sQ (-1:Int) results55 rfl A0 rfl ?_;exact VS
structure Pl where
 c:Cm
 fst:Bool
 ns:List Nd
 ta:Option Addr
 tc:Nat
 x:Gv
def kU (p:Pl):Array Value:=(ab p.c.folder::ab p.c.epoch::lJ p.c.par (ab p.c.author:: .slice p.c.ca p.c.chs.length p.c.cc:: .slice p.c.pa p.c.path.length p.c.pc:: .slice p.c.ba p.c.bxs.length p.c.bc:: .slice p.c.wa p.c.wes.length p.c.wc::lJ p.c.conf (ab p.c.sr::ab p.c.ss:: .bool p.fst:: .slice p.ta p.ns.length p.tc::ab p.x.g.folder::ab p.x.g.epoch::lJ p.x.g.last [.slice p.x.ma p.x.g.ms.length p.x.mc,.slice p.x.na p.x.g.ns.length p.x.nc]))).toArray
def Ak (p:Pl):List Value:=(ab p.c.folder::ab p.c.epoch::lJ p.c.par (ab p.c.author:: .slice p.c.ca p.c.chs.length p.c.cc:: .slice p.c.pa p.c.path.length p.c.pc:: .slice p.c.ba p.c.bxs.length p.c.bc:: .slice p.c.wa p.c.wes.length p.c.wc::lJ p.c.conf (ab p.c.sr::ab p.c.ss:: .bool p.fst:: .slice p.ta p.ns.length p.tc::ab p.x.g.folder::ab p.x.g.epoch::lJ p.x.g.last [.slice p.x.ma p.x.g.ms.length p.x.mc,.slice p.x.na p.x.g.ns.length p.x.nc])))
theorem nOd(p:Pl):(Ak p).length=111:=rfl
theorem nHj(p:Pl):∀u∈Ak p,u.oneCell'=true:=LC rfl
theorem Ma:prog.info? 92=some Tryz.t92:=by kernel_rfl
theorem nlm:jN prog 89 92 111:=⟨underlying89,Tryz.t92,.agg (ab 0::ab 0::um (ab 0::ak::ak::ak::ak::um (ab 0::ab 0::bG::ak::ab 0::ab 0::um [ak,ak]))).toArray,Ma,rfl,rfl,rfl,by decide⟩
structure Du (F:ad) (p:Pl):Prop where
 ns:iK fV 2 F p.ta p.ns
 nn:p.ns.length<=90000
 x:qo F p.x
theorem Du.mono{F':ad}{p:Pl}(h:Du F p)(hF:∀q∈F,q∈F'):Du F' p:=⟨h.ns.mono hF,h.nn,h.x.mono hF⟩
noncomputable def qS (gs:List Gp) (k:Nat) (c:Cm):List Nd:=if 0<k then(match gs.find? (λg=>iA g.last c.par)with|some g=>g.ns|none=>[])else[]
abbrev Ap:=Cm×Bool×List Nd×Gp
noncomputable def Cw (cs:List Cm) (gs:List Gp) (k:Nat) (q:Nat×Gp):Ap:=(iQ cs q.1,decide (k=0),aN (qS gs k (iQ cs q.1)) (iQ cs q.1).chs,q.2)
noncomputable def me (cs:List Cm) (l:List (Nat×Gp)):Nat->List Ap
 |0=>[]
 |j+1=>match l[j]? with|none=>me cs l j|some q=>me cs l j++[Cw cs (l.map (·.2)) j q]
noncomputable def xq (Z:Fx) (cs:List Cm) (fo:Fo):List Ap:=me cs (gI Z cs fo) (gI Z cs fo).length
noncomputable def eQ (Z:Fx) (cs:List Cm) (fos:List Fo):List Ap:=fos.flatMap (xq Z cs)
theorem njf{l:List (Nat×Gp)}(h:l[j]? =some q):me cs l (j+1)=me cs l j++[Cw cs (l.map (·.2)) j q]:=by conv=>lhs;unfold me;rw[h]
theorem GK(cs:List Cm)(l:List (Nat×Gp)):∀j,(me cs l j).length<=j:=
 by intro x;induction x<;>(intros;grind [me])
theorem nJk{fos:List Fo}(h:fos[i]? =some fo):eQ Z cs (fos.take (i+1))=eQ Z cs (fos.take i)++xq Z cs fo:=by unfold eQ;rw[np h];simp
def aV (p:Pl):Ap:=(p.c,p.fst,p.ns,p.x.g)
theorem n2n{Z:Fx}{cs:List Cm}{P:Nat×Gp->Prop}(hs:∀p,P p->∀q∈yo Z cs p,P q):∀(n:Nat) (qs:List (Nat×Gp)),(∀p∈qs,P p)->∀p∈th Z cs n qs,P p
 |0,_,_,p,hp=>by simp[th]at hp
 |n+1,[],_,p,hp=>by simp[th]at hp
 |n+1,q::qs,h,p,hp=>by
  unfold th at hp;rcases cd.1 hp with rfl|hp
  ·exact h _ A0
  exact n2n hs n _ (λx hx=>(aY.1 hx).elim (λh1=>h x (.tail _ h1)) (λh1=>hs q (h q A0) x h1)) p hp
def Led (Z:Fx) (cs:List Cm) (p:Nat×Gp):Prop:=∃g c,cs[p.1]? =some c/\iy Z g c=0/\p.2=kr Z g c
theorem nog:∀p∈gI Z cs fo,Led Z cs p:=by
 intro p hp;unfold gI at hp;split at hp
 ·cases hp
 rename_i i hi;refine n2n (P:=Led Z cs) (λq _ r hr=>?_) _ _ (λq hq=>?_) p hp
 ·obtain⟨j,hj,rfl⟩:=bT.1 hr;obtain⟨c,h1,_,_,h4⟩:=nWh hj;exact⟨q.2,c,h1,h4,by show kr Z q.2 (iQ cs j)=_;unfold iQ;rw[h1];rfl⟩
 rw[gh]at hq;subst hq;unfold sZ at hi;rw[Option.bind_eq_some_iff]at hi;obtain⟨j,h1,h2⟩:=hi;split at h2
 ·rename_i h0;have:=Option.some.inj h2;subst this;unfold LU at h1;split at h1
  ·cases h1
  rw[wv]at h1;obtain⟨r,hr,e1⟩:=h1;obtain⟨k,c,f1,_,f3,_⟩:=Sk Z cs _ r (cA hr);rw[f1,xU]at e1;subst e1;have e2:iQ cs k=c:=by unfold iQ;rw[f3];rfl
  rw[e2]at h0;exact⟨g0 fo,c,f3,h0,by rw[e2]⟩
 cases h2
theorem nco(h:iy Z g c=0):jP c.chs=true:=by grind [iy,fk,xZ]
theorem WM{α:Type}{p:α->Bool}{xs:List α}{i:Int}(h:fF p xs i):(i= -1/\xs.find? p=none)\/∃(j:Nat) (x:α),i=(j:Int)/\xs[j]? =some x/\xs.find? p=some x:=by
 rcases h with⟨h1,h2⟩|⟨j,x,h1,h2,h3,h4⟩
 ·exact .inl ⟨h1,List.find?_eq_none.2 λx hx=>by have:=List.any_eq_false.1 h2 x hx;simpa using this⟩
 refine .inr ⟨j,x,h1,h2,List.find?_eq_some_iff_append.2 ⟨h3,xs.take j,xs.drop (j+1),?_,λy hy=>?_⟩⟩
 ·obtain⟨g1,g2⟩:=gW.1 h2;rw[<-g2,List.getElem_cons_drop,AV]
 obtain⟨k,hk⟩:=jG.1 hy;have hl:=nq hk;rw[jM]at hl;rw[RX aa]at hk;simp[h4 k y aa hk]
theorem nyg{gs:List Gv}:(gs.map (·.g)).find? (λg=>iA g.last c.par)=(gs.find? (λx=>iA x.g.last c.par)).map (·.g):=by rw[List.find?_map];rfl
theorem lE{C:Cx}{E:Env}{T off n:Nat}{x:Operand}{cs:Array Value}(hA:fe C.P T true)(hZ:nL C.P T n)(hx:ev E x=some (ptr b off))(hb:(b,Obj.cells cs t fr)∈F)(hn:off+n<=cs.size):RV C (dF F) L H E (.load T x) (.agg (cut cs off n)):=
 λ_ _ _ _ _ _ _ hF hS=>nSg hA hZ (hF.ev hx) (hS.fzLies _ hb).2 hn
theorem Bc{C:Cx}{E:Env}{T off:Nat}{x:Operand}{cs:Array Value}(hA:fe C.P T false)(hx:ev E x=some (ptr b off))(hb:(b,Obj.cells cs t fr)∈F)(hv:cs[off]? =some v):RV C (dF F) L H E (.load T x) v:=
 λ_ _ _ _ _ _ _ hF hS=>nVg hA (hF.ev hx) (hS.fzLies _ hb).2 hv
theorem iK.get{α:Type}{enc:α->Array Value}{n:Nat}{xs:List α}(h:iK enc n F a xs)(h0:0<xs.length):∃b off cs t fr,a=some ⟨b,off,none⟩/\(b,Obj.cells cs t fr)∈F/\∀i (h:i<xs.length),off+i*n+n<=cs.size/\cut cs (off+i*n) n=enc xs[i]:=by
 rcases h with h|h
 ·subst h;simp at h0
 exact h
theorem St.fzB{F':ad}(hS:St (dF F) L H W)(wD:∀p∈F',W.heap[p.1]? =some p.2/\p.1∉H.map (·.1)):St (dF (F'++F)) L H W:=by
 refine⟨λp hp=>?_,λk hk=>?_,λk hk=>hk.elim,hS.links,hS.own,hS.nodup,λp hp hv=>?_⟩
 ·rcases aY.1 hp with hp|hp
  ·exact(wD p hp).1
  exact hS.ghost p hp
 ·obtain⟨p,hp,rfl⟩:=bT.1 hk;rcases aY.1 hp with hp|hp
  ·exact(bA.1 (wD p hp).1).1
  exact hS.vlt p.1 (bT.2 ⟨p,hp,rfl⟩)
 obtain⟨q,hq,e⟩:=bT.1 hv;rcases aY.1 hq with hq|hq
 ·exact(wD q hq).2 (bT.2 ⟨p,hp,e.symm⟩)
 exact hS.apart p hp (bT.2 ⟨q,hq,e⟩)
theorem OJ.fzB{C:Cx}{Q:bC}{E:Env}{D:List Deferred}{ops:Array Oper}{l:List Oper}{L':List World}(F':ad)(h:∀W,St (dF F) L H W->∀p∈F',W.heap[p.1]? =some p.2/\p.1∉H.map (·.1))(hs:∀w∈L',w∈L)(k:OJ C ops Q l E D (dF (F'++F)) L' H):OJ C ops Q l E D (dF F) L H:=
 λa W hN hD hF hS=>k a W hN hD hF ((hS.fzB (h W hS)).lessL hs)
theorem GL(c:Cm)(b:Nat)(x:Gv)(w:World)(hb1:w.heap[b]? =some (oC (cM c) 61)):Calls prog 56 #[.agg (bF x),ptr b 0] w (aP w (.bool (iA x.g.last c.par))):=by
 have cK:¬Gh.no.X b:=λh=>h;have mw:=(bA.1 hb1).1;refine eN func56 ntmps56 ?_;refine cH 2 ?_;intro b2 w2 dw bX fB dJ dH;refine aE 6 (.agg (dg x.g.last)) ?_;refine aE 1 (.agg (dg c.par)) ?_;refine rv rfl rfl rfl (gG nO zA nF rfl rfl rfl) ?_;refine B 4 ?_;refine aK results56 rfl A1 ?_;rfl
theorem nbi(hZ:FxOk Z)(cs:List Cm)(bW:cs.length<=1000)(dE:∀c∈cs,bN c)(N:Nat)(la:Option Addr)(lc:Nat)(w:World)(hN:N<=w.heap.size)(aH:ai cM 73 N w la cs)(hC:∀c∈cs,dB N w c)(fa:Option Addr)(fos:List Fo)(fc:Nat)(jl:fos.length<=10)(mA:cs.length<=10)(qT:ai qR 33 N w fa fos)(o1 o3 o4 o5 o6 o7:Value)(hg:Glb w):Calls prog 30 #[.agg #[.slice fa fos.length fc,o1,.slice la cs.length lc,o3,o4,o5,o6,o7]] w (λe w'=>∃(q:(Option Addr×Nat)×List Pl) (F':ad),e= .returned (.slice q.1.1 q.2.length q.1.2)/\Below w.heap.size w w'/\(∀p∈F',w.heap.size<=p.1/\w'.heap[p.1]? =some p.2)/\q.2.map aV=eQ Z cs fos/\(∀p∈q.2,Du F' p/\p.c∈cs)/\q.2.length<=100/\iK (λx=>(Ak x).toArray) 111 F' q.1.1 q.2):=by
 have hg4:=hg.lt;refine nB (dF []) [] (vs:=[_]) func30 rfl ntmps30 rfl (Lm w) ?_;refine cH 2 ?_;intro b1 w1 hb1 cK gS fX jK;refine B 13 ?_;refine CJ.loop (α:=((Rw×List Pl)×ad)×Nat) (λp9=>[(1,ptr b1 0),(2,p9.1.1.1.val p9.1.1.2.length),(13,.slice fa fos.length fc),(14,ab (fos.length:Int)),(15,ab (p9.2:Int))]) (λp9=>p9.1.1.1.hp Ak 92 p9.1.1.2++[]) (λp9=>[w1,w]) (λp9=>dF p9.1.2) (λp9=>p9.2<=fos.length/\p9.1.1.1.Fr (dF p9.1.2) [w1,w]/\p9.1.1.1.Fit 111 p9.1.1.2/\p9.1.1.2.map aV=eQ Z cs (fos.take p9.2)/\(∀p∈p9.1.1.2,Du p9.1.2 p/\p.c∈cs)/\p9.1.1.2.length<=p9.2*10/\∀q∈p9.1.2,w.heap.size<=q.1) (λp9=>fos.length-p9.2) (((.nil,[]),[]),0) ⟨cY _,True.intro,rfl,rfl,by simp,aj _,by simp⟩ zR rfl rfl zJ ?_;rintro⟨⟨⟨r,pls⟩,F⟩,i⟩ ⟨hi,aM,ae,aW,gV,gj,dC⟩;dsimp only at hi aM ae aW gV gj dC ⊢;have bJ:r.ge w1.heap.size:=Rw.ge_fz aM A0;refine aG 6 ?_ ?_
 ·intro av;refine B 5 ?_;obtain⟨bf,of,csf,tf,frf,rfl,GM,aaD,SU⟩:=qT.get aa;obtain⟨fo,sY⟩:=ng fos i aa;refine aE 2 (.agg (qR fo)) ?_;refine bH 1 ?_;intro b4 iT iU;refine aE 5 (.agg (qR fo)) ?_;refine aE 1 (.slice la cs.length lc) ?_;refine Pd (γ:=((Option Addr×Nat)×(Option Addr×Nat))×List Cd) (v:=λq=>.tuple #[.slice q.1.1.1 q.2.length q.1.1.2,.slice q.1.2.1 q.2.length q.1.2.2]) (Φ:=λF' q=>AlV Z cs fo F' q.2/\iK (λx=>(az x).toArray) 1 F' q.1.1.1 (q.2.map λd=>d.at_)/\iK (λx=>(lL x).toArray) 36 F' q.1.2.1 (q.2.map λd=>d.x)) call33 rfl rfl rfl (λW hS=>n5h hZ cs bW dE N la lc W cJ (aH.up (aj _) (hS.same A1 hN zH zD)) (λc hc=>(hC c hc).up (aj _) (hS.same A1 hN zH zD)) fo (hg.old hS A1 zH zD)) ?_;rintro⟨⟨⟨a1,c1⟩,⟨a3,c3⟩⟩,ds⟩ F1 ⟨hv,uJ,Bb⟩ wB;dsimp only at hv uJ Bb ⊢;have Bb:iK bF 36 F1 a3 (ds.map λd=>d.x):=Bb;have uQ:=hv.len;refine B 15 ?_;refine CJ.loop (α:=((Rw×List Pl)×ad)×Nat) (λp8=>[(1,ptr b1 0),(2,p8.1.1.1.val p8.1.1.2.length),(5,.slice a1 ds.length c1),(6,.slice a3 ds.length c3),(13,.slice (some ⟨bf,of,none⟩) fos.length fc),(14,ab (fos.length:Int)),(15,ab (i:Int)),(26,.slice a1 ds.length c1),(27,ab (ds.length:Int)),(28,ab (p8.2:Int))]) (λp8=>[(b4,oC (qR fo) 97)]++(p8.1.1.1.hp Ak 92 p8.1.1.2++[])) (λp8=>[w1,w]) (λp8=>dF p8.1.2) (λp8=>(p8.2<=ds.length/\∀q∈F1,q∈p8.1.2)/\p8.1.1.1.Fr (dF p8.1.2) [w1,w]/\p8.1.1.1.Fit 111 p8.1.1.2/\p8.1.1.2.map aV=eQ Z cs (fos.take i)++me cs (ds.map qq) p8.2/\(∀p∈p8.1.1.2,Du p8.1.2 p/\p.c∈cs)/\p8.1.1.2.length<=i*10+p8.2/\∀q∈p8.1.2,w.heap.size<=q.1) (λp8=>ds.length-p8.2) (((r,pls),F1++F),0) ⟨⟨cY _,λq hq=>aY.2 (.inl hq)⟩,aM,ae,by dsimp only;rw[aW];exact(ee _).symm,λp hp=>⟨(gV p hp).1.mono (λq hq=>aY.2 (.inr hq)),(gV p hp).2⟩,by dsimp only;omega,λq hq=>(aY.1 hq).elim (λh=>(wB q h).not A1) (dC q)⟩ zR rfl rfl zJ ?_
  rintro⟨⟨⟨r,pls⟩,F⟩,j⟩ ⟨⟨hj,jb⟩,aM,ae,aW,gV,gj,dC⟩;dsimp only at hj jb aM ae aW gV gj dC ⊢;have bJ:r.ge w1.heap.size:=Rw.ge_fz aM A0;refine aG 6 ?_ ?_
  ·intro aR;refine B 5 ?_;obtain⟨d,hd⟩:=ng ds j aa;have lq:=hv.d d (cA hd);have Pk:d.c∈cs:=cA lq.1;have hdi:d.at_=((jT d:Nat):Int):=by have:=lq.2.1;unfold jT;omega
   obtain⟨g9,c9,ph,he9,_⟩:=nog (qq d) (hv.eq▸bT.2 ⟨d,cA hd,rfl⟩);obtain rfl:c9=d.c:=by have h9:cs[jT d]? =some c9:=ph;rw[lq.1]at h9;exact(Option.some.inj h9).symm
   have uH:=Zj (nco he9);have hax:(ds.map λd=>d.at_)[j]? =some d.at_:=by rw[mY,hd];rfl
   have Al:(ds.map λd=>d.x)[j]? =some d.x:=by rw[mY,hd];rfl
   have GN:(ds.map qq).map (·.2)=(ds.map λd=>d.x).map (·.g):=by rw[List.map_map,List.map_map];rfl
   obtain⟨ba,oa,csa,ta1,fra,rfl,Sx,Gg⟩:=(uJ.mono jb).get (by rw[eO];omega);obtain⟨bg,og,csg,tg1,frg,rfl,Cy,kN⟩:=(Bb.mono jb).get (by rw[eO];omega);have aj6:=nq lq.1;obtain⟨bl,ol,csl,tl,frl,rfl,jr,tS,mI⟩:=aH.get aa;refine B 3 ?_;refine rv rfl rfl rfl (Bc (v:=ab d.at_) isAgg3 rfl Sx zOc) ?_;refine aE 7 (.slice (some ⟨bl,ol,none⟩) cs.length lc) ?_;refine rq (ab ((jT d:Nat):Int)) (pO rfl) ((congrArg ab hdi)) ?_;refine B 1 ?_;refine rq (.agg (cM d.c)) (dy isAgg61 sizeOf61 rfl A1 tS zI zz (dc mI lq.1 rfl)) (va (dU mI lq.1 rfl)) ?_;refine bH 1 ?_;intro b9 xP uj;refine B 6 ?_;intro gd lT pC;replace lT:=yb lT;refine B 7 ?_;refine nv (α:=Int) (v:=λi:Int=>ab i) (Φ:=λ_ i _=>fF (λy=>iA y.g.last d.c.par) (ds.map λd=>d.x) i) call55 rfl rfl rfl (λW hS=>?_) ?_
   ·have zw:=hS.own (b9,_) A1;have h9:=n2l (λy=>iA y.g.last d.c.par) 56 [ptr b9 0] call56 (ds.map λd=>d.x) (by rw[eO];omega) W.heap.size (some ⟨bg,og,none⟩) c3 W (aj _) ((Bb.mono jb).at hS.fzLies) (λj x hx W2 hB=>GL d.c b9 x W2 (by rw[hB.block b9 (bA.1 zw).1];exact zw));rw[eO]at h9;exact h9
   intro Wi ix wi Fa Fb Dw;refine B 8 ?_;refine ni (t:=43) rfl (λdm=>?_) (λdm=>?_)
   ·replace dm:=ya dm;refine aG 5 ?_ ?_
    ·intro je;obtain⟨n,xb,rfl,WN,hfb⟩:=(WM Dw).resolve_left (λh=>by have:=h.1;omega);have Pm:0<j:=by omega
     have wZ:=nq WN;rw[eO]at wZ;refine B 4 ?_;refine rq (.agg (bF xb)) (lE isAgg53 sizeOf53 rfl (Cy) (dc kN WN rfl)) (va (dU kN WN rfl)) ?_;refine B 3 ?_;have GM:qS ((ds.map qq).map (·.2)) j d.c=xb.g.ns:=by unfold qS;rw[if_pos Pm,GN,nyg,hfb];rfl
     obtain⟨db,hdb,hxe⟩:=bT.1 (cA WN);have CA:qo F xb:=by rw[<-hxe];exact(hv.d db hdb).2.2.mono (λp hp=>jb p hp)
     have hnn:=CA.nn;refine eS 15 8 [13,14] (pb:=by exact zU 3 (k:=by exact aJ (X.v (RV.re (v':=.bool (decide (j=0))) (kY rfl rfl) ((vb (decide_eq_decide.2 aa))))) (zU 8 (k:=by exact aJ (X.v (RV.re (v':=.agg (bF d.x)) (lE isAgg53 sizeOf53 rfl (Cy) (dc kN Al rfl)) (va (dU kN Al rfl)))) zT)))) (sp:=[_,some (.agg (cM d.c)),_,_,_,some (.agg #[.slice xb.na xb.g.ns.length xb.nc]),_,some (.slice d.c.ca d.c.chs.length d.c.cc),_,_,_,_,some (.agg (bF d.x)),_,_]) (h:=?_);intro _ _ hk;refine nv (α:=Option Addr×Nat) (v:=λq=>.agg #[.slice q.1 (aN xb.g.ns d.c.chs).length q.2]) (Φ:=λW q w1=>ai fV 2 w1.heap.size w1 q.1 (aN xb.g.ns d.c.chs)/\((d.c.chs=[]/\q=(xb.na,xb.nc))\/∀b off,q.1=some ⟨b,off,none⟩->W.heap.size<=b)) call57 rfl rfl rfl (λW hS=>nzg xb.g.ns aa d.c.chs uH.2 uH.1 W.heap.size xb.na xb.nc d.c.ca d.c.cc W (aj _) (CA.lies hS.fzLies).ns ((hC d.c Pk).chs.up cJ (hS.same A2 hN zH zD))) ?_;rintro W9 ⟨q1,q2⟩ w8 cC xY ⟨xX,uB⟩;dsimp only at xX uB;have o9:w.heap.size<=(W9.heap.size):=(cC.links w A2).size;have hK2:(∀p∈(([(gd,oC (bF xb) 53),(b9,oC (cM d.c) 61),(b4,oC (qR fo) 97)]:ad)++(r.hp Ak 92 pls++[]):ad),p.1<(W9.heap.size)):=λp hp=>cC.lt p hp;refine zG ?_;intro _ _ hk;refine dp (.agg (kU (⟨d.c,decide (j=0),aN xb.g.ns d.c.chs,q1,q2,d.x⟩:Pl))) ?_
     refine zG ?_;intro _ _ hk;refine zze ?_;intro WO xr iw;refine zE ?_;replace xr:=yb xr;obtain⟨FT,SV,hsT⟩:∃FT:ad,(∀p∈FT,(W9.heap.size)<=p.1/\p.1<w8.heap.size/\w8.heap[p.1]? =some p.2)/\iK fV 2 (FT++F) q1 (aN xb.g.ns d.c.chs):=by
      rcases uB with⟨h1,h2⟩|h2
      ·exact z6g
      by_cases h0:aN xb.g.ns d.c.chs=[]
      ·exact⟨[],by simp,.inl h0⟩
      exact zkg
     refine OJ.fzB (L':=[w1,w]) FT (λW hS p hp=>?_) zJ ?_
     ·have h1:=SV p hp;have hn:p.1∉List.map (·.1) ([(WO,oC (kU (⟨d.c,decide (j=0),aN xb.g.ns d.c.chs,q1,q2,d.x⟩:Pl)) 92),(gd,oC (bF xb) 53),(b9,oC (cM d.c) 61),(b4,oC (qR fo) 97)]++(r.hp Ak 92 pls++[]):ad):=by
       intro hm;obtain⟨p9,hp9,e9⟩:=bT.1 hm;rcases cd.1 hp9 with h2|h2
       ·rw[h2]at e9;dsimp only at e9;omega
       have:=hK2 p9 h2;omega
      exact⟨((hS.links w8 A0).block p.1 h1.2.1 (λhx=>hx.elim zI (λh=>hn h))).trans h1.2.2,hn⟩
     refine kz (r:=r) (xs:=pls) (zs:=[(⟨d.c,decide (j=0),aN xb.g.ns d.c.chs,q1,q2,d.x⟩:Pl)]) (enc:=Ak) (m:=111) (H0:=[(WO,oC (kU (⟨d.c,decide (j=0),aN xb.g.ns d.c.chs,q1,q2,d.x⟩:Pl)) 92),(gd,oC (bF xb) 53),(b9,oC (cM d.c) 61),(b4,oC (qR fo) 97)]) (H1:=[]) zX nlm nOd rfl rfl rfl rfl (cD.one (z:=(⟨d.c,decide (j=0),aN xb.g.ns d.c.chs,q1,q2,d.x⟩:Pl)) nOd nHj underlying89 (bE.own (i:=0) rfl)) ae aM zJ y9 ?_;intro b66 GO GP sx sy;replace sx:=yb sx;refine zc ?_;refine qF ?_;refine PJ.again (((Rw.row b66 GO GP,pls++[(⟨d.c,decide (j=0),aN xb.g.ns d.c.chs,q1,q2,d.x⟩:Pl)]),FT++F),j+1) ⟨⟨by dsimp only;omega,λq hq=>aY.2 (.inr (jb q hq))⟩,sx.elim (λh=>Rw.Fr_at aM h) (λh=>.inr zC),sy,by dsimp only;rw[njf (q:=qq d) (by rw[mY,hd];rfl),gL,aW,jh];congr 2;unfold Cw;rw[show iQ cs (qq d).1=d.c by show iQ cs (jT d)=d.c;unfold iQ;rw[lq.1];rfl,GM];rfl,
      λp hp=>(aY.1 hp).elim (λh=>⟨(gV p h).1.mono (λq hq=>aY.2 (.inr hq)),(gV p h).2⟩) (λh=>by rw[gh.1 h];exact⟨⟨hsT,by have:=OT d.c.chs xb.g.ns;dsimp only;omega,lq.2.2.mono (λq hq=>aY.2 (.inr (jb q hq)))⟩,Pk⟩),by dsimp only;rw[cO];simp only[dO,fO];omega,λq hq=>(aY.1 hq).elim (λh=>by have:=(SV q h).1;omega) (dC q)⟩ zW zR rfl rfl zJ
    intro je;refine B 2 ?_;have GM:qS ((ds.map qq).map (·.2)) j d.c=gf.g.ns:=by
     exact zSg
    have CA:qo F gf:=⟨.inl rfl,.inl rfl,by simp[gf,uG],by simp[gf,uG]⟩;have hnn:=CA.nn;refine eS 15 8 [13,14] (pb:=by exact zU 3 (k:=by exact aJ (X.v (RV.re (v':=.bool (decide (j=0))) (kY rfl rfl) ((vb (decide_eq_decide.2 aa))))) (zU 8 (k:=by exact aJ (X.v (RV.re (v':=.agg (bF d.x)) (lE isAgg53 sizeOf53 rfl (Cy) (dc kN Al rfl)) (va (dU kN Al rfl)))) zT)))) (sp:=[_,some (.agg (cM d.c)),_,_,_,some (.agg #[.slice gf.na gf.g.ns.length gf.nc]),_,some (.slice d.c.ca d.c.chs.length d.c.cc),_,_,_,_,some (.agg (bF d.x)),_,_]) (h:=?_);intro _ _ hk;refine zid ?_;rintro W9 ⟨q1,q2⟩ w8 cC xY ⟨xX,uB⟩;dsimp only at xX uB;have o9:w.heap.size<=(W9.heap.size):=(cC.links w A2).size;have hK2:(∀p∈(([(gd,oC (bF gf) 53),(b9,oC (cM d.c) 61),(b4,oC (qR fo) 97)]:ad)++(r.hp Ak 92 pls++[]):ad),p.1<(W9.heap.size)):=λp hp=>cC.lt p hp;refine zG ?_;intro _ _ hk;refine zYe ?_;intro _ _ hk;refine zze ?_;intro WO xr iw;refine zE ?_;replace xr:=yb xr;obtain⟨FT,SV,hsT⟩:∃FT:ad,(∀p∈FT,(W9.heap.size)<=p.1/\p.1<w8.heap.size/\w8.heap[p.1]? =some p.2)/\iK fV 2 (FT++F) q1 (aN gf.g.ns d.c.chs):=by
     exact zsi
    refine OJ.fzB (L':=[w1,w]) FT (λW hS p hp=>?_) zJ ?_
    ·exact zvg
    refine zjd ?_;intro b66 GO GP sx sy;replace sx:=yb sx;refine zc ?_;refine qF ?_;refine PJ.again (((Rw.row b66 GO GP,pls++[(⟨d.c,decide (j=0),aN gf.g.ns d.c.chs,q1,q2,d.x⟩:Pl)]),FT++F),j+1) ⟨⟨by dsimp only;omega,λq hq=>aY.2 (.inr (jb q hq))⟩,sx.elim (λh=>Rw.Fr_at aM h) (λh=>.inr zC),sy,by dsimp only;rw[njf (q:=qq d) (by rw[mY,hd];rfl),gL,aW,jh];congr 2;unfold Cw;rw[show iQ cs (qq d).1=d.c by show iQ cs (jT d)=d.c;unfold iQ;rw[lq.1];rfl,GM];rfl,
     λp hp=>(aY.1 hp).elim (λh=>⟨(gV p h).1.mono (λq hq=>aY.2 (.inr hq)),(gV p h).2⟩) (λh=>by rw[gh.1 h];exact⟨⟨hsT,by have:=OT d.c.chs gf.g.ns;dsimp only;omega,lq.2.2.mono (λq hq=>aY.2 (.inr (jb q hq)))⟩,Pk⟩),by dsimp only;rw[cO];simp only[dO,fO];omega,λq hq=>(aY.1 hq).elim (λh=>by have:=(SV q h).1;omega) (dC q)⟩ zW zR rfl rfl zJ
   replace dm:=ya dm;refine B 8 ?_;have GM:qS ((ds.map qq).map (·.2)) j d.c=gf.g.ns:=by
    exact zSg
   have CA:qo F gf:=⟨.inl rfl,.inl rfl,by simp[gf,uG],by simp[gf,uG]⟩;have hnn:=CA.nn;refine eS 15 8 [13,14] (pb:=by exact zU 3 (k:=by exact aJ (X.v (RV.re (v':=.bool (decide (j=0))) (kY rfl rfl) ((vb (decide_eq_decide.2 aa))))) (zU 8 (k:=by exact aJ (X.v (RV.re (v':=.agg (bF d.x)) (lE isAgg53 sizeOf53 rfl (Cy) (dc kN Al rfl)) (va (dU kN Al rfl)))) zT)))) (sp:=[_,some (.agg (cM d.c)),_,_,_,some (.agg #[.slice gf.na gf.g.ns.length gf.nc]),_,some (.slice d.c.ca d.c.chs.length d.c.cc),_,_,_,_,some (.agg (bF d.x)),_,_]) (h:=?_);intro _ _ hk;refine zid ?_;rintro W9 ⟨q1,q2⟩ w8 cC xY ⟨xX,uB⟩;dsimp only at xX uB;have o9:w.heap.size<=(W9.heap.size):=(cC.links w A2).size;have hK2:(∀p∈(([(gd,oC (bF gf) 53),(b9,oC (cM d.c) 61),(b4,oC (qR fo) 97)]:ad)++(r.hp Ak 92 pls++[]):ad),p.1<(W9.heap.size)):=λp hp=>cC.lt p hp;refine zG ?_;intro _ _ hk;refine zYe ?_;intro _ _ hk;refine zze ?_;intro WO xr iw;refine zE ?_;replace xr:=yb xr;obtain⟨FT,SV,hsT⟩:∃FT:ad,(∀p∈FT,(W9.heap.size)<=p.1/\p.1<w8.heap.size/\w8.heap[p.1]? =some p.2)/\iK fV 2 (FT++F) q1 (aN gf.g.ns d.c.chs):=by
    exact zsi
   refine OJ.fzB (L':=[w1,w]) FT (λW hS p hp=>?_) zJ ?_
   ·exact zvg
   refine zjd ?_;intro b66 GO GP sx sy;replace sx:=yb sx;refine zc ?_;refine qF ?_;refine PJ.again (((Rw.row b66 GO GP,pls++[(⟨d.c,decide (j=0),aN gf.g.ns d.c.chs,q1,q2,d.x⟩:Pl)]),FT++F),j+1) ⟨⟨by dsimp only;omega,λq hq=>aY.2 (.inr (jb q hq))⟩,sx.elim (λh=>Rw.Fr_at aM h) (λh=>.inr zC),sy,by dsimp only;rw[njf (q:=qq d) (by rw[mY,hd];rfl),gL,aW,jh];congr 2;unfold Cw;rw[show iQ cs (qq d).1=d.c by show iQ cs (jT d)=d.c;unfold iQ;rw[lq.1];rfl,GM];rfl,
    λp hp=>(aY.1 hp).elim (λh=>⟨(gV p h).1.mono (λq hq=>aY.2 (.inr hq)),(gV p h).2⟩) (λh=>by rw[gh.1 h];exact⟨⟨hsT,by have:=OT d.c.chs gf.g.ns;dsimp only;omega,lq.2.2.mono (λq hq=>aY.2 (.inr (jb q hq)))⟩,Pk⟩),by dsimp only;rw[cO];simp only[dO,fO];omega,λq hq=>(aY.1 hq).elim (λh=>by have:=(SV q h).1;omega) (dC q)⟩ zW zR rfl rfl zJ
  intro aR;refine B 10 ?_;refine qF ?_;exact z9g
 intro av;refine B 12 ?_;have hi9:i=fos.length:=by omega
 rw[hi9,uw]at aW;refine bQ (.inl rfl) results30 bB λW hS=>?_;have Ag:r.At Ak 92 pls W:=by
  cases r with
  |nil=>trivial
  |row b cap sp=>exact hS.own (b,_) oV
 obtain⟨a1,c1,uu,uJ⟩:=Rw.sl nOd ae Ag (aj W.heap.size);exact zsg
structure Dv where
 fr:List Se
 to:Se
 fa:Option Addr
 fc:Nat
def vG (d:Dv):Array Value:=(.slice d.fa d.fr.length d.fc::ab d.to.kind::ab d.to.pub::lJ (fw d.to.com) [ab d.to.lev]).toArray
def iD (d:Dv):List Value:=(.slice d.fa d.fr.length d.fc::ab d.to.kind::ab d.to.pub::lJ (fw d.to.com) [ab d.to.lev])
theorem GQ(d:Dv):(iD d).length=36:=rfl
theorem nxh(d:Dv):∀u∈iD d,u.oneCell'=true:=LC rfl
theorem Mc:prog.info? 142=some Tryz.t142:=by kernel_rfl
theorem nEl:jN prog 138 142 36:=⟨underlying138,Tryz.t142,.agg (ak::ab 0::ab 0::um [ab 0]).toArray,Mc,rfl,rfl,rfl,by decide⟩
def hJ (d:Dv):List Se×Se:=(d.fr,d.to)
structure fM (Z:aI) (K N:Nat) (w:World) (d:Dv):Prop where
 ne:d.fr≠ []
 sl:ai seA 35 N w d.fa d.fr
 out:∀q,d.fa=some q->¬Z q.block/\K<=q.block
theorem fM.up{Z Z':aI}{d:Dv}(h:fM Z K N w d)(hz:N<=W.heap.size)(hs:∀b off,d.fa=some ⟨b,off,none⟩->K<=b->b<N->¬Z b->W.heap[b]? =w.heap[b]?)(hZ:∀b,K<=b->b<N->Z' b->Z b):fM Z' K W.heap.size W d:=by
 rcases h.sl with h1|⟨b,off,cs,t,fr,e1,e2,e3,e4⟩
 ·exact absurd h1 h.ne
 have h2:=h.out _ e1;refine⟨h.ne,.inr ⟨b,off,cs,t,fr,e1,by omega,(hs b off e1 h2.2 e2 h2.1).trans e3,e4⟩,λq hq=>?_⟩;rw[e1]at hq;cases hq;exact⟨λhz'=>h2.1 (hZ b h2.2 e2 hz'),h2.2⟩
theorem fM.low{Z:aI}{K':Nat}{d:Dv}(h:fM Z K N w d)(hK:K'<=K):fM Z K' N w d:=⟨h.ne,h.sl,λq hq=>⟨(h.out q hq).1,eE hK (h.out q hq).2⟩⟩
theorem fM.one{Z:aI}{s to:Se}{c:Nat}(hb:w.heap[b]? =some (.cells (seA s) t fr))(hz:¬Z b)(hK:K<=b):fM Z K w.heap.size w ⟨[s],to,some ⟨b,0,none⟩,c⟩:=by
 refine⟨by simp,.inr ⟨b,0,_,_,_,rfl,(bA.1 hb).1,hb,λi hi=>?_⟩,λq hq=>by cases hq;exact⟨hz,hK⟩⟩;have h0:i=0:=by simp only[dO,fO]at hi;omega
 subst h0;exact⟨aj _,rfl⟩
noncomputable def CB (p:Ap) (b:Bx):List (List Se×Se):=match cP p.2.2.1 b.node with|some y=>[([aO y],nj (dk p.2.2.2.last) b.level)]|none=>[]
def GR (p:Ap) (k:Nat) (y:Int):List (List Se×Se):=([nj (dk p.2.2.2.last) (k:Int)],aO y)::if k<9 then[([nj (dk p.2.2.2.last) (k:Int)],nj (dk p.2.2.2.last) ((k+1:Nat):Int))]else[]
def mf (p:Ap):Nat->List (List Se×Se)
 |0=>[]
 |j+1=>match p.1.path[j]? with|none=>mf p j|some y=>mf p j++GR p j y
def Md (p:Ap):List Se:=nj (dk p.2.2.2.last) 9::if p.2.1=true then[]else[aT (dk p.1.par)]
def pd (d:Int):Int:=if dd d then 512+d else 0
noncomputable def GS (p:Ap) (x:We):List (List Se×Se):=match cP p.2.2.1 (pd x.dev)with|some y=>[([aO y],aT (dk p.2.2.2.last))]|none=>[]
noncomputable def iL (p:Ap):List (List Se×Se):=p.1.bxs.flatMap (CB p)++mf p p.1.path.length++[(Md p,aT (dk p.2.2.2.last))]++p.1.wes.flatMap (GS p)
theorem WQ:∀{l:Nat} {W0:World} {MI RO M:aI} {hM:∀k,M k->k<W0.heap.size/\¬MI k/\¬RO k} {V:aI} {I:World->Prop} {hI:gk (λk=>(k<W0.heap.size/\¬MI k)\/V k) I} {I1 X1:aI->World->Prop} (lI:∀V,gk (λk=>(k<W0.heap.size/\¬MI k)\/V k) (I1 V)) (gi:∀V,gk (λk=>(k<W0.heap.size/\¬MI k)\/V k) (X1 V)) (hV:∀k,V k->W0.heap.size<=k) (x:Dv) (b2:Nat) (W:World) (Me:St (dD hM V hI) [W] [] W) (dw:W.heap[b2]? =some (oC #[yv l] 145)) (aaJ:¬(M b2\/V b2)) (hy:∀W1,aQ (λk=>M k\/V k) W W1->(∀k,V k->W0.heap.size<=k/\k<W1.heap.size)->I W1->SX prog l #[.agg (vG x)] W1 (λb W2=>aQ (λk=>M k\/V k) W1 W2/\(if b then I1 (rn V W1 W2) W2 else X1 (rn V W1 W2) W2))),Calls prog 167 #[cB x.to,.slice x.fa x.fr.length x.fc,ptr b2 0] W (YR M V I1 X1 W):=by
 intro l W0 MI RO M hM V I hI I1 X1 lI gi hV x b2 W Me dw aaJ hy;have Eg:=(bA.1 dw).1;have bX:¬(dD hM V hI).X b2:=aaJ;have cQ:=dw;refine nB (dD hM V hI) [] (vs:=[_,_,_]) func167 rfl ntmps167 rfl Me ?_;refine cH 2 ?_;intro b3 w3 dA cX fT eC ff;refine aE 7 (cB x.to) ?_;refine dp (.agg (vG x)) ?_;refine aaK (λ_=>False) id Zh (V:=V) lI gi hV rfl rfl rfl rfl (λW1 sA hw1 qD=>hy W1 ((sA.links W A1).mono (λk _ hx=>hx.elim id (λh=>by simp at h))) hw1 qD) ?_ ?_
 ·intro V2 lK wY;refine B 4 ?_;exact bQ (.inl rfl) results167 bB λW2 hS=>⟨true,V2,rfl,lK,λk hk=>(wY W A1 k hk).imp id (λh=>⟨h,hS.xlt k (.inr hk)⟩),(hS.links W A1).mono (λk hk hx=>by rcases hx with(hx|hx)|hx;(exact .inl hx);(rcases wY W A1 k hx with h|h;(exact .inr h);omega);simp at hx),hS.ghost⟩
 intro V2 lK wY;refine B 4 ?_;exact bQ (.inl rfl) results167 bB λW2 hS=>⟨false,V2,rfl,lK,λk hk=>(wY W A1 k hk).imp id (λh=>⟨h,hS.xlt k (.inr hk)⟩),(hS.links W A1).mono (λk hk hx=>by rcases hx with(hx|hx)|hx;(exact .inl hx);(rcases wY W A1 k hx with h|h;(exact .inr h);omega);simp at hx),hS.ghost⟩
end Px
