/- Contracts of functions of the program. No condition beyond those stated. -/
import Derived.Test.YtpgobjebhigaoaaGreatDoorKg
import Derived.Test.YtpgobjebhigaoaaGreatDoorProg
set_option linter.unusedSimpArgs false
set_option linter.unusedVariables false
set_option linter.unusedSectionVars false
set_option linter.unnecessarySimpa false
set_option maxRecDepth 20000
set_option maxHeartbeats 8000000
namespace Px
open Go Go.RowKit Go.Proofs Go.Proofs.Tryz
structure Sc where
 fos:List Fo
 fa:Option Addr
 fc:Nat
 cs:List Cm
 la:Option Addr
 lc:Nat
 lks:List Lk
 ka:Option Addr
 kc:Nat
 fas:List Fa
 xa:Option Addr
 xc:Nat
 pls:List Pl
 pa:Option Addr
 pc:Nat
 ot:Nat->Option Addr×Nat×Nat
def rdA (s:Sc):Array Value:=#[.slice s.fa s.fos.length s.fc,.slice (s.ot 1).1 (s.ot 1).2.1 (s.ot 1).2.2,.slice s.la s.cs.length s.lc,.slice (s.ot 3).1 (s.ot 3).2.1 (s.ot 3).2.2,.slice (s.ot 4).1 (s.ot 4).2.1 (s.ot 4).2.2,.slice s.ka s.lks.length s.kc,.slice s.xa s.fas.length s.xc,.slice (s.ot 7).1 (s.ot 7).2.1 (s.ot 7).2.2]
def gw (s:Sc):Array Value:=#[.slice s.fa s.fos.length s.fc,.slice (s.ot 1).1 (s.ot 1).2.1 (s.ot 1).2.2,.slice s.la s.cs.length s.lc,.slice (s.ot 3).1 (s.ot 3).2.1 (s.ot 3).2.2,.slice (s.ot 4).1 (s.ot 4).2.1 (s.ot 4).2.2,.slice s.ka s.lks.length s.kc,.slice s.xa s.fas.length s.xc,.slice (s.ot 7).1 (s.ot 7).2.1 (s.ot 7).2.2,.slice s.pa s.pls.length s.pc]
structure kD (f:Fa):Prop where
 lnk:jh f.lnk
 com:jh f.com
 by_:fY f.by_
 n:fY f.n
structure dP (N:Nat) (w:World) (s:Sc):Prop where
 fo:ah pg 33 N w s.fa s.fos
 cs:ah dY 73 N w s.la s.cs
 cm:∀c∈s.cs,dJ N w c
 lk:ah lkC 40 N w s.ka s.lks
 fx:ah gY 68 N w s.xa s.fas
 pl:ah plA 5 N w s.pa s.pls
structure fh (s:Sc):Prop where
 fo:s.fos.length<=1000
 cl:s.cs.length<=1000
 cg:∀c∈s.cs,cI c
 kl:s.lks.length<=1000
 ko:∀l∈s.lks,cT l
 xl:s.fas.length<=1000
 xo:∀f∈s.fas,kD f
 pl:s.pls.length<=12
variable {fo:Fo} {M:aB} {Z:Fx} {G:Gh} {H:ae} {d:Int} {lks:List Lk} {L:List World} {N N' b k:Nat} {fr:Nat×Nat} {r:Rw} {s:Sc} {W W' w':World} {I:World->Prop}
theorem dP.up{w:World}(h:dP N w s)(hN:N<=N')(hw:∀k,k<N->w'.heap[k]? =w.heap[k]?):dP N' w' s:=⟨h.fo.up hN hw,h.cs.up hN hw,λc hc=>(h.cm c hc).up hN hw,h.lk.up hN hw,h.fx.up hN hw,h.pl.up hN hw⟩
noncomputable def Ec (Z:Fx) (ms:List Mb) (d:Int) (mf:Nat->Int) (r s:Int):Bool:=match ms.find? (λm=>decide (m.dev=d))with
 |some m=>kq Z m.ver (dn mf) r s
 |none=>false
theorem Uk{ms:List Mb}{mf:Nat->Int}{r s:Int}(h:ms.any (λm=>decide (m.dev=d))=false):false=Ec Z ms d mf r s:=by
 unfold Ec;rw[show ms.find? (λm=>decide (m.dev=d))=none by
  rw[List.find?_eq_none];intro x hx;have:=List.any_eq_false.1 h x hx;simpa using this]
theorem Nb{ms:List Mb}{mf:Nat->Int}{r s:Int}{m:Mb}(hk:ms[k]? =some m)(hm:decide (m.dev=d)=true)(fm:fw (λm=>decide (m.dev=d)) ms k):kq Z m.ver (dn mf) r s=Ec Z ms d mf r s:=by
 unfold Ec;rw[show ms.find? (λm=>decide (m.dev=d))=some m by
  rw[List.find?_eq_some_iff_getElem];obtain⟨hl,he⟩:=gD.1 hk;refine⟨hm,k,hl,he,λj hj=>?_⟩;have:=fm j ms[j] hj (gV zM);simpa using this]
theorem Hh(d:Int)(b:Nat)(x:Mb)(w:World)(aR:w.heap[b]? =some (.cells #[.int .i64 d] 3 (0,0))):Calls prog 116 #[.agg (oE x),ptr b 0] w (av w (.bool (decide (x.dev=d)))):=by
 have aY:¬Gh.no.X b:=λh=>h;have mr:=(aM.1 aR).1;refine enter (vs:=[_,_]) func116 rfl ntmps116 rfl ?_;refine B 2 ?_;refine yX ?_;intro b2 w2 aH aF dS cE cX;refine B 13 ?_;refine ax results116 rfl A1 ?_;rfl
theorem nif(hZ:FxOk Z)(g:Gv)(N:Nat)(w:World)(hN:N<=w.heap.size)(hG:aL N w g)(d:Int)(mf:Nat->Int)(bm tm:Nat)(frm:Nat×Nat)(jb:w.heap[bm]? =some (.cells (dg mf) tm frm))(Fk:jh mf)(r s:Int)(hg:Glb w):Calls prog 73 #[.agg (aX g),.int .i64 d,.slice (some ⟨bm,0,none⟩) 32 32,.agg #[.int .i64 r,.int .i64 s]] w (av w (.bool (Ec Z g.g.ms d mf r s))):=by
 have q4:g.g.ms.length<=1000000:=by have:=hG.mn;omega
 have wY:=(aM.1 jb).1;have eC:=hg.lt;refine enter (vs:=[_,_,_,_]) func73 rfl ntmps73 rfl ?_;refine B 2 ?_;refine yX ?_;intro b4 w4 dm eb mI dQ dV;refine yX ?_;intro b5 w5 eg eP mv gQ gR;refine yX ?_;intro b7 w7 VP VQ Zs gg ow;refine B 6 ?_;refine rr (.slice g.ma g.g.ms.length g.mc) (aa isAgg52 rfl A2 dm eb trivial rfl) ?_;refine B 1 ?_;refine nu (α:=Int) (v:=λi:Int=>.int .i64 i) (Φ:=λ_ i _=>cR (λx=>decide (x.dev=d)) g.g.ms i) call115 rfl rfl rfl (λW hS=>Xa (λx=>decide (x.dev=d)) 116 [ptr b5 0] call116 g.g.ms q4 N g.ma g.mc W (aS hN (hS.links w A3).size) (hG.ms.up (ao _) (hS.same A3 hN zU zP)) (λj x hx W2 hB=>Hh d b5 x W2 (by have h2:=(hS.links w5 A1).size;rw[hB.block b5 zM];exact hS.old A1 eg eP trivial))) ?_;intro Wi i wi sj sk hi;refine B 4 ?_;rcases hi with⟨rfl,ie⟩|⟨k,x0,rfl,iP,Bf,fm⟩
 ·refine zGh ?_;refine nl 11 [.det [] _,.det [0] _,.det [1] _,.det [2] undef,.det [2,3] undef,.det [2] undef,.det [2,4,5] undef,.det [2,6] undef,.det [2,7] undef,.det [2] undef,.det [2] undef] zT (xc zO (xc Uj (xc zO (xc zN (xc zN (xc zN (xc zN (xc zN (xc zN (xc zN (xc zN (xn)))))))))))) zT zT zT (λab=>?_);refine B 6 ?_;exact zVk
 obtain⟨bo,oo,cs0,to,fp,jC,ft,hcs,ar⟩:=hG.ms.get (by have:=nE iP;omega);have lD:=nE iP;refine zGh ?_;refine nl 11 [.det [] _,.det [0] _,.det [1] _,.det [2] _,.det [2,3] _,.det [2] _,.det [2,4,5] _,.det [2,6] _,.det [2,7] _,.det [2] _,.det [2] _] zT (xc zO (xc M9 (xc zO (xc (by exact λab=>X.val rfl rfl (ak underlying57 rfl sizeOf52 rfl) (λ_ _=>rfl)) (xc (by exact λab=>X.val rfl rfl (RV.re (v':=.slice (some ⟨bo,oo,none⟩) g.g.ms.length g.mc) (aa isAgg52 rfl A3 dm eb trivial rfl) JG) (λ_ _=>rfl)) (xc zO (xc (by exact λab=>X.val rfl rfl (cx underlying52 sizeOf210 rfl rfl zM zM) (λ_ _=>rfl)) (xc (by exact λab=>X.val rfl rfl (ak underlying210 rfl sizeOf3 rfl) (λ_ _=>rfl)) (xc (by exact λab=>X.val rfl rfl (aa (v:=.int .i64 x0.ver) isAgg3 rfl A4 hcs zX trivial (vE ar iP rfl 2 zQ)) (λ_ _=>rfl)) (xc zO (xc (by exact λab=>X.val rfl rfl (af isAgg36 sizeOf36 rfl A1 VP VQ trivial rfl) (λ_ _=>rfl)) (xn)))))))))))) zT zT zT (λab=>?_);refine call call78 rfl rfl rfl (λW hS=>by have h9:=OY hZ x0.ver r s (dn mf) bm 0 32 (by rw[nO];omega) W (cG.dg (hS.old A4 jb zX trivial) Fk) (hg.old hS A4 zU trivial);rw[nO]at h9;exact h9) (v:=.bool (kq Z x0.ver (dn mf) r s)) ?_;refine B 5 ?_;exact zVk
theorem nIl(p:Lk->Bool)(f:Nat)(cap:List Value)(az:dR prog f)(xs:List Lk)(cb:xs.length<=1000000)(N:Nat)(a:Option Addr)(cp:Nat)(w:World)(hN:N<=w.heap.size)(aJ:ah lkC 40 N w a xs)(hp:∀(j:Nat) (x:Lk),xs[j]? =some x->∀W,Below w.heap.size w W->Calls prog f (.agg (lkC x)::cap).toArray W (av W (.bool (p x)))):Calls prog 74 #[.slice a xs.length cp,.func (.func f) #[] cap.toArray] w (cu w (λi:Int=>.int .i64 i) (λi _=>cR p xs i)):=by
 refine enter (vs:=[_,_]) func74 rfl ntmps74 rfl ?_;refine I4 ?_;rintro j ⟨hj,dO⟩;refine B 6 ?_;refine aK ?_ ?_
 ·intro aj;refine B 11 ?_;obtain⟨bo,oo,cs0,to,fp,rfl,ft,hcs,ar⟩:=aJ.get zM;obtain⟨x,hx⟩:=nk xs j zM;refine B 5 ?_;refine rq (.agg (lkC x)) (ag isAgg38 sizeOf38 rfl A0 hcs zX trivial (ni ar hx rfl)) (va (np ar hx rfl)) ?_;refine I5 ?_;refine aK ?_ ?_
  ·intro aN;refine B 12 ?_;refine jG (j:Int) results74 rfl A0 rfl ?_;exact I6
  exact F8
 intro aj;refine B 11 ?_;refine jG (-1:Int) results74 rfl A0 rfl ?_;exact F9
theorem Cb(hZ:FxOk Z)(l:Lk)(b:Nat)(x:Lk)(hx:cT x)(w:World)(aR:w.heap[b]? =some (.cells (lkC l) 84 (0,0)))(hg:Glb w):Calls prog 75 #[.agg (lkC x),ptr b 0] w (av w (.bool (jl (iL Z x) l.par))):=by
 have aY:¬Gh.no.X b:=λh=>h;have mr:=(aM.1 aR).1;have eC:=hg.lt;refine enter (vs:=[_,_]) func75 rfl ntmps75 rfl ?_;refine B 2 ?_;refine yX ?_;intro b2 w2 aH aF dS cE cX;refine B 4 ?_;refine ng (E':=[(0,_),(1,_),(2,_),(3,_)]) zR ?_;refine nl 5 [.det [] _,.det [0] (.agg (dg (iL Z x))),.det [] _,.det [2] _,.det [3] _] zT (xc (by exact λab=>X.val rfl rfl (af isAgg38 sizeOf38 rfl A0 aH aF trivial rfl) (λ_ _=>rfl)) (xc (by exact λab=>nf call13 rfl rfl (λW hS _=>Wo hZ x hx W (hg.old hS A1 zU trivial)) (λ_=>rfl)) (xc qq (xc zyc (xc (by exact λab=>X.val rfl rfl (RV.re (v':=.agg (dg l.par)) (ag isAgg34 sizeOf34 rfl A1 aR aY trivial (aV rfl)) (rfl)) (λ_ _=>rfl)) (xn)))))) zT zT zT (λab=>?_);refine rr (.bool (jl (iL Z x) l.par)) (gZ ui zQ nQ rfl rfl rfl) ?_;refine B 4 ?_;refine ax results75 rfl A1 ?_;rfl
def db (Z:Fx) (lks:List Lk) (l:Lk):Option Lk:=if l.by_= -1 then lks.find? (λx=>jl (iL Z x) l.par)else none
theorem Nc{l:Lk}(h:¬l.by_= -1):db Z lks l=none:=if_neg h
theorem Nf{l:Lk}(h:lks.any (λx=>jl (iL Z x) l.par)=false):db Z lks l=none:=by
 unfold db;split
 ·rw[List.find?_eq_none];intro x hx;have:=List.any_eq_false.1 h x hx;simpa using this
 rfl
theorem Hj{l:Lk}{x:Lk}(hb:l.by_= -1)(hk:lks[k]? =some x)(hx:jl (iL Z x) l.par=true)(fm:fw (λx=>jl (iL Z x) l.par) lks k):db Z lks l=some x:=by
 unfold db;rw[if_pos hb,List.find?_eq_some_iff_getElem];obtain⟨hl,he⟩:=gD.1 hk;refine⟨hx,k,hl,he,λj hj=>?_⟩;have:=fm j lks[j] hj (gV zM);simpa using this
theorem Hk{l p:Lk}(h:db Z lks l=some p):p∈lks:=by
 unfold db at h;split at h
 ·exact List.mem_of_find?_eq_some h
 cases h
theorem Glb.bel{w:World}(h:Glb w)(hB:Below w.heap.size w W):Glb W:=by
 have h4:=h.lt;obtain⟨⟨t,fr,h0⟩,t2,qj,h2⟩:=h;exact⟨⟨t,fr,(hB.block _ zM).trans h0⟩,t2,qj,(hB.block _ zM).trans h2⟩
def Ul (o:Option Lk):Value:=.tuple #[.agg (lkC (o.getD kH)),.bool o.isSome]
theorem nNc(hZ:FxOk Z)(s:Sc)(ho:fh s)(N:Nat)(w:World)(hN:N<=w.heap.size)(hs:dP N w s)(l:Lk)(hg:Glb w):Calls prog 36 #[.agg (gw s),.agg (lkC l)] w (av w (Ul (db Z s.lks l))):=by
 have eC:=hg.lt;have ahA:=ho.kl;refine enter (vs:=[_,_]) func36 rfl ntmps36 rfl ?_;refine B 2 ?_;refine yX ?_;intro b2 w2 aH aF dS cE cX;refine yX ?_;intro b3 w3 aC ay cS bV cL;refine Rx ?_;refine yW ?_;intro b4 dQ dV;refine B 7 ?_;refine rr (.slice s.ka s.lks.length s.kc) (aa isAgg27 rfl A1 aH aF zL rfl) ?_;refine B 1 ?_;refine nu (α:=Int) (v:=λi:Int=>.int .i64 i) (Φ:=λ_ i _=>cR (λx=>jl (iL Z x) l.par) s.lks i) call74 rfl rfl rfl (λW hS=>nIl (λx=>jl (iL Z x) l.par) 75 [ptr b3 0] call75 s.lks zM N s.ka s.kc W (aS hN (hS.links w A2).size) (hs.lk.up (ao _) (hS.same A2 hN zU wx)) (λj x hx W2 hB=>Cb hZ l b3 x (ho.ko x (cC hx)) W2 (by have h2:=(hS.links w3 A0).size;rw[hB.block b3 zM];exact hS.old A0 aC ay jN) ((hg.old hS A2 zU wx).bel hB))) ?_;intro Wi i wi sj sk hi;refine B 5 ?_;by_cases o8:l.by_= -1
 ·rcases hi with⟨rfl,ie⟩|⟨k,x0,rfl,iP,Bf,fm⟩
  ·refine B 4 ?_;refine z6h ?_;refine B 2 ?_;refine DF ?_;refine B 7 ?_;refine IH ?_;refine B 5 ?_;exact bH (.inl rfl) results36 (RS.wA (i:=0) rfl isAgg84 sizeOf84 rfl (aV rfl) (RS.t rfl RS.n)) λW hS=>⟨by rw[Nf ie];rfl,hS.base A3 wH⟩
  obtain⟨bo,oo,cs0,to,fp,jC,ft,hcs,ar⟩:=hs.lk.get (by have:=nE iP;omega);have lD:=nE iP;refine B 4 ?_;refine z6h ?_;refine KM ?_;refine B 10 ?_;refine rq (.slice (some ⟨bo,oo,none⟩) s.lks.length s.kc) (aa isAgg27 rfl A2 aH aF jN rfl) JG ?_;refine B 2 ?_;refine rq (.agg (lkC x0)) (ag isAgg38 sizeOf38 rfl A3 hcs zX jN (ni ar iP rfl)) (va (np ar iP rfl)) ?_;refine rv rfl rfl rfl (bS underlying84 zeroValue84 (bC.c sizeOf38 (bC.n)) rfl rfl) ?_;refine IH ?_;refine B 4 ?_;exact bH (.inl rfl) results36 (RS.wA (i:=0) rfl isAgg84 sizeOf84 rfl (aV rfl) (RS.t rfl RS.n)) λW hS=>⟨by rw[Hj o8 iP Bf fm];rfl,hS.base A3 wH⟩
 refine B 4 ?_;refine rq (.bool true) (cy rfl rfl) (vb (by simp[o8])) ?_;refine B 10 ?_;refine IH ?_;refine B 5 ?_;exact bH (.inl rfl) results36 (RS.wA (i:=0) rfl isAgg84 sizeOf84 rfl (aV rfl) (RS.t rfl RS.n)) λW hS=>⟨by rw[Nc o8];rfl,hS.base A3 wH⟩
def iB (pls:List Pl) (f:Int):List Int:=Go.Lib.compact (cW (bD pls f++[f]))
theorem nQl(pls:List Pl)(f:Int):(iB pls f).length<=pls.length+1:=by
 have h1:=Go.Lib.compact_length_le (cW (bD pls f++[f]));have h2:=JF pls f;rw[vn,cF,BH]at h1;unfold iB;omega
theorem Rw.sl'{t:Nat}{xs:List Int}{w:World}(hr:r.Fit 1 xs)(hA:r.At ai t xs w):∃a cap,r.val xs.length= .slice a xs.length cap/\ah encI 1 w.heap.size w a xs:=by
 obtain⟨a,c,h1,h2⟩:=r.sl nr hr hA (ao _);exact⟨a,c,h1,h2⟩
theorem Rw.at_own{t:Nat}{xs:List Int}(hS:St G L H W)(hm:∀p∈r.hp ai t xs,p∈H):r.At ai t xs W:=by
 cases r with
 |nil=>trivial
 |row b cap sp=>exact hS.own (b,_) (hm _ vv)
theorem nHk(hZ:FxOk Z)(s:Sc)(ho:fh s)(N:Nat)(w:World)(hN:N<=w.heap.size)(hs:dP N w s)(l:Lk):Calls prog 40 #[.agg (gw s),.agg (lkC l)] w (nC w ai 1 3 (iB s.pls l.fo) id):=by
 refine enter (vs:=[_,_]) func40 rfl ntmps40 rfl ?_;refine B 2 ?_;refine yX ?_;intro b2 w2 aH aF dS cE cX;refine yX ?_;intro b3 w3 aC ay cS bV cL;refine B 4 ?_;refine X8 ?_;refine KW 11 [5,6,10] [([],some _),([0],some _),([],some _),([2],some _),([3],some _),([1,4],none),([5],none),([],some _),([7],some _),([8],some _),([9],none)] [[],[0],[]] (λcv L' H'=>match cv with| [none,none,none]=>L'=[w3,w2,w]/\H'=[]++(([]))| [none,none,some v10]=>∃(cq:Nat),v10= .slice (some ⟨cq,0,none⟩) 1 1/\L'=[w3,w2,w]/\H'=[(cq,.cells #[.int .i64 l.fo] 3 (0,0))]++(([]))/\w3.heap.size<=cq| [some v5,none,none]=>∃(r5:Rw),v5=r5.val (bD s.pls l.fo).length/\L'=[w3,w2,w]/\H'=[]++(((r5.hp ai 3 (bD s.pls l.fo))++[]))/\r5.Fr Gh.no [w3,w2,w]/\r5.Fit 1 (bD s.pls l.fo)| [some v5,none,some v10]=>∃(r5:Rw) (cq:Nat),v5=r5.val (bD s.pls l.fo).length/\v10= .slice (some ⟨cq,0,none⟩) 1 1/\L'=[w3,w2,w]/\H'=[(cq,.cells #[.int .i64 l.fo] 3 (0,0))]++(((r5.hp ai 3 (bD s.pls l.fo))++[]))/\r5.Fr Gh.no [w3,w2,w]/\r5.Fit 1 (bD s.pls l.fo)/\w3.heap.size<=cq| [some v5,some v6,none]=>∃(r5:Rw) (r6:Rw),v5=r5.val (bD s.pls l.fo).length/\v6=r6.val (bD s.pls l.fo).length/\L'=[w3,w2,w]/\H'=[]++((r6.hp ai 3 (bD s.pls l.fo))++((r5.hp ai 3 (bD s.pls l.fo))++[]))/\r5.Fr Gh.no [w3,w2,w]/\r5.Fit 1 (bD s.pls l.fo)/\r6.Fr Gh.no [w3,w2,w]/\r6.Fit 1 (bD s.pls l.fo)| [some v5,some v6,some v10]=>∃(r5:Rw) (r6:Rw) (cq:Nat),v5=r5.val (bD s.pls l.fo).length/\v6=r6.val (bD s.pls l.fo).length/\v10= .slice (some ⟨cq,0,none⟩) 1 1/\L'=[w3,w2,w]/\H'=[(cq,.cells #[.int .i64 l.fo] 3 (0,0))]++((r6.hp ai 3 (bD s.pls l.fo))++((r5.hp ai 3 (bD s.pls l.fo))++[]))/\r5.Fr Gh.no [w3,w2,w]/\r5.Fit 1 (bD s.pls l.fo)/\r6.Fr Gh.no [w3,w2,w]/\r6.Fit 1 (bD s.pls l.fo)/\w3.heap.size<=cq|_=>False) zT ⟨rfl,rfl⟩ zT zT zT zT zT zT rfl (qc (by exact λcv L' H' _ _ hP=>X.val rfl rfl (ak underlying81 rfl sizeOf32 rfl) R2) (qc (λcv L' H' hl hd hP=>by obtain⟨x5,x6,eW,rfl⟩:=fM hl;(rcases x5 with _|v5<;>rcases x6 with _|v6<;>rcases eW with _|v10<;>try exact False.elim hP);(obtain⟨rfl,rfl⟩:=hP;exact X.val rfl rfl (aa isAgg32 rfl A1 aH aF rm rfl) R2);(obtain⟨cq,rfl,rfl,rfl,ff⟩:=hP;exact X.val rfl rfl (aa isAgg32 rfl A1 aH aF rm rfl) R2);(obtain⟨r5,rfl,rfl,rfl,eX,bP⟩:=hP;exact X.val rfl rfl (aa isAgg32 rfl A1 aH aF rm rfl) R2);(obtain⟨r5,cq,rfl,rfl,rfl,rfl,eX,bP,ff⟩:=hP;exact X.val rfl rfl (aa isAgg32 rfl A1 aH aF rm rfl) R2);(obtain⟨r5,r6,rfl,rfl,rfl,rfl,eX,bP,jV,eO⟩:=hP;exact X.val rfl rfl (aa isAgg32 rfl A1 aH aF rm rfl) R2);(obtain⟨r5,r6,cq,rfl,rfl,rfl,rfl,rfl,eX,bP,jV,eO,ff⟩:=hP;exact X.val rfl rfl (aa isAgg32 rfl A1 aH aF rm rfl) R2)) (qc (by exact λcv L' H' _ _ hP=>X.val rfl rfl (ak underlying84 rfl sizeOf38 rfl) R2) (qc (by exact λcv L' H' _ _ hP=>X.val rfl rfl (ak underlying38 rfl sizeOf3 rfl) R2) (qc (λcv L' H' hl hd hP=>by obtain⟨x5,x6,eW,rfl⟩:=fM hl;(rcases x5 with _|v5<;>rcases x6 with _|v6<;>rcases eW with _|v10<;>try exact False.elim hP);(obtain⟨rfl,rfl⟩:=hP;exact X.val rfl rfl (aa isAgg3 rfl A0 aC ay rm rfl) R2);(obtain⟨cq,rfl,rfl,rfl,ff⟩:=hP;exact X.val rfl rfl (aa isAgg3 rfl A0 aC ay rm rfl) R2);(obtain⟨r5,rfl,rfl,rfl,eX,bP⟩:=hP;exact X.val rfl rfl (aa isAgg3 rfl A0 aC ay rm rfl) R2);(obtain⟨r5,cq,rfl,rfl,rfl,rfl,eX,bP,ff⟩:=hP;exact X.val rfl rfl (aa isAgg3 rfl A0 aC ay rm rfl) R2);(obtain⟨r5,r6,rfl,rfl,rfl,rfl,eX,bP,jV,eO⟩:=hP;exact X.val rfl rfl (aa isAgg3 rfl A0 aC ay rm rfl) R2);(obtain⟨r5,r6,cq,rfl,rfl,rfl,rfl,rfl,eX,bP,jV,eO,ff⟩:=hP;exact X.val rfl rfl (aa isAgg3 rfl A0 aC ay rm rfl) R2)) (qk (qk (qc (by exact λcv L' H' _ _ hP=>X.val rfl rfl (ak underlying84 rfl sizeOf38 rfl) R2) (qc (by exact λcv L' H' _ _ hP=>X.val rfl rfl (ak underlying38 rfl sizeOf3 rfl) R2) (qc (λcv L' H' hl hd hP=>by obtain⟨x5,x6,eW,rfl⟩:=fM hl;(rcases x5 with _|v5<;>rcases x6 with _|v6<;>rcases eW with _|v10<;>try exact False.elim hP);(obtain⟨rfl,rfl⟩:=hP;exact X.val rfl rfl (aa isAgg3 rfl A0 aC ay rm rfl) R2);(obtain⟨cq,rfl,rfl,rfl,ff⟩:=hP;exact X.val rfl rfl (aa isAgg3 rfl A0 aC ay rm rfl) R2);(obtain⟨r5,rfl,rfl,rfl,eX,bP⟩:=hP;exact X.val rfl rfl (aa isAgg3 rfl A0 aC ay rm rfl) R2);(obtain⟨r5,cq,rfl,rfl,rfl,rfl,eX,bP,ff⟩:=hP;exact X.val rfl rfl (aa isAgg3 rfl A0 aC ay rm rfl) R2);(obtain⟨r5,r6,rfl,rfl,rfl,rfl,eX,bP,jV,eO⟩:=hP;exact X.val rfl rfl (aa isAgg3 rfl A0 aC ay rm rfl) R2);(obtain⟨r5,r6,cq,rfl,rfl,rfl,rfl,rfl,eX,bP,jV,eO,ff⟩:=hP;exact X.val rfl rfl (aa isAgg3 rfl A0 aC ay rm rfl) R2)) (qk (qn)))))))))))) ?_ ?_
 ·refine nc rfl rfl rfl rfl ?_ ?_
  ·intro cv L' H' hl hr hP F Q' hk;obtain⟨x5,x6,eW,rfl⟩:=fM hl;rcases x5 with _|v5<;>rcases x6 with _|v6<;>rcases eW with _|v10<;>try exact False.elim hP
   ·obtain⟨rfl,rfl⟩:=hP;refine zWf ?_;intro r5 eX bP;exact OJ.done (hk _ _ _ ⟨r5,rfl,rfl,rfl,eX,bP⟩)
   ·obtain⟨cq,rfl,rfl,rfl,ff⟩:=hP;refine zWf ?_;intro r5 eX bP;refine OJ.perm (H':=[(cq,.cells #[.int .i64 l.fo] 3 (0,0))]++(r5.hp ai 3 (bD s.pls l.fo)++[])) (by simpa using List.perm_append_singleton _ _) ?_;exact OJ.done (hk _ _ _ ⟨r5,cq,rfl,rfl,rfl,rfl,eX,bP,ff⟩)
   ·exact aA
   ·exact aA
   ·exact aA
   exact aA
  refine nc rfl rfl rfl rfl ?_ ?_
  ·intro cv L' H' hl hr hP F Q' hk;obtain⟨x5,x6,eW,rfl⟩:=fM hl;rcases x5 with _|v5<;>rcases x6 with _|v6<;>rcases eW with _|v10<;>try exact False.elim hP
   ·exact aA
   ·exact aA
   ·obtain⟨r5,rfl,rfl,rfl,eX,bP⟩:=hP;refine Aa (enc:=ai) (m:=1) (t:=3) (xs:=(bD s.pls l.fo)) (v:=id) (first:=[]) (cap:=[]) rfl call81 rfl rfl rfl (λW hS=>by
     obtain⟨a9,c9,e9,h9⟩:=r5.sl' (t:=3) bP (Rw.at_own hS (λp hp=>by simp[hp]));show Calls _ _ #[id (r5.val (bD s.pls l.fo).length)] _ _;rw[id,e9];exact nQn (bD s.pls l.fo) (by have:=JF s.pls l.fo;have:=ho.pl;omega) W.heap.size a9 c9 W (ao _) h9) ?_
    intro r6 jV eO;refine OJ.reH (H':=[]++(r6.hp ai 3 (bD s.pls l.fo)++(r5.hp ai 3 (bD s.pls l.fo)++[]))) rfl ?_;exact OJ.done (hk _ _ _ ⟨r5,r6,rfl,rfl,rfl,rfl,eX,bP,jV,eO⟩)
   ·obtain⟨r5,cq,rfl,rfl,rfl,rfl,eX,bP,ff⟩:=hP;refine Aa (enc:=ai) (m:=1) (t:=3) (xs:=(bD s.pls l.fo)) (v:=id) (first:=[]) (cap:=[]) rfl call81 rfl rfl rfl (λW hS=>by
     obtain⟨a9,c9,e9,h9⟩:=r5.sl' (t:=3) bP (Rw.at_own hS (λp hp=>by simp[hp]));show Calls _ _ #[id (r5.val (bD s.pls l.fo).length)] _ _;rw[id,e9];exact nQn (bD s.pls l.fo) (by have:=JF s.pls l.fo;have:=ho.pl;omega) W.heap.size a9 c9 W (ao _) h9) ?_
    intro r6 jV eO;refine OJ.perm (H':=[(cq,.cells #[.int .i64 l.fo] 3 (0,0))]++(r6.hp ai 3 (bD s.pls l.fo)++(r5.hp ai 3 (bD s.pls l.fo)++[]))) (by rw[dE];exact List.perm_append_comm_assoc _ _ _) ?_;exact OJ.done (hk _ _ _ ⟨r5,r6,cq,rfl,rfl,rfl,rfl,rfl,eX,bP,jV,eO,ff⟩)
   ·exact aA
   exact aA
  refine nc rfl rfl rfl rfl ?_ ?_
  ·intro cv L' H' hl hr hP F Q' hk;obtain⟨x5,x6,eW,rfl⟩:=fM hl;rcases x5 with _|v5<;>rcases x6 with _|v6<;>rcases eW with _|v10<;>try exact False.elim hP
   ·obtain⟨rfl,rfl⟩:=hP;refine vo ?_;intro cq ha ho;exact OJ.done (hk _ _ _ ⟨cq,rfl,rfl,rfl,(ad.not ha (w:=w3) A0)⟩)
   ·exact aA
   ·obtain⟨r5,rfl,rfl,rfl,eX,bP⟩:=hP;refine vo ?_;intro cq ha ho;exact OJ.done (hk _ _ _ ⟨r5,cq,rfl,rfl,rfl,rfl,eX,bP,(ad.not ha (w:=w3) A0)⟩)
   ·exact aA
   ·obtain⟨r5,r6,rfl,rfl,rfl,rfl,eX,bP,jV,eO⟩:=hP;refine vo ?_;intro cq ha ho;exact OJ.done (hk _ _ _ ⟨r5,r6,cq,rfl,rfl,rfl,rfl,rfl,eX,bP,jV,eO,(ad.not ha (w:=w3) A0)⟩)
   exact aA
  exact nn
 intro cv L' H' hl hr hP;obtain⟨x5,x6,eW,rfl⟩:=fM hl;rcases x5 with _|v5<;>rcases x6 with _|v6<;>rcases eW with _|v10
 ·exact aA
 ·exact aA
 ·exact aA
 ·exact aA
 ·exact aA
 ·exact aA
 ·exact aA
 obtain⟨r5,r6,cq,rfl,rfl,rfl,rfl,rfl,eX,bP,jV,eO,ff⟩:=hP;refine oY (r:=r6) (xs:=(bD s.pls l.fo)) (zs:=[l.fo]) (enc:=ai) (m:=1) (H0:=[(cq,.cells #[.int .i64 l.fo] 3 (0,0))]) (H1:=(r5.hp ai 3 (bD s.pls l.fo)++[])) wQ DJ nr rfl rfl rfl rfl (dt.one (z:=l.fo) nr DL underlying44 (bL.own (i:=0) rfl)) eO jV z1 (by have:=JF s.pls l.fo;have:=ho.pl;simp only[dW,lC];omega) ?_;intro b17 adY adZ Ng Nh;replace Ng:=yb Ng;refine B 6 ?_;refine wU (r:=Rw.row b17 adY adZ) (enc:=ai) (m:=1) (t:=3) (xs:=((bD s.pls l.fo)++[l.fo])) (ys:=cW ((bD s.pls l.fo)++[l.fo])) (H0:=[(cq,.cells #[.int .i64 l.fo] 3 (0,0))]) (H1:=(r5.hp ai 3 (bD s.pls l.fo)++[])) (v:=λ_=>.tuple #[]) rfl call48 rfl rfl rfl (λhr=>by cases hr) (λb cap sp hr W hS h=>by cases hr;exact FD (by rw[cF,BH];have:=JF s.pls l.fo;have:=ho.pl;omega) Nh h) ?_;intro r7 gk ad0 sy Um;refine B 4 ?_;refine rq (r7.val (cW ((bD s.pls l.fo)++[l.fo])).length) (fW rfl) ((by rw[Um,vn];rfl)) ?_;refine wU (r:=r7) (enc:=ai) (m:=1) (t:=3) (xs:=cW ((bD s.pls l.fo)++[l.fo])) (ys:=iB s.pls l.fo) (H0:=[(cq,.cells #[.int .i64 l.fo] 3 (0,0))]) (H1:=(r5.hp ai 3 (bD s.pls l.fo)++[])) (v:=λr=>r.val (iB s.pls l.fo).length) rfl call82 rfl rfl rfl (λhr W hS=>by subst hr;exact n4m gk W) (λb cap sp hr W hS h=>by subst hr;exact IQ (by rw[vn,cF,BH];have:=JF s.pls l.fo;have:=ho.pl;omega) gk h) ?_
 intro r8 eT ahB eU agH;have ad1:=ad0 (Ng.elim (λh=>Rw.Fr_at jV h) (λh=>.inr h));have sI:=eU _ (Rw.ge_of ad1 A2);refine B 4 ?_;exact nU (H0:=[(cq,.cells #[.int .i64 l.fo] 3 (0,0))]) (H1:=(r5.hp ai 3 (bD s.pls l.fo)++[])) (r:=r8) (.inl rfl) results40 (RS.t rfl RS.n) A2 (by refine nY.2 ⟨by simp only[Over,and_true];omega,nY.2 ⟨Rw.over sI,by rw[dE];exact Rw.over (Rw.ge_of eX A2)⟩⟩) rfl eT sI rfl
theorem Cc:∀{H:ae} {b:Nat},(∀p∈H,p.1<b)->bE H b
 | [],_,_=>True.intro
 |p::H,b,h=>⟨by have:=h p A0;omega,Cc λq hq=>h q (.tail _ hq)⟩
def Yg (pls:List Pl) (l p:Lk):Bool:=(dA (nw pls) l.fo).any λx=>decide (p.fo=x)
noncomputable def iC (Z:Fx) (pls:List Pl) (l p:Lk):Bool:=nB p&&p.resh&&decide (l.exp<=p.exp)&&(decide (p.fo=l.fo)||Yg pls l p)&&kq Z p.ver (dn (fe Z l)) l.sr l.ss
theorem Ce(hZ:FxOk Z)(s:Sc)(ho:fh s)(N:Nat)(w:World)(hN:N<=w.heap.size)(hs:dP N w s)(l p:Lk)(hlk:cT l)(hg:Glb w)(hv:nB p=false):Calls prog 37 #[.agg (gw s),.agg (lkC l),.agg (lkC p)] w (av w (.bool (iC Z s.pls l p))):=by
 have eC:=hg.lt;refine PH ?_;refine yV ?_;intro b3 w3 aC ay cS bV cL;refine yX ?_;intro b4 w4 dm eb mI dQ dV;refine yX ?_;intro b5 w5 eg eP mv gQ gR;refine PI ?_;refine nl 46 ((.det [] _)::(.det [0] (.bool false))::(.det [1] _)::(.det [2] undef)::(.det [2,3] undef)::(.det [2,4] undef)::(.det [2,5] _)::(.det [6] _)::(.det [7] undef)::(.det [7,8] undef)::(.det [7,9] undef)::(.det [7] undef)::(.det [7,11] undef)::(.det [7,12] undef)::(.det [7,10,13] undef)::(.det [7,14] _)::(.det [15] _)::(.det [16] undef)::(.det [16,17] undef)::(.det [16,18] undef)::(.det [16] undef)::(.det [16,20] undef)::(.det [16,21] undef)::(.det [16,19,22] undef)::(.det [16,23] undef)::(.det [24] undef)::(.det [24,25] undef)::(.det [24] undef)::(.det [24,27] undef)::(.det [24,28] undef)::(.det [24,26,29] undef)::(.det [24] undef)::(.det [24,31] undef)::(.det [24,32] undef)::(.det [24,30,33] undef)::(.det [16,24,34] undef)::(.det [16,35] _)::(.det [36] _)::(.det [37] undef)::(.det [37,38] undef)::(.det [37,39] undef)::(.det [37] undef)::(.det [37,41] undef)::(.det [37] undef)::(.det [37,43] undef)::(.det [37,44] undef)::[]) zT (xc zlc (xc zjc (xc zO (xc zN (xc zN (xc zN (xc z8 (xc zO (xc zN (xc zN (xc zN (xc zN (xc zN (xc zN (xc zN (xc z8 (xc zO (xc zN (xc zN (xc zN (xc zN (xc zN (xc zN (xc zN (xc zN (xc zN (xc zN (xc zN (xc zN (xc zN (xc zN (xc zN (xc zN (xc zN (xc zN (xc zN (xc z8 (xc zO (xc zN (xc zN (xc zN (xc zN (xc zN (xc zN (xc zN (xc zN (xn))))))))))))))))))))))))))))))))))))))))))))))) zT zT zT (λab=>?_)
 refine B 6 ?_;refine ax results37 rfl A3 ?_;exact vb (by unfold iC;simp[hv])
theorem Cf(hZ:FxOk Z)(s:Sc)(ho:fh s)(N:Nat)(w:World)(hN:N<=w.heap.size)(hs:dP N w s)(l p:Lk)(hlk:cT l)(hg:Glb w)(hv:nB p=true)(hr:p.resh=false):Calls prog 37 #[.agg (gw s),.agg (lkC l),.agg (lkC p)] w (av w (.bool (iC Z s.pls l p))):=by
 have eC:=hg.lt;refine PH ?_;refine yV ?_;intro b3 w3 aC ay cS bV cL;refine yX ?_;intro b4 w4 dm eb mI dQ dV;refine yX ?_;intro b5 w5 eg eP mv gQ gR;refine PI ?_;refine nl 46 ((.det [] _)::(.det [0] (.bool true))::(.det [1] _)::(.det [2] _)::(.det [2,3] _)::(.det [2,4] _)::(.det [2,5] _)::(.det [6] _)::(.det [7] undef)::(.det [7,8] undef)::(.det [7,9] undef)::(.det [7] undef)::(.det [7,11] undef)::(.det [7,12] undef)::(.det [7,10,13] undef)::(.det [7,14] _)::(.det [15] _)::(.det [16] undef)::(.det [16,17] undef)::(.det [16,18] undef)::(.det [16] undef)::(.det [16,20] undef)::(.det [16,21] undef)::(.det [16,19,22] undef)::(.det [16,23] undef)::(.det [24] undef)::(.det [24,25] undef)::(.det [24] undef)::(.det [24,27] undef)::(.det [24,28] undef)::(.det [24,26,29] undef)::(.det [24] undef)::(.det [24,31] undef)::(.det [24,32] undef)::(.det [24,30,33] undef)::(.det [16,24,34] undef)::(.det [16,35] _)::(.det [36] _)::(.det [37] undef)::(.det [37,38] undef)::(.det [37,39] undef)::(.det [37] undef)::(.det [37,41] undef)::(.det [37] undef)::(.det [37,43] undef)::(.det [37,44] undef)::[]) zT (xc zlc (xc zjc (xc zO (xc qq (xc (by exact λab=>X.val rfl rfl (ak underlying38 rfl sizeOf4 rfl) (λ_ _=>rfl)) (xc (by exact λab=>X.val rfl rfl (RV.re (v':=.bool false) (aa isAgg4 rfl A0 eg eP trivial rfl) ((vb hr))) (λ_ _=>rfl)) (xc z6 (xc zO (xc zN (xc zN (xc zN (xc zN (xc zN (xc zN (xc zN (xc z8 (xc zO (xc zN (xc zN (xc zN (xc zN (xc zN (xc zN (xc zN (xc zN (xc zN (xc zN (xc zN (xc zN (xc zN (xc zN (xc zN (xc zN (xc zN (xc zN (xc zN (xc z8 (xc zO (xc zN (xc zN (xc zN (xc zN (xc zN (xc zN (xc zN (xc zN (xn))))))))))))))))))))))))))))))))))))))))))))))) zT zT zT (λab=>?_)
 refine B 6 ?_;refine ax results37 rfl A3 ?_;exact vb (by unfold iC;simp[hr])
theorem Cg(hZ:FxOk Z)(s:Sc)(ho:fh s)(N:Nat)(w:World)(hN:N<=w.heap.size)(hs:dP N w s)(l p:Lk)(hlk:cT l)(hg:Glb w)(hv:nB p=true)(hr:p.resh=true)(he:¬l.exp<=p.exp):Calls prog 37 #[.agg (gw s),.agg (lkC l),.agg (lkC p)] w (av w (.bool (iC Z s.pls l p))):=by
 have eC:=hg.lt;refine PH ?_;refine yV ?_;intro b3 w3 aC ay cS bV cL;refine yX ?_;intro b4 w4 dm eb mI dQ dV;refine yX ?_;intro b5 w5 eg eP mv gQ gR;refine PI ?_;refine nl 46 ((.det [] _)::(.det [0] (.bool true))::(.det [1] _)::(.det [2] _)::(.det [2,3] _)::(.det [2,4] _)::(.det [2,5] _)::(.det [6] _)::(.det [7] _)::(.det [7,8] _)::(.det [7,9] _)::(.det [7] _)::(.det [7,11] _)::(.det [7,12] _)::(.det [7,10,13] _)::(.det [7,14] _)::(.det [15] _)::(.det [16] undef)::(.det [16,17] undef)::(.det [16,18] undef)::(.det [16] undef)::(.det [16,20] undef)::(.det [16,21] undef)::(.det [16,19,22] undef)::(.det [16,23] undef)::(.det [24] undef)::(.det [24,25] undef)::(.det [24] undef)::(.det [24,27] undef)::(.det [24,28] undef)::(.det [24,26,29] undef)::(.det [24] undef)::(.det [24,31] undef)::(.det [24,32] undef)::(.det [24,30,33] undef)::(.det [16,24,34] undef)::(.det [16,35] _)::(.det [36] _)::(.det [37] undef)::(.det [37,38] undef)::(.det [37,39] undef)::(.det [37] undef)::(.det [37,41] undef)::(.det [37] undef)::(.det [37,43] undef)::(.det [37,44] undef)::[]) zT (xc zlc (xc zjc (xc zO (xc qq (xc (by exact λab=>X.val rfl rfl (ak underlying38 rfl sizeOf4 rfl) (λ_ _=>rfl)) (xc (by exact λab=>X.val rfl rfl (RV.re (v':=.bool true) (aa isAgg4 rfl A0 eg eP trivial rfl) ((vb hr))) (λ_ _=>rfl)) (xc z6 (xc zO (xc qq (xc rQ (xc (by exact λab=>X.val rfl rfl (aa isAgg3 rfl A0 eg eP trivial rfl) (λ_ _=>rfl)) (xc qq (xc rQ (xc ztc (xc Uj (xc z6 (xc zO (xc zN (xc zN (xc zN (xc zN (xc zN (xc zN (xc zN (xc zN (xc zN (xc zN (xc zN (xc zN (xc zN (xc zN (xc zN (xc zN (xc zN (xc zN (xc zN (xc z8 (xc zO (xc zN (xc zN (xc zN (xc zN (xc zN (xc zN (xc zN (xc zN (xn))))))))))))))))))))))))))))))))))))))))))))))) zT zT zT (λab=>?_)
 refine B 6 ?_;refine ax results37 rfl A3 ?_;exact vb (by unfold iC;simp[he])
theorem nUo(hZ:FxOk Z)(s:Sc)(ho:fh s)(N:Nat)(w:World)(hN:N<=w.heap.size)(hs:dP N w s)(l p:Lk)(hlk:cT l)(hg:Glb w)(hv:nB p=true)(hr:p.resh=true)(he:l.exp<=p.exp)(hf:p.fo=l.fo):Calls prog 37 #[.agg (gw s),.agg (lkC l),.agg (lkC p)] w (av w (.bool (iC Z s.pls l p))):=by
 have eC:=hg.lt;refine PH ?_;refine yV ?_;intro b3 w3 aC ay cS bV cL;refine yX ?_;intro b4 w4 dm eb mI dQ dV;refine yX ?_;intro b5 w5 eg eP mv gQ gR;refine PI ?_;refine nJ 46 [42] [([],some _),([0],some (.bool true)),([1],some _),([2],some _),([2,3],some _),([2,4],some _),([2,5],some _),([6],some _),([7],some _),([7,8],some _),([7,9],some _),([7],some _),([7,11],some _),([7,12],some _),([7,10,13],some _),([7,14],some _),([15],some _),([16],some _),([16,17],some _),([16,18],some _),([16],some _),([16,20],some _),([16,21],some _),([16,19,22],some _),([16,23],some _),([24],some undef),([24,25],some undef),([24],some undef),([24,27],some undef),([24,28],some undef),([24,26,29],some undef),([24],some undef),([24,31],some undef),([24,32],some undef),([24,30,33],some undef),([16,24,34],some _),([16,35],some _),([36],some _),([37],some _),([37,38],some _),([37,39],some _),([37],some _),([37,41],none),([37],some _),([37,43],some _),([37,44],some _)] (λcv L' H'=>match cv with| []=>L'=[w5,w4,w3,w]/\H'=[]| [v1]=>∃(sM:Nat) (vX:World),v1= .slice (some ⟨sM,0,none⟩) 32 32/\L'=[vX,w5,w4,w3,w]/\H'=[]/\vX.heap[sM]? =some (.cells (dg (fe Z l)) 34 (0,0))|_=>False) zT ⟨rfl,rfl⟩ zT zT zT zT zT zT (pc Ed (pc Ed (pc zW (pc z3 (pc zGc (pc Ed (pc Ci (pc zW (pc z3 (pc z9 (pc Ed (pc z3 (pc z9 (pc Ed (pc zxd (pc Ci (pc zW (pc z3 (pc z9 (pc Ed (pc z3 (pc z9 (pc Ed (pc (by exact λcv L' H' hd hP=>X.val rfl rfl (RV.re (v':=.bool true) (dH rfl rfl) (vb (by simp[hf]))) R2) (pc zW (pc ph (pc ph (pc ph (pc ph (pc ph (pc ph (pc ph (pc ph (pc ph (pc ph (pc Ci (pc Ci (pc zW (pc z3 (pc z9 (pc Ed (pc Ed (pk (pc z3 (pc OQ (pc Ed (pn))))))))))))))))))))))))))))))))))))))))))))))) ?_ ?_
 ·refine sc rfl rfl rfl ?_ ?_
  ·intro cv L' H' hl hP F Q' hk;obtain rfl:=ja hl;obtain⟨rfl,rfl⟩:=hP;refine nu (α:=Nat) (v:=λb=>.slice (some ⟨b,0,none⟩) 32 32) (Φ:=λW b w1=>W.heap.size<=b/\w1.heap[b]? =some (.cells (dg (fe Z l)) 34 (0,0))) call28 rfl rfl rfl (λW hS=>Wl hZ l hlk W (hg.old hS A3 zU trivial)) ?_;rintro Wm sM vX Aq Sa ⟨mq,pj⟩;exact OJ.done (hk _ _ _ ⟨sM,vX,rfl,rfl,rfl,pj⟩)
  exact sn
 intro cv L' H' hl hP;obtain⟨v1,rfl⟩:=dd hl;obtain⟨sM,vX,rfl,rfl,rfl,pj⟩:=hP;refine call (v:=.bool (kq Z p.ver (dn (fe Z l)) l.sr l.ss)) call78 rfl rfl rfl (λW hS=>by have h9:=OY hZ p.ver l.sr l.ss (dn (fe Z l)) sM 0 32 (by rw[nO];omega) W (cG.dg (hS.old A0 pj zX trivial) (Rv hZ l)) (hg.old hS A4 zU trivial);rw[nO]at h9;exact h9) ?_;refine B 5 ?_;refine ax results37 rfl A4 ?_;exact vb (by unfold iC;simp[hv,hr,he,hf])
theorem Hl(hZ:FxOk Z)(s:Sc)(ho:fh s)(N:Nat)(w:World)(hN:N<=w.heap.size)(hs:dP N w s)(l p:Lk)(hlk:cT l)(hg:Glb w)(hv:nB p=true)(hr:p.resh=true)(he:l.exp<=p.exp)(hf:¬p.fo=l.fo)(hu:Yg s.pls l p=true):Calls prog 37 #[.agg (gw s),.agg (lkC l),.agg (lkC p)] w (av w (.bool (iC Z s.pls l p))):=by
 have eC:=hg.lt;refine PH ?_;refine yV ?_;intro b3 w3 aC ay cS bV cL;refine yX ?_;intro b4 w4 dm eb mI dQ dV;refine yX ?_;intro b5 w5 eg eP mv gQ gR;refine PI ?_;refine nJ 46 [30,42] [([],some _),([0],some (.bool true)),([1],some _),([2],some _),([2,3],some _),([2,4],some _),([2,5],some _),([6],some _),([7],some _),([7,8],some _),([7,9],some _),([7],some _),([7,11],some _),([7,12],some _),([7,10,13],some _),([7,14],some _),([15],some _),([16],some _),([16,17],some _),([16,18],some _),([16],some _),([16,20],some _),([16,21],some _),([16,19,22],some _),([16,23],some _),([24],some _),([24,25],some _),([24],some _),([24,27],some _),([24,28],some _),([24,26,29],none),([24],some _),([24,31],some _),([24,32],some _),([24,30,33],some _),([16,24,34],some _),([16,35],some _),([36],some _),([37],some _),([37,38],some _),([37,39],some _),([37],some _),([37,41],none),([37],some _),([37,43],some _),([37,44],some _)] (λcv L' H'=>match cv with| []=>L'=[w5,w4,w3,w]/\H'=[]| [v1]=>∃(ke:Rw),v1=ke.val (dA (nw s.pls) l.fo).length/\L'=[w5,w4,w3,w]/\H'=(ke.hp ai 3 (dA (nw s.pls) l.fo)++[])/\ke.Fr Gh.no [w5,w4,w3,w]/\ke.Fit 1 (dA (nw s.pls) l.fo)| [v1,v2]=>∃(ke:Rw) (sM:Nat) (vX:World),v1=ke.val (dA (nw s.pls) l.fo).length/\v2= .slice (some ⟨sM,0,none⟩) 32 32/\L'=[vX,w5,w4,w3,w]/\H'=(ke.hp ai 3 (dA (nw s.pls) l.fo)++[])/\ke.Fr Gh.no [w5,w4,w3,w]/\ke.Fit 1 (dA (nw s.pls) l.fo)/\vX.heap[sM]? =some (.cells (dg (fe Z l)) 34 (0,0))/\bE (ke.hp ai 3 (dA (nw s.pls) l.fo)++[]) sM|_=>False) zT ⟨rfl,rfl⟩ zT zT zT zT zT zT (pc xw (pc xw (pc zW (pc z3 (pc zGc (pc xw (pc Ci (pc zW (pc z3 (pc z9 (pc xw (pc z3 (pc z9 (pc xw (pc zxd (pc Ci (pc zW (pc z3 (pc z9 (pc xw (pc z3 (pc z9 (pc xw (pc z5d (pc zW (pc (by exact λcv L' H' hd hP=>X.val rfl rfl (ak underlying81 rfl sizeOf32 rfl) R2) (pc xw (pc z3 (pc z9 (pc xw (pk (pc z3 (pc z9 (pc xw (pc (λcv L' H' hd hP=>match cv,hd,hP with| [],hd,hP=>(absurd (show false=true from hd) zQ)| [v1],hd,hP=>(by obtain⟨ke,rfl,rfl,rfl,gK,dq⟩:=hP;exact nf call76 rfl rfl (λW hS _=>by obtain⟨a9,c9,e9,h9⟩:=ke.sl' (t:=3) dq (Rw.at_own hS (λp hp=>by simp[hp]));have h8:=nag (dA (nw s.pls) l.fo) (aS (Ea (Na s.pls).1 l.fo) zse) W.heap.size a9 c9 W (ao _) h9 p.fo;rw[show((dA (nw s.pls) l.fo).any λx=>decide (p.fo=x))=true from hu,<-e9]at h8;exact h8) (λ_=>rfl))| [v1,v2],hd,hP=>(by obtain⟨ke,sM,vX,rfl,rfl,rfl,rfl,gK,dq,pj,Cj⟩:=hP;exact nf call76 rfl rfl (λW hS _=>by obtain⟨a9,c9,e9,h9⟩:=ke.sl' (t:=3) dq (Rw.at_own hS (λp hp=>by simp[hp]));have h8:=nag (dA (nw s.pls) l.fo) (aS (Ea (Na s.pls).1 l.fo) zse) W.heap.size a9 c9 W (ao _) h9 p.fo;rw[show((dA (nw s.pls) l.fo).any λx=>decide (p.fo=x))=true from hu,<-e9]at h8;exact h8) (λ_=>rfl))|_::_::_::_,_,hP=>hP.elim) (pc (by exact λcv L' H' hd hP=>X.val rfl rfl (vY rfl rfl) R2) (pc Ci (pc zW (pc z3 (pc z9 (pc xw (pc xw (pk (pc z3 (pc OQ (pc xw (pn))))))))))))))))))))))))))))))))))))))))))))))) ?_ ?_
 ·refine sc rfl rfl rfl ?_ ?_
  ·exact zek
  refine sc rfl rfl rfl ?_ ?_
  ·intro cv L' H' hl hP F Q' hk;obtain⟨v1,rfl⟩:=dd hl;obtain⟨ke,rfl,rfl,rfl,gK,dq⟩:=hP;refine nu (α:=Nat) (v:=λb=>.slice (some ⟨b,0,none⟩) 32 32) (Φ:=λW b w1=>W.heap.size<=b/\w1.heap[b]? =some (.cells (dg (fe Z l)) 34 (0,0))) call28 rfl rfl rfl (λW hS=>Wl hZ l hlk W (hg.old hS A3 zU Yh)) ?_;rintro Wm sM vX Aq Sa ⟨mq,pj⟩;exact OJ.done (hk _ _ _ ⟨ke,sM,vX,rfl,rfl,rfl,rfl,gK,dq,pj,Cc λp hp=>kJ (Aq.lt p hp) mq⟩)
  exact sn
 intro cv L' H' hl hP;obtain⟨v1,v2,rfl⟩:=jj hl;obtain⟨ke,sM,vX,rfl,rfl,rfl,rfl,gK,dq,pj,Cj⟩:=hP;refine call (v:=.bool (kq Z p.ver (dn (fe Z l)) l.sr l.ss)) call78 rfl rfl rfl (λW hS=>by have h9:=OY hZ p.ver l.sr l.ss (dn (fe Z l)) sM 0 32 (by rw[nO];omega) W (cG.dg (hS.old A0 pj zX Cj) (Rv hZ l)) (hg.old hS A4 zU Yh);rw[nO]at h9;exact h9) ?_;refine B 5 ?_;exact bH (.inl rfl) results37 (RS.t rfl RS.n) λW hS=>⟨congrArg Ending.returned (vb (by unfold iC;simp[hv,hr,he,hu])),hS.base A4 Yh⟩
theorem Ck(hZ:FxOk Z)(s:Sc)(ho:fh s)(N:Nat)(w:World)(hN:N<=w.heap.size)(hs:dP N w s)(l p:Lk)(hlk:cT l)(hg:Glb w)(hv:nB p=true)(hr:p.resh=true)(he:l.exp<=p.exp)(hf:¬p.fo=l.fo)(hu:Yg s.pls l p=false):Calls prog 37 #[.agg (gw s),.agg (lkC l),.agg (lkC p)] w (av w (.bool (iC Z s.pls l p))):=by
 have eC:=hg.lt;refine PH ?_;refine yV ?_;intro b3 w3 aC ay cS bV cL;refine yX ?_;intro b4 w4 dm eb mI dQ dV;refine yX ?_;intro b5 w5 eg eP mv gQ gR;refine PI ?_;refine nJ 46 [30] [([],some _),([0],some (.bool true)),([1],some _),([2],some _),([2,3],some _),([2,4],some _),([2,5],some _),([6],some _),([7],some _),([7,8],some _),([7,9],some _),([7],some _),([7,11],some _),([7,12],some _),([7,10,13],some _),([7,14],some _),([15],some _),([16],some _),([16,17],some _),([16,18],some _),([16],some _),([16,20],some _),([16,21],some _),([16,19,22],some _),([16,23],some _),([24],some _),([24,25],some _),([24],some _),([24,27],some _),([24,28],some _),([24,26,29],none),([24],some _),([24,31],some _),([24,32],some _),([24,30,33],some _),([16,24,34],some _),([16,35],some _),([36],some _),([37],some undef),([37,38],some undef),([37,39],some undef),([37],some undef),([37,41],some undef),([37],some undef),([37,43],some undef),([37,44],some undef)] (λcv L' H'=>match cv with| []=>L'=[w5,w4,w3,w]/\H'=[]| [v1]=>∃(ke:Rw),v1=ke.val (dA (nw s.pls) l.fo).length/\L'=[w5,w4,w3,w]/\H'=(ke.hp ai 3 (dA (nw s.pls) l.fo)++[])/\ke.Fr Gh.no [w5,w4,w3,w]/\ke.Fit 1 (dA (nw s.pls) l.fo)|_=>False) zT ⟨rfl,rfl⟩ zT zT zT zT zT zT (pc Ee (pc Ee (pc zW (pc z3 (pc zGc (pc Ee (pc Ci (pc zW (pc z3 (pc z9 (pc Ee (pc z3 (pc z9 (pc Ee (pc zxd (pc Ci (pc zW (pc z3 (pc z9 (pc Ee (pc z3 (pc z9 (pc Ee (pc z5d (pc zW (pc (by exact λcv L' H' hd hP=>X.val rfl rfl (ak underlying81 rfl sizeOf32 rfl) R2) (pc Ee (pc z3 (pc z9 (pc Ee (pk (pc z3 (pc z9 (pc Ee (pc (λcv L' H' hd hP=>match cv,hd,hP with| [],hd,hP=>(absurd (show false=true from hd) zQ)| [v1],hd,hP=>(by obtain⟨ke,rfl,rfl,rfl,gK,dq⟩:=hP;exact nf call76 rfl rfl (λW hS _=>by obtain⟨a9,c9,e9,h9⟩:=ke.sl' (t:=3) dq (Rw.at_own hS (λp hp=>by simp[hp]));have h8:=nag (dA (nw s.pls) l.fo) (aS (Ea (Na s.pls).1 l.fo) zse) W.heap.size a9 c9 W (ao _) h9 p.fo;rw[show((dA (nw s.pls) l.fo).any λx=>decide (p.fo=x))=false from hu,<-e9]at h8;exact h8) (λ_=>rfl))|_::_::_,_,hP=>hP.elim) (pc (by exact λcv L' H' hd hP=>X.val rfl rfl (vY rfl rfl) R2) (pc Ci (pc zW (pc ph (pc ph (pc ph (pc ph (pc ph (pc ph (pc ph (pc ph (pn))))))))))))))))))))))))))))))))))))))))))))))) ?_ ?_
 ·refine sc rfl rfl rfl ?_ ?_
  ·exact zek
  exact sn
 intro cv L' H' hl hP;obtain⟨v1,rfl⟩:=dd hl;obtain⟨ke,rfl,rfl,rfl,gK,dq⟩:=hP;refine B 6 ?_;exact bH (.inl rfl) results37 (RS.t rfl RS.n) λW hS=>⟨congrArg Ending.returned (vb (by unfold iC;simp[hf,hu])),hS.base A3 Yh⟩
theorem n8e(hZ:FxOk Z)(s:Sc)(ho:fh s)(N:Nat)(w:World)(hN:N<=w.heap.size)(hs:dP N w s)(l p:Lk)(hlk:cT l)(hg:Glb w):Calls prog 37 #[.agg (gw s),.agg (lkC l),.agg (lkC p)] w (av w (.bool (iC Z s.pls l p))):=by
 cases hv:nB p with
 |false=>exact Ce hZ s ho N w hN hs l p hlk hg hv
 |true=>
  cases hr:p.resh with
  |false=>exact Cf hZ s ho N w hN hs l p hlk hg hv hr
  |true=>
   by_cases he:l.exp<=p.exp
   ·by_cases hf:p.fo=l.fo
    ·exact nUo hZ s ho N w hN hs l p hlk hg hv hr he hf
    cases hu:Yg s.pls l p with
    |false=>exact Ck hZ s ho N w hN hs l p hlk hg hv hr he hf hu
    |true=>exact Hl hZ s ho N w hN hs l p hlk hg hv hr he hf hu
   exact Cg hZ s ho N w hN hs l p hlk hg hv hr he
noncomputable def Ef (Z:Fx) (f:Fa) (g:Gp):Bool:=decide (¬f.by_= -1)&&Ec Z g.ms f.by_ (rT Z f) f.sr f.ss
noncomputable def yp (Z:Fx) (o:Option Lk) (f:Fa):Bool:=decide (f.by_= -1)&&o.isSome&&kq Z (o.getD kH).ver (dn (rT Z f)) f.sr f.ss
theorem Cl(hZ:FxOk Z)(f:Fa)(hf:kD f)(g:Gv)(N:Nat)(w:World)(hN:N<=w.heap.size)(hG:aL N w g)(hg:Glb w)(hb:f.by_= -1):Calls prog 79 #[.agg (gY f),.agg (aX g)] w (av w (.bool (Ef Z f g.g))):=by
 refine enter (vs:=[_,_]) func79 rfl ntmps79 rfl ?_;refine B 2 ?_;refine yX ?_;intro b2 w2 aH aF dS cE cX;refine yX ?_;intro b3 w3 aC ay cS bV cL;refine B 4 ?_;refine X8 ?_;refine nl 11 [.det [] _,.det [0] _,.det [1] _,.det [2] _,.det [3] undef,.det [3] undef,.det [3,5] undef,.det [3] undef,.det [3,7] undef,.det [3] undef,.det [3,9] undef] zT (xc zzc (xc Ug (xc (by exact λab=>X.val rfl rfl (RV.re (v':=.bool false) (cy rfl rfl) (vb Ni)) (λ_ _=>rfl)) (xc zO (xc zN (xc zN (xc zN (xc zN (xc zN (xc zN (xc zN (xn)))))))))))) zT zT zT (λab=>?_);refine B 6 ?_;refine ax results79 rfl A2 ?_;exact vb (by unfold Ef;simp[hb])
theorem nto(hZ:FxOk Z)(f:Fa)(hf:kD f)(g:Gv)(N:Nat)(w:World)(hN:N<=w.heap.size)(hG:aL N w g)(hg:Glb w)(hb:¬f.by_= -1):Calls prog 79 #[.agg (gY f),.agg (aX g)] w (av w (.bool (Ef Z f g.g))):=by
 refine enter (vs:=[_,_]) func79 rfl ntmps79 rfl ?_;refine B 2 ?_;refine yX ?_;intro b2 w2 aH aF dS cE cX;refine yX ?_;intro b3 w3 aC ay cS bV cL;refine B 4 ?_;refine X8 ?_;refine nJ 11 [8] [([],some _),([0],some _),([1],some _),([2],some _),([3],some _),([3],some _),([3,5],some _),([3],some _),([3,7],none),([3],some _),([3,9],some _)] (λcv L' H'=>match cv with| []=>L'=[w3,w2,w]/\H'=[]| [v1]=>∃(bm:Nat) (wm:World),v1= .slice (some ⟨bm,0,none⟩) 32 32/\L'=[wm,w3,w2,w]/\H'=[]/\wm.heap[bm]? =some (.cells (dg (rT Z f)) 34 (0,0))|_=>False) zT ⟨rfl,rfl⟩ zT zT zT zT zT zT (pc zFc (pc Eg (pc (by exact λcv L' H' hd hP=>X.val rfl rfl (RV.re (v':=.bool true) (cy rfl rfl) (vb Ni)) R2) (pc zW (pc Eg (pc zFc (pc Eg (pc Eg (pk (pc (by exact λcv L' H' hd hP=>X.val rfl rfl (ak underlying59 rfl sizeOf36 rfl) R2) (pc Eg (pn)))))))))))) ?_ ?_
 ·exact zWj
 intro cv L' H' hl hP;obtain⟨v1,rfl⟩:=dd hl;obtain⟨bm,wm,rfl,rfl,rfl,jb⟩:=hP;refine call (v:=.bool (Ec Z g.g.ms f.by_ (rT Z f) f.sr f.ss)) call73 rfl rfl rfl (λW hS=>nif hZ g N W (aS hN (hS.links w A3).size) (hG.up (ao _) (hS.same A3 hN zU trivial)) f.by_ (rT Z f) bm 34 (0,0) (hS.old A0 jb zX trivial) (n0l hZ f) f.sr f.ss (hg.old hS A3 zU trivial)) ?_;refine B 5 ?_;refine ax results79 rfl A3 ?_;exact vb (by unfold Ef;simp[hb])
theorem Un(hZ:FxOk Z)(f:Fa)(hf:kD f)(g:Gv)(N:Nat)(w:World)(hN:N<=w.heap.size)(hG:aL N w g)(hg:Glb w):Calls prog 79 #[.agg (gY f),.agg (aX g)] w (av w (.bool (Ef Z f g.g))):=by
 by_cases hb:f.by_= -1
 ·exact Cl hZ f hf g N w hN hG hg hb
 exact nto hZ f hf g N w hN hG hg hb
theorem zcFx{P:Prop}(h:P:=by intro cv L' H' hd hP;(rcases cv with _|⟨v1,_|⟨_,_⟩⟩<;>try exact False.elim hP);all_goals(first|obtain⟨rfl,rfl⟩:=hP|obtain⟨bm,wm,rfl,rfl,rfl,jb⟩:=hP);all_goals(first|exact X.val rfl rfl (af isAgg59 sizeOf59 rfl A1 aH aF trivial rfl) R2|exact X.val rfl rfl (af isAgg59 sizeOf59 rfl A2 aH aF trivial rfl) R2|exact X.val rfl rfl (ag isAgg36 sizeOf36 rfl A1 aH aF trivial (aV rfl)) R2|exact X.val rfl rfl (ag isAgg36 sizeOf36 rfl A2 aH aF trivial (aV rfl)) R2|exact X.val rfl rfl (aa isAgg3 rfl A1 dm eb trivial rfl) R2|exact X.val rfl rfl (aa isAgg3 rfl A2 dm eb trivial rfl) R2|exact X.val rfl rfl (RV.re (v':=.bool true) (aa isAgg4 rfl A2 aH aF trivial rfl) (vb ho)) R2|exact X.val rfl rfl (RV.re (v':=.bool true) (aa isAgg4 rfl A3 aH aF trivial rfl) (vb ho)) R2|exact X.val rfl rfl (aa isAgg3 rfl A2 aC ay trivial rfl) R2|exact X.val rfl rfl (aa isAgg3 rfl A3 aC ay trivial rfl) R2|exact X.val rfl rfl (af isAgg59 sizeOf59 rfl A1 dm eb trivial rfl) R2|exact X.val rfl rfl (af isAgg59 sizeOf59 rfl A2 dm eb trivial rfl) R2|exact X.val rfl rfl (ag isAgg36 sizeOf36 rfl A1 dm eb trivial (aV rfl)) R2|exact X.val rfl rfl (ag isAgg36 sizeOf36 rfl A2 dm eb trivial (aV rfl)) R2|exact X.val rfl rfl (af isAgg57 sizeOf57 rfl A0 aC ay trivial rfl) R2|exact X.val rfl rfl (af isAgg57 sizeOf57 rfl A1 aC ay trivial rfl) R2|exact X.val rfl rfl (aa isAgg3 rfl A1 aH aF trivial rfl) R2|exact X.val rfl rfl (aa isAgg3 rfl A2 aH aF trivial rfl) R2)):P:=h
theorem Cn(hZ:FxOk Z)(f:Fa)(hf:kD f)(g:Gv)(o:Option Lk)(b1 b2:Nat)(w:World)(aH:w.heap[b1]? =some (.cells #[.bool o.isSome] 4 (0,0)))(aC:w.heap[b2]? =some (.cells (lkC (o.getD kH)) 84 (0,0)))(hg:Glb w)(hb:¬f.by_= -1):Calls prog 80 #[.agg (gY f),.agg (aX g),ptr b1 0,ptr b2 0] w (av w (.bool (yp Z o f))):=by
 have aF:¬Gh.no.X b1:=λh=>h;have ay:¬Gh.no.X b2:=λh=>h;have xb:=(aM.1 aH).1;have hl3:=(aM.1 aC).1;have eC:=hg.lt;refine z7h ?_;refine B 2 ?_;refine yX ?_;intro b4 w4 dm eb mI dQ dV;refine yX ?_;intro b5 w5 eg eP mv gQ gR;refine B 4 ?_;refine zFh ?_;refine nl 14 [.det [] _,.det [0] _,.det [1] _,.det [2] _,.det [3] undef,.det [3,4] _,.det [5] _,.det [6] undef,.det [6,7] undef,.det [6,8] undef,.det [6] undef,.det [6,10] undef,.det [6] undef,.det [6,12] undef] zT (xc zzc (xc ztc (xc (by exact λab=>X.val rfl rfl (RV.re (v':=.bool false) (dH rfl rfl) (vb Ni)) (λ_ _=>rfl)) (xc zO (xc zN (xc z8 (xc zO (xc zN (xc zN (xc zN (xc zN (xc zN (xc zN (xc zN (xn))))))))))))))) zT zT zT (λab=>?_);refine B 6 ?_;refine ax results80 rfl A2 ?_;exact vb (by unfold yp;simp[hb])
theorem Co(hZ:FxOk Z)(f:Fa)(hf:kD f)(g:Gv)(o:Option Lk)(b1 b2:Nat)(w:World)(aH:w.heap[b1]? =some (.cells #[.bool o.isSome] 4 (0,0)))(aC:w.heap[b2]? =some (.cells (lkC (o.getD kH)) 84 (0,0)))(hg:Glb w)(hb:f.by_= -1)(ho:o.isSome=false):Calls prog 80 #[.agg (gY f),.agg (aX g),ptr b1 0,ptr b2 0] w (av w (.bool (yp Z o f))):=by
 have aF:¬Gh.no.X b1:=λh=>h;have ay:¬Gh.no.X b2:=λh=>h;have xb:=(aM.1 aH).1;have hl3:=(aM.1 aC).1;have eC:=hg.lt;refine z7h ?_;refine B 2 ?_;refine yX ?_;intro b4 w4 dm eb mI dQ dV;refine yX ?_;intro b5 w5 eg eP mv gQ gR;refine B 4 ?_;refine zFh ?_;refine nl 14 [.det [] _,.det [0] _,.det [1] _,.det [2] _,.det [3] _,.det [3,4] _,.det [5] _,.det [6] undef,.det [6,7] undef,.det [6,8] undef,.det [6] undef,.det [6,10] undef,.det [6] undef,.det [6,12] undef] zT (xc zzc (xc ztc (xc (by exact λab=>X.val rfl rfl (RV.re (v':=.bool true) (dH rfl rfl) (vb Ni)) (λ_ _=>rfl)) (xc zO (xc (by exact λab=>X.val rfl rfl (RV.re (v':=.bool false) (aa isAgg4 rfl A2 aH aF trivial rfl) (vb ho)) (λ_ _=>rfl)) (xc z6 (xc zO (xc zN (xc zN (xc zN (xc zN (xc zN (xc zN (xc zN (xn))))))))))))))) zT zT zT (λab=>?_);refine B 6 ?_;refine ax results80 rfl A2 ?_;exact vb (by unfold yp;simp[ho])
theorem nLo(hZ:FxOk Z)(f:Fa)(hf:kD f)(g:Gv)(o:Option Lk)(b1 b2:Nat)(w:World)(aH:w.heap[b1]? =some (.cells #[.bool o.isSome] 4 (0,0)))(aC:w.heap[b2]? =some (.cells (lkC (o.getD kH)) 84 (0,0)))(hg:Glb w)(hb:f.by_= -1)(ho:o.isSome=true):Calls prog 80 #[.agg (gY f),.agg (aX g),ptr b1 0,ptr b2 0] w (av w (.bool (yp Z o f))):=by
 have aF:¬Gh.no.X b1:=λh=>h;have ay:¬Gh.no.X b2:=λh=>h;have xb:=(aM.1 aH).1;have hl3:=(aM.1 aC).1;have eC:=hg.lt;refine z7h ?_;refine B 2 ?_;refine yX ?_;intro b4 w4 dm eb mI dQ dV;refine yX ?_;intro b5 w5 eg eP mv gQ gR;refine B 4 ?_;refine zFh ?_;refine nJ 14 [11] [([],some _),([0],some _),([1],some _),([2],some _),([3],some _),([3,4],some _),([5],some _),([6],some _),([6,7],some _),([6,8],some _),([6],some _),([6,10],none),([6],some _),([6,12],some _)] (λcv L' H'=>match cv with| []=>L'=[w5,w4,w]/\H'=[]| [v1]=>∃(bm:Nat) (wm:World),v1= .slice (some ⟨bm,0,none⟩) 32 32/\L'=[wm,w5,w4,w]/\H'=[]/\wm.heap[bm]? =some (.cells (dg (rT Z f)) 34 (0,0))|_=>False) zT ⟨rfl,rfl⟩ zT zT zT zT zT zT (pc zFc (pc zcFx (pc (by exact λcv L' H' hd hP=>X.val rfl rfl (RV.re (v':=.bool true) (dH rfl rfl) (vb Ni)) R2) (pc zW (pc zcFx (pc Ci (pc zW (pc z3 (pc z9 (pc zcFx (pc zcFx (pk (pc (by exact λcv L' H' hd hP=>X.val rfl rfl (ak underlying59 rfl sizeOf36 rfl) R2) (pc zcFx (pn))))))))))))))) ?_ ?_
 ·exact zWj
 intro cv L' H' hl hP;obtain⟨v1,rfl⟩:=dd hl;obtain⟨bm,wm,rfl,rfl,rfl,jb⟩:=hP;refine call (v:=.bool (kq Z (o.getD kH).ver (dn (rT Z f)) f.sr f.ss)) call78 rfl rfl rfl (λW hS=>by have h9:=OY hZ (o.getD kH).ver f.sr f.ss (dn (rT Z f)) bm 0 32 (by rw[nO];omega) W (cG.dg (hS.old A0 jb zX trivial) (n0l hZ f)) (hg.old hS A3 zU trivial);rw[nO]at h9;exact h9) ?_;refine B 5 ?_;refine ax results80 rfl A3 ?_;exact vb (by unfold yp;simp[hb,ho])
theorem Uo(hZ:FxOk Z)(f:Fa)(hf:kD f)(g:Gv)(o:Option Lk)(b1 b2:Nat)(w:World)(aH:w.heap[b1]? =some (.cells #[.bool o.isSome] 4 (0,0)))(aC:w.heap[b2]? =some (.cells (lkC (o.getD kH)) 84 (0,0)))(hg:Glb w):Calls prog 80 #[.agg (gY f),.agg (aX g),ptr b1 0,ptr b2 0] w (av w (.bool (yp Z o f))):=by
 by_cases hb:f.by_= -1
 ·cases ho:o.isSome with
  |false=>exact Co hZ f hf g o b1 b2 w aH aC hg hb ho
  |true=>exact nLo hZ f hf g o b1 b2 w aH aC hg hb ho
 exact Cn hZ f hf g o b1 b2 w aH aC hg hb
theorem nTd(hZ:FxOk Z)(s:Sc)(ho:fh s)(N:Nat)(w:World)(hN:N<=w.heap.size)(hs:dP N w s)(l:Lk)(hg:Glb w):Calls prog 39 #[.agg (gw s),.agg (lkC l)] w (cu w (λq:Nat×Nat×Nat=>.slice (some ⟨q.1,0,none⟩) 2 2) (λq w1=>w.heap.size<=q.1/\w.heap.size<=q.2.1/\w.heap.size<=q.2.2/\w1.heap[q.1]? =some (.cells #[.func (.func 79) #[] #[],.func (.func 80) #[] #[ptr q.2.1 0,ptr q.2.2 0]] 128 (0,0))/\w1.heap[q.2.1]? =some (.cells #[.bool (db Z s.lks l).isSome] 4 (0,0))/\w1.heap[q.2.2]? =some (.cells (lkC ((db Z s.lks l).getD kH)) 84 (0,0)))):=by
 have eC:=hg.lt;refine enter (vs:=[_,_]) func39 rfl ntmps39 rfl ?_;refine B 2 ?_;refine yX ?_;intro b2 w2 aH aF dS cE cX;refine yX ?_;intro b3 w3 aC ay cS bV cL;refine B 5 ?_;refine rv rfl rfl rfl (af isAgg81 sizeOf81 rfl A1 aH aF trivial rfl) ?_;refine rv rfl rfl rfl (af isAgg84 sizeOf84 rfl A0 aC ay trivial rfl) ?_;refine call (v:=Ul (db Z s.lks l)) call36 rfl rfl rfl (λW hS=>nNc hZ s ho N W (aS hN (hS.links w A2).size) (hs.up (ao _) (hS.same A2 hN zU trivial)) l (hg.old hS A2 zU trivial)) ?_;refine rr (.tuple #[.agg (lkC ((db Z s.lks l).getD kH)),.bool (db Z s.lks l).isSome]) (fW rfl) ?_;refine B 2 ?_;refine Rx ?_;refine yW ?_;intro b5 gQ gR;refine aU zeroValue4 rfl rfl ?_;refine yW ?_;intro b6 gS lB;refine aZ (i:=1) rfl sizeOf84 rfl rfl rfl rfl rfl rfl ?_;refine OR ?_;refine B 4 ?_;refine rv rfl rfl rfl (bS underlying128 zeroValue128 (bC.c sizeOf126 (bC.n)) rfl rfl) ?_;refine B 1 ?_;refine rv rfl rfl rfl (bS underlying128 zeroValue128 (bC.c sizeOf126 (bC.n)) rfl rfl) ?_;refine k9 underlying118 sizeOf128 zeroValue128 rfl rfl rfl rfl rfl rfl rfl ?_;refine yW ?_;intro cq ff aar;refine B 4 ?_;exact bH (.inl rfl) results39 (RS.t rfl RS.n) λW hS=>⟨(cq,b6,b5),rfl,hS.base A2 Du,by dsimp only;omega,by dsimp only;omega,by dsimp only;omega,hS.own (cq,_) A0,hS.own (b6,_) A1,hS.own (b5,_) A2⟩
def JH (v:Value):Array Value:=#[v]
def Yi (x y:Bool):Value->Bool
 | .func (.func n) _ _=>if n=79 then x else y
 |_=>false
theorem Hm(x y:Bool)(a b:Nat):([.func (.func 79) #[] #[],.func (.func 80) #[] #[ptr a 0,ptr b 0]]:List Value).any (Yi x y)=(x||y):=by simp[Yi]
theorem Up{w:World}{a1 a2 t:Nat}(hb:w.heap[b]? =some (.cells #[.func (.func 79) #[] #[],.func (.func 80) #[] #[ptr a1 0,ptr a2 0]] t fr)):ah JH 1 w.heap.size w (some ⟨b,0,none⟩) [.func (.func 79) #[] #[],.func (.func 80) #[] #[ptr a1 0,ptr a2 0]]:=
 .inr ⟨b,0,_,t,fr,rfl,(aM.1 hb).1,hb,by
  intro i hi
  match i,hi with
  |0,_=>exact⟨by simp,rfl⟩
  |1,_=>exact⟨by simp,rfl⟩⟩
theorem njm(p:Value->Bool)(f:Nat)(cap:List Value)(az:dR prog f)(xs:List Value)(cb:xs.length<=1000000)(N:Nat)(a:Option Addr)(cp:Nat)(w:World)(hN:N<=w.heap.size)(aJ:ah JH 1 N w a xs)(hp:∀(j:Nat) (x:Value),xs[j]? =some x->∀W,Below w.heap.size w W->Calls prog f (.agg (JH x)::cap).toArray W (av W (.bool (p x)))):Calls prog 86 #[.slice a xs.length cp,.func (.func f) #[] cap.toArray] w (cu w (λi:Int=>.int .i64 i) (λi _=>cR p xs i)):=by
 refine enter (vs:=[_,_]) func86 rfl ntmps86 rfl ?_;refine I4 ?_;rintro j ⟨hj,dO⟩;refine B 6 ?_;refine aK ?_ ?_
 ·intro aj;refine B 11 ?_;obtain⟨bo,oo,cs0,to,fp,rfl,ft,hcs,ar⟩:=aJ.get zM;obtain⟨x,hx⟩:=nk xs j zM;refine B 5 ?_;refine rq (.agg (JH x)) (ag isAgg128 sizeOf128 rfl A0 hcs zX trivial (ni ar hx rfl)) (va (np ar hx rfl)) ?_;refine I5 ?_;refine aK ?_ ?_
  ·intro aN;refine B 12 ?_;refine jG (j:Int) results86 rfl A0 rfl ?_;exact I6
  exact F8
 intro aj;refine B 11 ?_;refine jG (-1:Int) results86 rfl A0 rfl ?_;exact F9
theorem nNi(p:Value->Bool)(f:Nat)(cap:List Value)(az:dR prog f)(xs:List Value)(cb:xs.length<=1000000)(N:Nat)(a:Option Addr)(cp:Nat)(w:World)(hN:N<=w.heap.size)(aJ:ah JH 1 N w a xs)(hp:∀(j:Nat) (x:Value),xs[j]? =some x->∀W,Below w.heap.size w W->Calls prog f (.agg (JH x)::cap).toArray W (av W (.bool (p x)))):Calls prog 44 #[.slice a xs.length cp,.func (.func f) #[] cap.toArray] w (av w (.bool (xs.any p))):=by
 refine enter (vs:=[_,_]) func44 rfl ntmps44 rfl ?_;refine B 9 ?_;refine nu (α:=Int) (v:=λi:Int=>.int .i64 i) (Φ:=λ_ i _=>cR p xs i) call86 rfl rfl rfl (λW hS=>njm p f cap az xs cb N a cp W (aS hN (hS.links w A0).size) (aJ.up (ao _) (hS.same A0 hN zU trivial)) (λj x hx W2 hB=>hp j x hx W2 (((hS.links w A0).below Ll).trans (hB.mono (hS.links w A0).size)))) ?_;intro Wi i wi sj sk hi;refine B 5 ?_;refine ax results44 rfl A1 ?_;exact vb hi.any
theorem n0j(n:Nat)(cap:List Value)(az:dR prog n)(f:Fa)(g:Gv)(b1 b2:Nat)(w:World)(aR:w.heap[b1]? =some (.cells (gY f) 59 (0,0)))(aH:w.heap[b2]? =some (.cells (aX g) 57 (0,0)))(bv:Bool)(hq:∀W,Below w.heap.size w W->Calls prog n (.agg (gY f):: .agg (aX g)::cap).toArray W (av W (.bool bv))):Calls prog 45 #[.agg (JH (.func (.func n) #[] cap.toArray)),ptr b1 0,ptr b2 0] w (av w (.bool bv)):=by
 have aY:¬Gh.no.X b1:=λh=>h;have aF:¬Gh.no.X b2:=λh=>h;have mr:=(aM.1 aR).1;have xb:=(aM.1 aH).1;refine enter (vs:=[_,_,_]) func45 rfl ntmps45 rfl ?_;refine B 2 ?_;refine yX ?_;intro b3 w3 aC ay cS bV cL;refine B 6 ?_;refine rr (.func (.func n) #[] cap.toArray) (aa isAgg126 rfl A0 aC ay trivial rfl) ?_;refine rr (.agg (gY f)) (ag isAgg59 sizeOf59 rfl A1 aR aY trivial (aV rfl)) ?_;refine rr (.agg (aX g)) (ag isAgg57 sizeOf57 rfl A1 aH aF trivial (aV rfl)) ?_;refine nH (v:=.bool bv) (f:=n) (cap:=cap) rfl az rfl rfl rfl (λW hS=>hq W (hS.belowNo A1)) ?_;refine B 4 ?_;refine ax results45 rfl A1 ?_;rfl
theorem Nj(hZ:FxOk Z)(f:Fa)(hf:kD f)(g:Gv)(N:Nat)(w:World)(hN:N<=w.heap.size)(hG:aL N w g)(hg:Glb w)(o:Option Lk)(b4 bg a1 a2:Nat)(dm:w.heap[b4]? =some (.cells (gY f) 59 (0,0)))(hbg:w.heap[bg]? =some (.cells (aX g) 57 (0,0)))(eK:w.heap[a1]? =some (.cells #[.bool o.isSome] 4 (0,0)))(cE:w.heap[a2]? =some (.cells (lkC (o.getD kH)) 84 (0,0))):∀(j:Nat) (x:Value),([.func (.func 79) #[] #[],.func (.func 80) #[] #[ptr a1 0,ptr a2 0]]:List Value)[j]? =some x->∀W,Below w.heap.size w W->Calls prog 45 (.agg (JH x)::[ptr b4 0,ptr bg 0]).toArray W (av W (.bool (Yi (Ef Z f g.g) (yp Z o f) x))):=by
 intro j x hx W hB;have at_:∀{v W:World} (hB:Below v.heap.size v W) {k:Nat} {o:Obj},v.heap[k]? =some o->W.heap[k]? =some o:=λhB k o h=>(hB.block _ (aM.1 h).1).trans h
 match j,hx with
 |0,hx=>
  obtain rfl: .func (.func 79) #[] #[]=x:=by simpa using hx
  have h9:=n0j 79 [] call79 f g b4 bg W (at_ hB dm) (at_ hB hbg) (Ef Z f g.g) (λW2 Nk=>Un hZ f hf g N W2 (aS hN (aS hB.size Nk.size)) (hG.up (ao _) λk hk=>(Nk.block k (by have:=hB.size;omega)).trans (hB.block k zM)) ((hg.bel hB).bel Nk));exact h9
 |1,hx=>
  obtain rfl: .func (.func 80) #[] #[ptr a1 0,ptr a2 0]=x:=by simpa using hx
  have h9:=n0j 80 [ptr a1 0,ptr a2 0] call80 f g b4 bg W (at_ hB dm) (at_ hB hbg) (yp Z o f) (λW2 Nk=>Uo hZ f hf g o a1 a2 W2 (at_ Nk (at_ hB eK)) (at_ Nk (at_ hB cE)) ((hg.bel hB).bel Nk));exact h9
 |j+2,hx=>simp at hx
noncomputable def kE (Z:Fx) (o:Option Lk) (PK:Nat->Int) (g:Gp) (f:Fa):Bool:=jl f.lnk PK&&jl f.com g.last&&decide (1<=f.n)&&decide (f.n<2305843009213688669)&&(Ef Z f g||yp Z o f)
theorem Cp(hZ:FxOk Z)(f:Fa)(hf:kD f)(g:Gv)(N:Nat)(w:World)(hN:N<=w.heap.size)(hG:aL N w g)(hg:Glb w)(o:Option Lk)(PK:Nat->Int)(bi bg bs br a1 a2:Nat)(aR:w.heap[bi]? =some (.cells (dg PK) 34 (0,0)))(aH:w.heap[bg]? =some (.cells (aX g) 57 (0,0)))(aC:w.heap[bs]? =some (.cells #[.slice (some ⟨br,0,none⟩) 2 2] 118 (0,0)))(Ho:w.heap[br]? =some (.cells #[.func (.func 79) #[] #[],.func (.func 80) #[] #[ptr a1 0,ptr a2 0]] 128 (0,0)))(eK:w.heap[a1]? =some (.cells #[.bool o.isSome] 4 (0,0)))(cE:w.heap[a2]? =some (.cells (lkC (o.getD kH)) 84 (0,0))):Calls prog 43 #[.agg (gY f),ptr bi 0,ptr bg 0,ptr bs 0] w (av w (.bool (kE Z o PK g.g f))):=by
 have aY:¬Gh.no.X bi:=λh=>h;have aF:¬Gh.no.X bg:=λh=>h;have ay:¬Gh.no.X bs:=λh=>h;have eC:=hg.lt;have aec:=(aM.1 aR).1;have aed:=(aM.1 aH).1;have aee:=(aM.1 aC).1;have aef:=(aM.1 Ho).1;have aeg:=(aM.1 eK).1;have aeh:=(aM.1 cE).1;refine enter (vs:=[_,_,_,_]) func43 rfl ntmps43 rfl ?_;refine B 2 ?_;refine yX ?_;intro b4 w4 dm eb mI dQ dV;refine B 6 ?_;refine rr (.agg (dg f.lnk)) (ag isAgg34 sizeOf34 rfl A0 dm eb trivial (aV rfl)) ?_;refine rr (.agg (dg PK)) (ag isAgg34 sizeOf34 rfl A1 aR aY trivial (aV rfl)) ?_;refine rr (.bool (jl f.lnk PK)) (gZ ui zQ nQ rfl rfl rfl) ?_;refine B 1 ?_;refine nh (t:=10) rfl (λaj=>?_) (λaj=>?_)
 ·replace aj:=ya aj;refine B 1 ?_;refine rr (.agg (dg f.com)) (ag isAgg34 sizeOf34 rfl A0 dm eb trivial (aV rfl)) ?_;refine B 1 ?_;refine rr (.agg (dg g.g.last)) (ag isAgg34 sizeOf34 rfl A1 aH aF trivial (aV rfl)) ?_;refine rr (.bool (jl f.com g.g.last)) (gZ ui zQ nQ rfl rfl rfl) ?_;refine B 2 ?_;refine nh (t:=17) rfl (λaN=>?_) (λaN=>?_)
  ·replace aN:=ya aN;refine B 5 ?_;refine nh (t:=22) rfl (λcN=>?_) (λcN=>?_)
   ·replace cN:=ya cN;refine B 5 ?_;refine nh (t:=27) rfl (λgf=>?_) (λgf=>?_)
    ·replace gf:=ya gf;refine rr (.slice (some ⟨br,0,none⟩) 2 2) (aa isAgg118 rfl A1 aC ay trivial rfl) ?_;refine B 1 ?_;refine call (v:=.bool (Ef Z f g.g||yp Z o f)) call44 rfl rfl rfl (λW hS=>by have h9:=nNi (Yi (Ef Z f g.g) (yp Z o f)) 45 [ptr b4 0,ptr bg 0] call45 [.func (.func 79) #[] #[],.func (.func 80) #[] #[ptr a1 0,ptr a2 0]] z1 W.heap.size (some ⟨br,0,none⟩) 2 W (ao _) (Up (hS.old A1 Ho zX trivial)) (Nj hZ f hf g N W (aS hN (hS.links w A1).size) (hG.up (ao _) (hS.same A1 hN zU trivial)) (hg.old hS A1 zU trivial) o b4 bg a1 a2 (hS.old A0 dm eb trivial) (hS.old A1 aH zX trivial) (hS.old A1 eK zX trivial) (hS.old A1 cE zX trivial));rw[Hm]at h9;exact h9) ?_;refine B 5 ?_;exact Uq
    replace gf:=ya gf;refine B 8 ?_;exact Uq
   replace cN:=ya cN;refine B 13 ?_;exact Uq
  replace aN:=ya aN;refine B 18 ?_;exact Uq
 replace aj:=ya aj;refine B 25 ?_;exact Uq
theorem nQm(hZ:FxOk Z)(cs:List Cm)(hcs:cs.length<=1000)(dD:∀c∈cs,cI c)(NQ NR NX:Nat)(la:Option Addr)(lc:Nat)(ia:Option Addr)(ic:Nat)(ta:Option Addr)(tc:Nat)(fo:Fo)(b1 b2:Nat)(W:World)(Nl:JA Z cs la ia ta ic tc NQ NR NX W)(hR:NR<=b1/\b1<NX/\NR<=b2/\b2<NX)(aR:W.heap[b1]? =some (.cells (xq Z cs la lc ⟨ia,ic,ta,tc⟩) 92 (0,0)))(aH:W.heap[b2]? =some (.cells (pg fo) 50 (0,0))):vZ prog 50 [ptr b1 0,ptr b2 0] (λd:Cd=>[.agg (dF d)]) (λ(p:List Cd) (_:aB) (_:World)=>p.length<=cs.length) (λ(xs:List Cd) (Y:aB) (A:World)=>(jU Z cs fo (xs.map ll)/\xs.length<=cs.length)/\∀e∈xs,aL A.heap.size A e.x/\dp Y e.x/\aW NQ e.x) (λ_=>False) (BY NQ NR NX) W:=by
 intro l M I X0 hM hI hX hy h0;have aY:¬(cj hM (λ_=>False) (hI [] _)).X b1:=by rintro(h|h);(exact(hM _ h).2.2 ⟨hR.2.1,.inr hR.1⟩);(exact h.elim)
 have aF:¬(cj hM (λ_=>False) (hI [] _)).X b2:=by rintro(h|h);(exact(hM _ h).2.2 ⟨hR.2.2.2,.inr hR.2.2.1⟩);(exact h.elim)
 have hNX:=Nl.x;have hNQ:=Nl.q;have hN3:=Nl.n3;refine nN (cj hM (λ_=>False) (hI [] _)) [] (vs:=[_,_,_]) func50 rfl ntmps50 rfl (IP hM (hI [] _) h0 z1 I0 z1) ?_;refine B 2 ?_;refine rr (.agg (xq Z cs la lc ⟨ia,ic,ta,tc⟩)) (ag isAgg92 sizeOf92 rfl A0 aR aY trivial (aV rfl)) ?_;refine rr (.agg (pg fo)) (ag isAgg50 sizeOf50 rfl A0 aH aF trivial (aV rfl)) ?_;refine nu (α:=Cd×Bool) (v:=λq=>.tuple #[.agg (dF q.1),.bool q.2]) (Φ:=λW q w'=>(q.2=true/\BV Z cs fo=some (pf q.1)/\uN Z cs (g0 fo) q.1/\aL w'.heap.size w' q.1.x/\aW W.heap.size q.1.x)\/(q.2=false/\BV Z cs fo=none)) call51 rfl rfl rfl (λW9 hS=>by
  obtain⟨h1,h2,h3,h4⟩:=Nl.args (hS.links W A0).size (Nl.same hS A0 (λk hk=>hk.elim) True.intro);exact nco hZ cs hcs dD W9.heap.size la lc W9 (ao _) h1 h2 ia ic ta tc h3 fo h4) ?_
 rintro W9 ⟨d,TP⟩ w9 lF vF hph;have mz:=vF.size;have hzW:=(lF.links W A0).size;refine B 3 ?_;refine Pw ?_;refine yW ?_;intro b4 dQ dV;refine MR ?_;refine B 4 ?_;refine CJ.loop (α:=((((List Cd×Cd)×Bool)×aB)×World)×Nat) (λp=>[(0,yv l),(1,ptr b1 0),(2,ptr b2 0),(4,ptr p.2 0),(5,.bool p.1.1.1.2)]) (λp=>[(p.2,.cells (dF p.1.1.1.1.2) 101 (0,0))]) (λp=>[p.1.2,W]) (λp=>cj hM p.1.1.2 (hI p.1.1.1.1.1 p.1.1.2)) (λp=>(∀k,p.1.1.2 k->W.heap.size<=k)/\W.heap.size<=p.2/\W.heap.size<=p.1.2.heap.size/\p.1.1.1.1.1.length<=cs.length/\((p.1.1.1.2=true/\GY Z cs fo M p.1.1.1.1.1 p.1.1.1.1.2 p.1.1.2 p.1.2 p.2/\aW NQ p.1.1.1.1.2.x)\/(p.1.1.1.2=false/\jU Z cs fo (p.1.1.1.1.1.map ll)))/\∀e∈p.1.1.1.1.1,aL p.1.2.heap.size p.1.2 e.x/\dp (λk=>M k\/p.1.1.2 k) e.x/\mE p.2 e.x/\aW NQ e.x) (λp=>cs.length+1-p.1.1.1.1.1.length) ((((([],d),TP),λ_=>False),w9),b4) ⟨λ_ h=>h.elim,by dsimp only;omega,by dsimp only;omega,cZ _,hph.imp (λh=>⟨h.1,GY.first h.2.1 h.2.2.1 h.2.2.2.1 h.2.2.2.2 (λk hk=>by have:=(hM k hk).1;omega) dL,h.2.2.2.2.mono zM⟩) (λh=>⟨h.1,h.2⟩),λe he=>by cases he⟩ zR rfl rfl z1 ?_;rintro⟨⟨⟨⟨⟨pre,d⟩,TP⟩,V⟩,wk⟩,b4⟩ ⟨hV,MQ,hwk,hpl,jf,Cq⟩;dsimp only at hV MQ hwk hpl jf Cq ⊢;clear aY aF;have aY:¬(cj hM V (hI pre V)).X b1:=by rintro(h|h);(exact(hM _ h).2.2 ⟨hR.2.1,.inr hR.1⟩);(have:=hV _ h;omega)
 have aF:¬(cj hM V (hI pre V)).X b2:=by rintro(h|h);(exact(hM _ h).2.2 ⟨hR.2.2.2,.inr hR.2.2.1⟩);(have:=hV _ h;omega)
 refine B 2 ?_;rcases jf with⟨rfl,kN,hdn⟩|⟨rfl,bZ⟩
 ·refine B 4 ?_;refine TR ?_;refine JI (λ_=>False) id LR (V:=V) (λV=>hI (pre++[d]) V) hX hV rfl rfl rfl rfl (λW1 _ SG kI=>hy pre d V W1 (by have:=kN.mu;show(pre++[d]).length<=cs.length;rw[cF,BH];omega) SG kI) ?_ ?_
  ·intro V2 vD qA;have qM:=qA wk A0;have xx:∀k,V2 k->W.heap.size<=k:=λk hk=>by rcases qM k hk with h|h;(exact hV k h);omega
   have aY:¬(cj hM V2 (hI (pre++[d]) V2)).X b1:=by rintro(h|h);(exact(hM _ h).2.2 ⟨hR.2.1,.inr hR.1⟩);(have:=xx _ h;omega)
   have aF:¬(cj hM V2 (hI (pre++[d]) V2)).X b2:=by rintro(h|h);(exact(hM _ h).2.2 ⟨hR.2.2.2,.inr hR.2.2.1⟩);(have:=xx _ h;omega)
   have Cr:dp (λk=>M k\/V2 k) d.x:=kN.out.up kN.lies (λk hk=>hk.elim (λh=>.inl (.inl h)) (λh=>(qM k h).imp .inr id));have JJ:∀e∈pre++[d],dp (λk=>M k\/V2 k) e.x:=λe he=>by
    rcases cO.1 he with he|he
    ·exact(Cq e he).2.1.up (Cq e he).1 (λk hk=>hk.elim (λh=>.inl (.inl h)) (λh=>(qM k h).imp .inr id))
    rw[qd.1 he];exact Cr
   refine B 14 ?_;refine TR ?_;refine B 2 ?_;refine nIo (i:=0) (L':=[W]) rfl zZ z1 (λWr o6=>?_);have gn:aL Wr.heap.size Wr d.x:=kN.lies.toZ o6 A0 (ao _) Cr (λp hp=>by rw[qd.1 hp];exact kN.off);have mB:=(o6.links W A1).size;have jB:∀e∈pre++[d],aW NQ e.x:=λe he=>by
    rcases cO.1 he with he|he
    ·exact(Cq e he).2.2.2
    rw[qd.1 he];exact hdn
   have Nn:∀e∈pre++[d],aL Wr.heap.size Wr e.x:=λe he=>by
    rcases cO.1 he with he|he
    ·exact(Cq e he).1.toZ o6 A0 (ao _) (JJ e (cO.2 (.inl he))) (λp hp=>by rw[qd.1 hp];exact(Cq e he).2.2.1)
    rw[qd.1 he];exact gn
   refine B 1 ?_;refine Pw ?_;refine yW ?_;intro b4 dQ dV;refine MR ?_;refine B 3 ?_;refine rr (.agg (xq Z cs la lc ⟨ia,ic,ta,tc⟩)) (ag isAgg92 sizeOf92 rfl A1 aR aY zL (aV rfl)) ?_;refine B 1 ?_;refine rr (.agg (aX d.x)) (de (i:=0) rfl isAgg57 sizeOf57 rfl (aV rfl)) ?_;refine nu (α:=Cd×Bool) (v:=λq=>.tuple #[.agg (dF q.1),.bool q.2]) (Φ:=λW q w'=>(q.2=true/\D6 Z cs d.x.g=some (pf q.1)/\oc Z cs d.x.g q.1/\aL w'.heap.size w' q.1.x/\aW W.heap.size q.1.x)\/(q.2=false/\D6 Z cs d.x.g=none)) call52 rfl rfl rfl (λW9 hS=>by
    obtain⟨h1,h2,h3,h4⟩:=Nl.args (hS.links W A1).size (Nl.same hS A1 xx ⟨dQ.2.1,True.intro⟩);exact nPm hZ cs hcs dD W9.heap.size la lc W9 (ao _) h1 h2 ia ic ta tc h3 d.x (gn.toZ hS A0 (ao _) Cr (λp hp=>by rw[qd.1 hp];exact gn.off dL)) h4) ?_
   rintro W9 ⟨d2,ok2⟩ w9 lF vF hph;have mz:=vF.size;have hzW:=(lF.links W A1).size;have sK:=lF.lt (b4,_) A0;try dsimp only at sK
   have hV9:∀k,V2 k->k<W9.heap.size:=λk hk=>lF.xlt k (.inr hk);have hM9:∀k,M k->k<W9.heap.size:=λk hk=>lF.xlt k (.inl hk);have aej:∀e∈pre++[d],aL w9.heap.size w9 e.x:=λe he=>by
    have h9:=(Nn e he).toZ lF A0 (ao _) (JJ e he) (λp hp=>by rw[qd.1 hp];exact(Nn e he).off dL);exact h9.up vF.size (λk hk=>vF.block k hk)
   refine B 3 ?_;refine MR ?_;refine B 2 ?_;refine PJ.again (((((pre++[d],d2),ok2),V2),w9),b4) ⟨xx,by dsimp only;omega,by dsimp only;omega,by have:=kN.mu;dsimp only;rw[cF,BH];omega,hph.imp (λh=>⟨h.1,kN.step h.2.1 h.2.2.1.le h.2.2.2.1 h.2.2.2.2 hM9 hV9 sK,h.2.2.2.2.mono zM⟩) (λh=>⟨h.1,kN.stop h.2⟩),λe he=>⟨aej e he,JJ e he,(Nn e he).off dL,jB e he⟩⟩ (by have:=kN.mu;dsimp only;rw[cF,BH];omega) zR rfl rfl z1
  intro V2 vD qA;have qM:=qA wk A0;have xx:∀k,V2 k->W.heap.size<=k:=λk hk=>by rcases qM k hk with h|h;(exact hV k h);omega
  refine B 8 ?_;exact Ur (Fin:=(λ(xs:List Cd) (Y:aB) (A:World)=>(jU Z cs fo (xs.map ll)/\xs.length<=cs.length)/\∀e∈xs,aL A.heap.size A e.x/\dp Y e.x/\aW NQ e.x)) (.inr rfl) results50 A1 xx (by intro k hk hx;simp at hx;omega) (λA Us hA=>.inr hA)
 refine B 14 ?_;exact Ur (Fin:=(λ(xs:List Cd) (Y:aB) (A:World)=>(jU Z cs fo (xs.map ll)/\xs.length<=cs.length)/\∀e∈xs,aL A.heap.size A e.x/\dp Y e.x/\aW NQ e.x)) (.inr rfl) results50 A1 hV (by intro k hk hx;simp at hx;omega) (λA Us hA=>.inl ⟨pre,⟨⟨bZ,hpl⟩,λe he=>⟨(Cq e he).1.toZ Us A0 (ao _) (Cq e he).2.1 (λp hp=>by rw[qd.1 hp];exact(Cq e he).2.2.1),(Cq e he).2.1,(Cq e he).2.2.2⟩⟩,hA⟩)
theorem dp.off{Y:aB}{x:Gv}(h:dp Y x)(hb:Y b):mE b x:=⟨λq e=>(h.1 q e).imp id (λh1 e2=>h1 (e2▸hb)),λq e=>(h.2 q e).imp id (λh1 e2=>h1 (e2▸hb))⟩
theorem dp.none{x:Gv}:dp Gh.no.X x:=⟨λq e=>.inr zX,λq e=>.inr zX⟩
theorem nGf(hZ:FxOk Z)(cs:List Cm)(hcs:cs.length<=1000)(dD:∀c∈cs,cI c)(N:Nat)(la:Option Addr)(lc:Nat)(w:World)(hN:N<=w.heap.size)(aJ:ah dY 73 N w la cs)(hC:∀c∈cs,dJ N w c)(fo:Fo)(hg:Glb w):Calls prog 11 #[.agg (pg fo),.slice la cs.length lc] w (cu w (λq:((Option Addr×Nat)×(Option Addr×Nat))×List Cd=>.tuple #[.slice q.1.1.1 q.2.length q.1.1.2,.slice q.1.2.1 q.2.length q.1.2.2]) (λq w1=>(jU Z cs fo (q.2.map ll)/\q.2.length<=cs.length)/\ah (λx=>(ai x).toArray) 1 w1.heap.size w1 q.1.1.1 (q.2.map λd=>d.at_)/\ah (λx=>(iA x).toArray) 36 w1.heap.size w1 q.1.2.1 (q.2.map λd=>d.x)/\(∀p,q.1.1.1=some p->w.heap.size<=p.block)/\(∀p,q.1.2.1=some p->w.heap.size<=p.block)/\∀d∈q.2,aL w1.heap.size w1 d.x/\aW w.heap.size d.x)):=by
 have eC:=hg.lt;refine xK Gh.no [] (vs:=[_,_]) func11 rfl ntmps11 rfl (u7 w) ?_;refine B 2 ?_;refine yX ?_;intro b2 w2 aH aF dS cE cX;refine aU zeroValue44 rfl rfl ?_;refine yW ?_;intro b4 dQ dV;refine aU zeroValue46 rfl rfl ?_;refine yW ?_;intro b5 gQ gR;refine B 4 ?_;refine ZJ ?_;refine nJ 3 [1] [([],some _),([0],none),([],some _)] (λcv L' H'=>match cv with| []=>L'=[w2,w]/\H'=[(b5,.cells #[.slice none 0 0] 46 (0,0)),(b4,.cells #[.slice none 0 0] 44 (0,0))]| [v1]=>∃(NR:Nat) (ia:Option Addr) (ic:Nat) (ta:Option Addr) (tc:Nat) (wp:World),v1= .agg (xq Z cs la lc ⟨ia,ic,ta,tc⟩)/\L'=[wp,w2,w]/\H'=[(b5,.cells #[.slice none 0 0] 46 (0,0)),(b4,.cells #[.slice none 0 0] 44 (0,0))]/\mj Z cs wp.heap.size wp ⟨ia,ic,ta,tc⟩/\(∀q,ia=some q->NR<=q.block)/\(∀q,ta=some q->NR<=q.block)/\b5<NR/\b4<NR/\w.heap.size<=NR/\NR<=wp.heap.size|_=>False) zT ⟨rfl,rfl⟩ zT zT zT zT zT zT (pc zW (pk (pc (λcv L' H' hd hP=>match cv,hd,hP with| [],hd,hP=>(by obtain⟨rfl,rfl⟩:=hP;exact X.val rfl rfl (af isAgg50 sizeOf50 rfl A0 aH aF zL rfl) R2)| [v1],hd,hP=>(by obtain⟨NR,ia,ic,ta,tc,wp,rfl,rfl,rfl,yn,tv,Ut,hNR⟩:=hP;exact X.val rfl rfl (af isAgg50 sizeOf50 rfl A1 aH aF zL rfl) R2)|_::_::_,_,hP=>hP.elim) (pn)))) ?_ ?_
 ·refine sc rfl rfl rfl ?_ ?_
  ·intro cv L' H' hl hP F Q' hk;obtain rfl:=ja hl;obtain⟨rfl,rfl⟩:=hP;refine nu (α:=Pv) (v:=λp=>.agg (xq Z cs la lc p)) (Φ:=λW p w1=>mj Z cs w1.heap.size w1 p/\(∀q,p.ia=some q->W.heap.size<=q.block)/\∀q,p.ta=some q->W.heap.size<=q.block) call22 rfl rfl rfl (λW hS=>Px.newPool hZ cs hcs dD N la lc W (aS hN (hS.links w A1).size) (aJ.up (ao _) (hS.same A1 hN zU ⟨by dsimp only;omega,by dsimp only;omega,True.intro⟩)) (λc hc=>(hC c hc).up (ao _) (hS.same A1 hN zU ⟨by dsimp only;omega,by dsimp only;omega,True.intro⟩)) (hg.old hS A1 zU ⟨by dsimp only;omega,by dsimp only;omega,True.intro⟩)) ?_;rintro Wp ⟨ia,ic,ta,tc⟩ wp wX Lq ⟨yn,tv,Ut⟩;try dsimp only at yn tv Ut
   have l5:=wX.lt (b5,_) A0;have l4:=wX.lt (b4,_) A1;try dsimp only at l4 l5
   have lw:=(wX.links w A1).size;exact OJ.done (hk _ _ _ ⟨Wp.heap.size,ia,ic,ta,tc,wp,rfl,rfl,rfl,yn,tv,Ut,l5,l4,lw,Lq.size⟩)
  exact sn
 intro cv L' H' hl hP;obtain⟨v1,rfl⟩:=dd hl;obtain⟨NR,ia,ic,ta,tc,wp,rfl,rfl,rfl,yn,tv,Ut,hNR⟩:=hP;refine nu (α:=Nat×Nat) (v:=λq:Nat×Nat=>.func (.func 50) #[] #[ptr q.1 0,ptr q.2 0]) (Φ:=λW q w1=>W.heap.size<=q.1/\W.heap.size<=q.2/\w1.heap[q.1]? =some (.cells (xq Z cs la lc ⟨ia,ic,ta,tc⟩) 92 (0,0))/\w1.heap[q.2]? =some (.cells (pg fo) 50 (0,0))) call23 rfl rfl rfl (λW hS=>nho Z cs la lc ia ic ta tc fo W) ?_;rintro Wn q wn jc o7 ⟨eN,eQ,du,fu⟩;try dsimp only at eN eQ du fu
 have sf:=(aM.1 du).1;have sh:=(aM.1 fu).1;have DW:=o7.size;have ahC:=(jc.links wp A0).size;refine B 3 ?_;refine CJ.range3 (f:=50) (cap:=[ptr q.1 0,ptr q.2 0]) (α:=Cd) (enc:=(λd:Cd=>[.agg (dF d)])) (Pre:=(λ(p:List Cd) (_:aB) (_:World)=>p.length<=cs.length)) (Fin:=(λ(xs:List Cd) (Y:aB) (A:World)=>(jU Z cs fo (xs.map ll)/\xs.length<=cs.length)/\∀e∈xs,aL A.heap.size A e.x/\dp Y e.x/\aW w.heap.size e.x)) (RO:=BY w.heap.size NR wn.heap.size) (MI:=λ_=>False) rfl call50 (λW' W2 hS hB=>by have l1:=(hS.links wn A0).size;exact nQm hZ cs hcs dD w.heap.size NR wn.heap.size la lc ia ic ta tc fo q.1 q.2 W2 (JA.mk2 hN aJ hC hg yn tv Ut hS A3 A1 A0 hB zM zM (λp hp=>by simp only[cP,fG,or_false]at hp;rcases hp with rfl|rfl<;>(dsimp only;omega))) zM SJ SK) (λ_ _ _ hk=>hk.elim) (λW' hS k hk=>by have h1:=hk.1;have h2:=hk.2;have l1:=(hS.links wn A0).size;exact⟨by omega,by simp only[eE,iD,cP,fG,or_false];omega,λh=>h⟩) (λ_=>rfl) (λpre G' Hc=>G'=Gh.no/\∃r1 r2:Rw,r1.Fr Gh.no [wn,wp,w2,w]/\r1.Fit 1 (pre.map λd=>d.at_)/\r2.Fr Gh.no [wn,wp,w2,w]/\r2.Fit 36 (pre.map λd=>d.x)/\Hc=[(b5,.cells #[r2.val (pre.map λd=>d.x).length] 46 (0,0)),(b4,.cells #[r1.val (pre.map λd=>d.at_).length] 44 (0,0))]++(r1.hp ai 3 (pre.map λd=>d.at_)++(r2.hp iA 57 (pre.map λd=>d.x)++[]))) (λ_ _ _=>False) ⟨rfl,.nil,.nil,True.intro,rfl,True.intro,rfl,rfl⟩ zQ ?_ ?_ ?_
 ·rintro pre x G' Hc l Dk rec W1 M V Wy jX ov dU ⟨rfl,r1,r2,jo,ew,gG,iS,rfl⟩ dr fK Dh oL bj th;simp only[ad]at dr oL;have iq:r1.ge wn.heap.size:=Rw.ge_of jo A0;have dN:r2.ge wn.heap.size:=Rw.ge_of gG A0;have hpl:(pre++[x]).length<=cs.length:=dU;simp only[cF,dW,lC]at hpl;have Hp:∀p∈r1.hp ai 3 (pre.map λd=>d.at_),M p.1\/V p.1:=λp hp=>bj.loc.h p RR;have aek:∀p∈r2.hp iA 57 (pre.map λd=>d.x),M p.1\/V p.1:=λp hp=>bj.loc.h p (by simp only[cO];exact .inr (.inr (.inl hp)));refine B 1 ?_;refine Pw ?_;refine yW ?_;intro b6 gS lB;refine MR ?_;refine B 1 ?_;refine PJ.reH (H':=book ([(b6,.cells (dF x) 101 (0,0))]++([(b5,.cells #[r2.val (pre.map λd=>d.x).length] 46 (0,0)),(b4,.cells #[r1.val (pre.map λd=>d.at_).length] 44 (0,0))]++(r1.hp ai 3 (pre.map λd=>d.at_)++(r2.hp iA 57 (pre.map λd=>d.x)++[])))) l rec (bQ Dk)) rfl ?_;refine Pb jX ?_;refine B 1 ?_;refine ng (E':=[(0,_),(1,_),(2,_),(4,_),(5,_),(6,_),(7,_),(8,_),(9,_),(10,_),(11,_)]) zR ?_;refine KW 9 [3,4,8] [([],some _),([],some _),([1],some _),([2],none),([0,3],none),([],some _),([],some _),([6],some _),([7],none)] [[],[0],[]] (λcv L' H'=>match cv with| [none,none,none]=>L'=[Wy,wn,wp,w2,w]/\H'=book ([(b6,.cells (dF x) 101 (0,0)),(b5,.cells #[r2.val (pre.map λd=>d.x).length] 46 (0,0)),(b4,.cells #[r1.val (pre.map λd=>d.at_).length] 44 (0,0))]++(r1.hp ai 3 (pre.map λd=>d.at_)++(r2.hp iA 57 (pre.map λd=>d.x)++[]))) l {rec with state:=.busy} (bQ Dk)| [none,none,some v8]=>∃(kr:Nat),v8= .slice (some ⟨kr,0,none⟩) 1 1/\L'=[Wy,wn,wp,w2,w]/\H'=book ([(kr,.cells (aX x.x) 57 (0,0)),(b6,.cells (dF x) 101 (0,0)),(b5,.cells #[r2.val (pre.map λd=>d.x).length] 46 (0,0)),(b4,.cells #[r1.val (pre.map λd=>d.at_).length] 44 (0,0))]++(r1.hp ai 3 (pre.map λd=>d.at_)++(r2.hp iA 57 (pre.map λd=>d.x)++[]))) l {rec with state:=.busy} (bQ Dk)/\ad [Wy,wn,wp,w2,w] kr| [some v3,none,none]=>∃(ei:Nat),v3= .slice (some ⟨ei,0,none⟩) 1 1/\L'=[Wy,wn,wp,w2,w]/\H'=book ([(ei,.cells #[.int .i64 x.at_] 3 (0,0)),(b6,.cells (dF x) 101 (0,0)),(b5,.cells #[r2.val (pre.map λd=>d.x).length] 46 (0,0)),(b4,.cells #[r1.val (pre.map λd=>d.at_).length] 44 (0,0))]++(r1.hp ai 3 (pre.map λd=>d.at_)++(r2.hp iA 57 (pre.map λd=>d.x)++[]))) l {rec with state:=.busy} (bQ Dk)/\ad [Wy,wn,wp,w2,w] ei| [some v3,none,some v8]=>∃(ei:Nat) (kr:Nat),v3= .slice (some ⟨ei,0,none⟩) 1 1/\v8= .slice (some ⟨kr,0,none⟩) 1 1/\L'=[Wy,wn,wp,w2,w]/\H'=book ([(kr,.cells (aX x.x) 57 (0,0)),(ei,.cells #[.int .i64 x.at_] 3 (0,0)),(b6,.cells (dF x) 101 (0,0)),(b5,.cells #[r2.val (pre.map λd=>d.x).length] 46 (0,0)),(b4,.cells #[r1.val (pre.map λd=>d.at_).length] 44 (0,0))]++(r1.hp ai 3 (pre.map λd=>d.at_)++(r2.hp iA 57 (pre.map λd=>d.x)++[]))) l {rec with state:=.busy} (bQ Dk)/\ad [Wy,wn,wp,w2,w] ei/\ad [Wy,wn,wp,w2,w] kr| [some v3,some v4,none]=>∃(ei:Nat) (cq:Nat) (gd:Nat) (gJ:List Value),v3= .slice (some ⟨ei,0,none⟩) 1 1/\v4= .slice (some ⟨cq,0,none⟩) ((pre.map λd=>d.at_)++[x.at_]).length gd/\L'=[Wy,wn,wp,w2,w]/\H'=book ([(ei,.cells #[.int .i64 x.at_] 3 (0,0)),(b6,.cells (dF x) 101 (0,0)),(b5,.cells #[r2.val (pre.map λd=>d.x).length] 46 (0,0)),(b4,.cells #[r1.val (pre.map λd=>d.at_).length] 44 (0,0))]++((Rw.row cq gd gJ).hp ai 3 ((pre.map λd=>d.at_)++[x.at_])++(r2.hp iA 57 (pre.map λd=>d.x)++[]))) l {rec with state:=.busy} (bQ Dk)/\ad [Wy,wn,wp,w2,w] ei/\(r1.isAt cq\/ad [Wy,wn,wp,w2,w] cq)/\(Rw.row cq gd gJ).Fit 1 ((pre.map λd=>d.at_)++[x.at_])| [some v3,some v4,some v8]=>∃(ei:Nat) (cq:Nat) (gd:Nat) (gJ:List Value) (kr:Nat),v3= .slice (some ⟨ei,0,none⟩) 1 1/\v4= .slice (some ⟨cq,0,none⟩) ((pre.map λd=>d.at_)++[x.at_]).length gd/\v8= .slice (some ⟨kr,0,none⟩) 1 1/\L'=[Wy,wn,wp,w2,w]/\H'=book ([(kr,.cells (aX x.x) 57 (0,0)),(ei,.cells #[.int .i64 x.at_] 3 (0,0)),(b6,.cells (dF x) 101 (0,0)),(b5,.cells #[r2.val (pre.map λd=>d.x).length] 46 (0,0)),(b4,.cells #[r1.val (pre.map λd=>d.at_).length] 44 (0,0))]++((Rw.row cq gd gJ).hp ai 3 ((pre.map λd=>d.at_)++[x.at_])++(r2.hp iA 57 (pre.map λd=>d.x)++[]))) l {rec with state:=.busy} (bQ Dk)/\ad [Wy,wn,wp,w2,w] ei/\(r1.isAt cq\/ad [Wy,wn,wp,w2,w] cq)/\(Rw.row cq gd gJ).Fit 1 ((pre.map λd=>d.at_)++[x.at_])/\ad [Wy,wn,wp,w2,w] kr|_=>False) zT ⟨rfl,rfl⟩ zT zT zT zT zT zT rfl (qc Yj (qc (by exact λcv L' H' _ _ hP=>X.val rfl rfl (ak underlying101 rfl sizeOf3 rfl) R2) (qc Yj (qk (qk (qc Yj (qc (by exact λcv L' H' _ _ hP=>X.val rfl rfl (ak underlying101 rfl sizeOf57 rfl) R2) (qc Yj (qk (qn)))))))))) ?_ ?_
  ·refine nc rfl rfl rfl rfl ?_ ?_
   ·intro cv L' H' hl hr hP F Q' hk;obtain⟨x3,x4,x8,rfl⟩:=fM hl;rcases x3 with _|v3<;>rcases x4 with _|v4<;>rcases x8 with _|v8<;>try exact False.elim hP
    ·obtain⟨rfl,rfl⟩:=hP;refine vo ?_;intro ei ha ho;exact OJ.done (hk _ _ _ ⟨ei,rfl,rfl,rfl,ha⟩)
    ·obtain⟨kr,rfl,rfl,rfl,qx⟩:=hP;refine vo ?_;intro ei ha ho;refine OJ.perm (List.Perm.swap _ _ _) ?_;exact OJ.done (hk _ _ _ ⟨ei,kr,rfl,rfl,rfl,rfl,ha,qx⟩)
    ·exact ec
    ·exact ec
    ·exact ec
    exact ec
   refine nc rfl rfl rfl rfl ?_ ?_
   ·intro cv L' H' hl hr hP F Q' hk;obtain⟨x3,x4,x8,rfl⟩:=fM hl;rcases x3 with _|v3<;>rcases x4 with _|v4<;>rcases x8 with _|v8<;>try exact False.elim hP
    ·exact ec
    ·exact ec
    ·obtain⟨ei,rfl,rfl,rfl,iy⟩:=hP;refine oY (r:=r1) (xs:=(pre.map λd=>d.at_)) (zs:=[x.at_]) (enc:=ai) (m:=1) (H0:=[(ei,.cells #[.int .i64 x.at_] 3 (0,0)),(b6,.cells (dF x) 101 (0,0)),(b5,.cells #[r2.val (pre.map λd=>d.x).length] 46 (0,0)),(b4,.cells #[r1.val (pre.map λd=>d.at_).length] 44 (0,0))]) (H1:=(r2.hp iA 57 (pre.map λd=>d.x)++[])++((l,.loop {rec with state:=.busy})::bQ Dk)) xL DJ nr rfl rfl rfl rfl (dt.one (z:=x.at_) nr DL underlying44 (bL.own (i:=0) rfl)) ew (Rw.Fr_ext Hp) z1 K7 ?_;intro cq gd gJ jR fO;exact OJ.done (hk _ _ _ ⟨ei,cq,gd,gJ,rfl,rfl,rfl,rfl,iy,jR,fO⟩)
    ·obtain⟨ei,kr,rfl,rfl,rfl,rfl,iy,qx⟩:=hP;refine oY (r:=r1) (xs:=(pre.map λd=>d.at_)) (zs:=[x.at_]) (enc:=ai) (m:=1) (H0:=[(kr,.cells (aX x.x) 57 (0,0)),(ei,.cells #[.int .i64 x.at_] 3 (0,0)),(b6,.cells (dF x) 101 (0,0)),(b5,.cells #[r2.val (pre.map λd=>d.x).length] 46 (0,0)),(b4,.cells #[r1.val (pre.map λd=>d.at_).length] 44 (0,0))]) (H1:=(r2.hp iA 57 (pre.map λd=>d.x)++[])++((l,.loop {rec with state:=.busy})::bQ Dk)) xL DJ nr rfl rfl rfl rfl (dt.one (z:=x.at_) nr DL underlying44 (bL.own (i:=1) rfl)) ew (Rw.Fr_ext Hp) z1 K7 ?_;intro cq gd gJ jR fO;exact OJ.done (hk _ _ _ ⟨ei,cq,gd,gJ,kr,rfl,rfl,rfl,rfl,rfl,iy,jR,fO,qx⟩)
    ·exact ec
    exact ec
   refine nc rfl rfl rfl rfl ?_ ?_
   ·intro cv L' H' hl hr hP F Q' hk;obtain⟨x3,x4,x8,rfl⟩:=fM hl;rcases x3 with _|v3<;>rcases x4 with _|v4<;>rcases x8 with _|v8<;>try exact False.elim hP
    ·obtain⟨rfl,rfl⟩:=hP;refine zuh ?_;intro kr ha ho;exact OJ.done (hk _ _ _ ⟨kr,rfl,rfl,rfl,ha⟩)
    ·exact ec
    ·obtain⟨ei,rfl,rfl,rfl,iy⟩:=hP;refine zuh ?_;intro kr ha ho;exact OJ.done (hk _ _ _ ⟨ei,kr,rfl,rfl,rfl,rfl,iy,ha⟩)
    ·exact ec
    ·obtain⟨ei,cq,gd,gJ,rfl,rfl,rfl,rfl,iy,jR,fO⟩:=hP;refine zuh ?_;intro kr ha ho;exact OJ.done (hk _ _ _ ⟨ei,cq,gd,gJ,kr,rfl,rfl,rfl,rfl,rfl,iy,jR,fO,ha⟩)
    exact ec
   exact nn
  intro cv L' H' hl hr hP;obtain⟨x3,x4,x8,rfl⟩:=fM hl;rcases x3 with _|v3<;>rcases x4 with _|v4<;>rcases x8 with _|v8
  ·exact aA
  ·exact aA
  ·exact aA
  ·exact aA
  ·exact aA
  ·exact aA
  ·exact aA
  obtain⟨ei,cq,gd,gJ,kr,rfl,rfl,rfl,rfl,rfl,iy,jR,fO,qx⟩:=hP;simp only[ad]at iy qx jR;refine oY (r:=r2) (xs:=(pre.map λd=>d.x)) (zs:=[x.x]) (enc:=iA) (m:=36) (H0:=[(kr,.cells (aX x.x) 57 (0,0)),(ei,.cells #[.int .i64 x.at_] 3 (0,0)),(b6,.cells (dF x) 101 (0,0)),(b5,.cells #[r2.val (pre.map λd=>d.x).length] 46 (0,0)),(b4,.cells #[r1.val (pre.map λd=>d.at_).length] 44 (0,0))]++(Rw.row cq gd gJ).hp ai 3 ((pre.map λd=>d.at_)++[x.at_])) (H1:=(l,.loop {rec with state:=.busy})::bQ Dk) wQ Mu nHj rfl rfl rfl rfl (dt.one (z:=x.x) nHj GF underlying46 (bL.own (i:=0) rfl)) iS (Rw.Fr_ext aek) z1 K7 ?_;intro pD Am An rZ ux;replace rZ:=yb rZ;refine aZ (i:=4) rfl sizeOf44 rfl rfl rfl rfl rfl rfl ?_;refine aZ (i:=3) rfl sizeOf46 rfl rfl rfl rfl rfl rfl ?_;refine B 2 ?_;refine FI ?_;refine mx ?_;refine DM (G2:=Gh.no) (Hc2:=[(b5,.cells #[(Rw.row pD Am An).val ((pre.map λd=>d.x)++[x.x]).length] 46 (0,0)),(b4,.cells #[(Rw.row cq gd gJ).val ((pre.map λd=>d.at_)++[x.at_]).length] 44 (0,0))]++((Rw.row cq gd gJ).hp ai 3 ((pre.map λd=>d.at_)++[x.at_])++((Rw.row pD Am An).hp iA 57 ((pre.map λd=>d.x)++[x.x])++[]))) bj fK ⟨λ_ h=>h,λ_ h=>.inl h,λ_ h=>.inl h,(nXo rfl (jR.imp id (λh=>h.1)) (rZ.imp id (λh=>h.1))),zre⟩ (DN jX ov) ?_
  exact⟨rfl,.row cq gd gJ,.row pD Am An,jR.elim (λh=>Rw.Fr_at jo h) (λh=>.inr h.2),by rw[gj];exact fO,rZ.elim (λh=>Rw.Fr_at gG h) (λh=>.inr h.2),by rw[gj];exact ux,by rw[gj,gj];rfl⟩
 ·rintro im l Dk rec G' Hc Zf Wd ⟨bZ,JK⟩ hZf dr fK ⟨rfl,r1,r2,jo,ew,gG,iS,rfl⟩;replace dr:=yb dr;have iq:r1.ge wn.heap.size:=Rw.ge_of jo A0;have dN:r2.ge wn.heap.size:=Rw.ge_of gG A0;refine O1 λWe hSe=>?_;have kG:=Lc hSe;refine B 3 ?_;refine ng (E':=[(0,_),(1,_),(2,_),(4,_),(5,_),(7,_),(8,_),(9,_),(10,_)]) zR ?_;refine Th 3 [2] [([],some (r1.val (im.map λd=>d.at_).length)),([],some (r2.val (im.map λd=>d.x).length)),([0],none)] (λcv L' H'=>match cv with| []=>L'=[Wd,wn,wp,w2,w]/\H'=book ([(b5,.cells #[r2.val (im.map λd=>d.x).length] 46 (0,0)),(b4,.cells #[r1.val (im.map λd=>d.at_).length] 44 (0,0))]++(r1.hp ai 3 (im.map λd=>d.at_)++(r2.hp iA 57 (im.map λd=>d.x)++[]))) l rec (bQ Dk)| [v1]=>v1= .tuple #[]/\L'=[Wd,wn,wp,w2,w]/\H'=book ([(b5,.cells #[r2.val (im.map λd=>d.x).length] 46 (0,0)),(b4,.cells #[r1.val (im.map λd=>d.at_).length] 44 (0,0))]++(r1.hp ai 3 (im.map λd=>d.at_)++(r2.hp iA 57 (im.map λd=>d.x)++[]))) l rec (bQ Dk)|_=>False) zT ⟨rfl,rfl⟩ zT zT zT zT zT zT zT (pc D8 (pc D8 (pk (pn)))) ?_ ?_
  ·refine ss rfl rfl ?_ ?_
   ·intro cv L' H' hl hP F Q' hk;obtain rfl:=ja hl;obtain⟨rfl,rfl⟩:=hP;refine aZ (i:=1) rfl sizeOf44 rfl rfl rfl (Rw.val_size _ _) rfl (Rw.val_one _ _) ?_;refine OJ.reH (H':=book ([(b5,.cells #[r2.val (im.map λd=>d.x).length] 46 (0,0)),(b4,.cells #[r1.val (im.map λd=>d.at_).length] 44 (0,0))]++(r1.hp ai 3 (im.map λd=>d.at_)++(r2.hp iA 57 (im.map λd=>d.x)++[]))) l rec (bQ Dk)) (by simp[book];exact Rw.val_cells _ _) ?_;exact OJ.done (hk (.tuple #[]) _ _ ⟨rfl,rfl,rfl⟩)
   exact X3
  intro cv L' H' hl hP;obtain⟨v1,rfl⟩:=dd hl;obtain⟨rfl,rfl,rfl⟩:=hP;refine aZ (i:=0) rfl sizeOf46 rfl rfl rfl (Rw.val_size _ _) rfl (Rw.val_one _ _) ?_;refine B 3 ?_;refine PJ.reH (H':=book ([(b5,.cells #[r2.val (im.map λd=>d.x).length] 46 (0,0)),(b4,.cells #[r1.val (im.map λd=>d.at_).length] 44 (0,0))]++(r1.hp ai 3 (im.map λd=>d.at_)++(r2.hp iA 57 (im.map λd=>d.x)++[]))) l rec (bQ Dk)) (by simp[book];exact Rw.val_cells _ _) ?_;refine TY (.inl rfl) results11 isAgg44 isAgg46 rfl rfl xL A1 A0 (kG _ A1).1 (kG _ A0).1 rfl rfl (λW H' hS bO bY=>?_);have BI:r1.At ai 3 (im.map λd=>d.at_) W:=by
   exact zPk
  have Mz:r2.At iA 57 (im.map λd=>d.x) W:=by
   cases r2 with
   |nil=>trivial
   |row b cap sp=>exact hS.own (b,_) (bY _ (by simp[book,Rw.hp]) (kG _ vv).1)
  obtain⟨a1,c1,rV,BJ⟩:=Rw.sl nr ew BI (ao W.heap.size);obtain⟨a2,c2,zH,hs2⟩:=Rw.sl nHj iS Mz (ao W.heap.size);refine⟨(((a1,c1),(a2,c2)),im),?_,?_,bZ,BJ,hs2,Rw.val_new (Rw.ge_mono iq zM) rV,Rw.val_new (Rw.ge_mono dN zM) zH,λd hd=>⟨(JK d hd).1.toZ hS A0 (ao _) dp.none (λp hp=>?_),(JK d hd).2.2⟩⟩
  ·show Ending.returned (.tuple #[r1.val _,r2.val _])=_;rw[rV,zH];simp
  ·exact(hS.links w A4).below (λk hk hx=>by rcases hx with hx|hx;(exact hx);rw[bO]at hx;simp only[book,gj,eE,iD,cO,cP,fG,or_false]at hx;rcases hx with((hx|hx)|hx|hx)|hx|hx<;>first|omega|(have:=Rw.mem_ge iq hx;omega)|(have:=Rw.mem_ge dN hx;omega))
  have h9:p.1∈H'.map (·.1):=bU.2 ⟨p,hp,rfl⟩;rw[bO]at h9;obtain⟨p2,tv,e9⟩:=bU.1 h9;rw[<-e9];exact(JK d hd).2.1.off (hZf p2 tv)
 exact RT
theorem fw.find{α:Type}{p:α->Bool}{xs:List α}{x:α}(fm:fw p xs k)(hk:xs[k]? =some x)(hp:p x=true):xs.find? p=some x:=by
 rw[List.find?_eq_some_iff_getElem];obtain⟨hl,he⟩:=gD.1 hk;refine⟨hp,k,hl,he,λj hj=>?_⟩;have:=fm j xs[j] hj (gV zM);simpa using this
theorem nen{α:Type}{p:α->Bool}{xs:List α}(h:xs.any p=false):xs.find? p=none:=by
 rw[List.find?_eq_none];intro x hx;have:=List.any_eq_false.1 h x hx;simpa using this
open Classical in
noncomputable def Cs (Z:Fx) (cs:List Cm) (fo:Fo):List (Nat×Gp):=if h:∃l,jU Z cs fo l then h.choose else[]
theorem nin{cs:List Cm}{l:List (Nat×Gp)}(h:jU Z cs fo l):Cs Z cs fo=l:=by
 have h2:∃l,jU Z cs fo l:=⟨l,h⟩;unfold Cs;rw[dif_pos h2];exact h2.choose_spec.uniq h
noncomputable def po (Z:Fx) (s:Sc) (d:Int):List Gp:=match s.fos.find? (λf=>decide (f.id=d))with
 |some fo=>(Cs Z s.cs fo).map (·.2)
 |none=>[]
theorem Uu(h:s.fos.any (λf=>decide (f.id=d))=false):po Z s d=[]:=by
 unfold po;rw[nen h]
theorem Np{ds:List Cd}(fm:fw (λf=>decide (f.id=d)) s.fos k)(hk:s.fos[k]? =some fo)(hp:decide (fo.id=d)=true)(hc:jU Z s.cs fo (ds.map ll)):po Z s d=ds.map λd=>d.x.g:=by
 unfold po;rw[fm.find hk hp];show(Cs Z s.cs fo).map (·.2)=_;rw[nin hc,List.map_map];rfl
theorem St.ro{MI RO V:aB}{hM:∀k,M k->k<W.heap.size/\¬MI k/\¬RO k}{hI:eA (λk=>(k<W.heap.size/\¬MI k)\/V k) I}(hS:St (cj hM V hI) L H W')(hw:W∈L)(hV:∀k,V k->W.heap.size<=k)(ho:Over W.heap.size H)(hk:RO k)(X4:k<W.heap.size):W'.heap[k]? =W.heap[k]? :=by
 refine(hS.links W hw).block k X4 ?_;rintro((h1|h1)|h1)
 ·exact(hM k h1).2.2 hk
 ·have:=hV k h1;omega
 obtain⟨p,hp,rfl⟩:=bU.1 h1;have:=ho.mem p hp;omega
theorem Glb.up{w:World}(h:Glb w)(hB:∀k,k<5->W.heap[k]? =w.heap[k]?):Glb W:=by
 obtain⟨⟨t,fr,h0⟩,t2,qj,h2⟩:=h;exact⟨⟨t,fr,(hB _ zQ).trans h0⟩,t2,qj,(hB _ zQ).trans h2⟩
def sN (N b1 b2:Nat):aB:=λk=>k<N\/k=b1\/k=b2
theorem nOk(p:Fo->Bool)(f:Nat)(cap:List Value)(az:dR prog f)(xs:List Fo)(cb:xs.length<=1000000)(N:Nat)(a:Option Addr)(cp:Nat)(w:World)(hN:N<=w.heap.size)(aJ:ah pg 33 N w a xs)(hp:∀(j:Nat) (x:Fo),xs[j]? =some x->∀W,Below w.heap.size w W->Calls prog f (.agg (pg x)::cap).toArray W (av W (.bool (p x)))):Calls prog 84 #[.slice a xs.length cp,.func (.func f) #[] cap.toArray] w (cu w (λi:Int=>.int .i64 i) (λi _=>cR p xs i)):=by
 refine enter (vs:=[_,_]) func84 rfl ntmps84 rfl ?_;refine I4 ?_;rintro j ⟨hj,dO⟩;refine B 6 ?_;refine aK ?_ ?_
 ·intro aj;refine B 11 ?_;obtain⟨bo,oo,cs0,to,fp,rfl,ft,hcs,ar⟩:=aJ.get zM;obtain⟨x,hx⟩:=nk xs j zM;refine B 5 ?_;refine rq (.agg (pg x)) (ag isAgg50 sizeOf50 rfl A0 hcs zX trivial (ni ar hx rfl)) (va (np ar hx rfl)) ?_;refine I5 ?_;refine aK ?_ ?_
  ·intro aN;refine B 12 ?_;refine jG (j:Int) results84 rfl A0 rfl ?_;exact I6
  exact F8
 intro aj;refine B 11 ?_;refine jG (-1:Int) results84 rfl A0 rfl ?_;exact F9
theorem nAo(d:Int)(b:Nat)(x:Fo)(w:World)(aR:w.heap[b]? =some (.cells #[.int .i64 d] 3 (0,0))):Calls prog 85 #[.agg (pg x),ptr b 0] w (av w (.bool (decide (x.id=d)))):=by
 have aY:¬Gh.no.X b:=λh=>h;have mr:=(aM.1 aR).1;refine enter (vs:=[_,_]) func85 rfl ntmps85 rfl ?_;refine B 2 ?_;refine yX ?_;intro b2 w2 aH aF dS cE cX;refine B 6 ?_;refine rr (.int .i64 x.id) (aa isAgg3 rfl A0 aH aF trivial rfl) ?_;refine B 6 ?_;refine ax results85 rfl A1 ?_;rfl
theorem nvg(s:Sc)(d:Int)(w:World):Calls prog 41 #[.agg (gw s),.int .i64 d] w (cu w (λq:Nat×Nat=>.func (.func 83) #[] #[ptr q.1 0,ptr q.2 0]) (λq w1=>w.heap.size<=q.1/\w.heap.size<=q.2/\w1.heap[q.1]? =some (.cells (gw s) 81 (0,0))/\w1.heap[q.2]? =some (.cells #[.int .i64 d] 3 (0,0)))):=by
 refine enter (vs:=[_,_]) func41 rfl ntmps41 rfl ?_;refine B 2 ?_;refine yX ?_;intro b2 w2 aH aF dS cE cX;refine yX ?_;intro b3 w3 aC ay cS bV cL;refine B 10 ?_;refine jG (b2,b3) results41 rfl A2 rfl ?_;exact zjk
theorem nJh(hZ:FxOk Z)(s:Sc)(ho:fh s)(N:Nat)(d:Int)(b1 b2:Nat)(W:World)(hN:N<=W.heap.size)(hNg:5<=N)(hs:dP N W s)(hg:Glb W)(aR:W.heap[b1]? =some (.cells (gw s) 81 (0,0)))(aH:W.heap[b2]? =some (.cells #[.int .i64 d] 3 (0,0))):vZ prog 83 [ptr b1 0,ptr b2 0] (λg:Gv=>[.agg (aX g)]) (λ(p:List Gv) (Y:aB) (A:World)=>(p.map (·.g) <+:po Z s d/\p.length<=1000)/\∀e∈p,aL A.heap.size A e/\dp Y e) (λ(p:List Gv) (_:aB) (_:World)=>p.map (·.g)=po Z s d/\p.length<=1000) (λ_=>False) (sN N b1 b2) W:=by
 intro l M I X0 hM hI hX hy h0;have aY:¬(cj hM (λ_=>False) (hI [] _)).X b1:=by rintro(h|h);exact(hM _ h).2.2 (.inr (.inl rfl));exact h.elim
 have aF:¬(cj hM (λ_=>False) (hI [] _)).X b2:=by rintro(h|h);exact(hM _ h).2.2 (.inr (.inr rfl));exact h.elim
 have mr:=(aM.1 aR).1;have xb:=(aM.1 aH).1;refine nN (cj hM (λ_=>False) (hI [] _)) [] (vs:=[_,_,_]) func83 rfl ntmps83 rfl (IP hM (hI [] _) h0 z1 I0 z1) ?_;refine B 4 ?_;refine rr (.slice s.fa s.fos.length s.fc) (aa isAgg22 rfl A0 aR aY trivial rfl) ?_;refine B 1 ?_;refine nu (α:=Int) (v:=λi:Int=>.int .i64 i) (Φ:=λ_ i _=>cR (λx=>decide (x.id=d)) s.fos i) call84 rfl rfl rfl (λW9 hS=>nOk (λx=>decide (x.id=d)) 85 [ptr b2 0] call85 s.fos (by have:=ho.fo;omega) N s.fa s.fc W9 (aS hN (hS.links W A0).size) (hs.fo.up (ao _) (λk hk=>hS.ro A0 (λ_ h=>h.elim) True.intro (.inl hk) zM)) (λj x hx W2 hB=>nAo d b2 x W2 (by have h2:=(hS.links W A0).size;rw[hB.block b2 zM];exact hS.old A0 aH aF trivial))) ?_;intro Wi i wi sj sk hi;refine B 5 ?_;rcases hi with⟨rfl,ie⟩|⟨k,x0,rfl,iP,Bf,fm⟩
 ·refine B 2 ?_;refine DF ?_;refine B 5 ?_;exact Ur (Fin:=(λ(p:List Gv) (_:aB) (_:World)=>p.map (·.g)=po Z s d/\p.length<=1000)) (.inl rfl) results83 A1 (λ_ h=>h.elim) (by intro k hk hx;simp at hx;try omega) (λA Us hA=>.inl ⟨[],⟨by rw[Uu ie];rfl,cZ _⟩,hA⟩)
 obtain⟨bo,oo,cs0,to,fp,jC,ft,hcs,ar⟩:=hs.fo.get (by have:=nE iP;omega);have lD:=nE iP;have hmo:¬(cj hM (λ_=>False) (hI [] _)).X bo:=by rintro(h|h);exact(hM _ h).2.2 (.inl ft);exact h.elim
 refine KM ?_;refine B 6 ?_;refine ng (E':=[(0,_),(1,_),(2,_),(4,_),(9,_),(10,_),(11,_),(12,_),(13,_),(14,_),(15,_)]) zR ?_;refine KW 14 [9,10,11,12,13] [([],some _),([0],some _),([1],some (.slice (some ⟨bo,oo,none⟩) s.fos.length s.fc)),([],some _),([2,3],some _),([4],some (.agg (pg x0))),([],some _),([6],some _),([7],some (.slice s.la s.cs.length s.lc)),([5,8],none),([9],none),([10],none),([10],none),([11],none)] [[],[0],[0,1],[0,1],[0,1,2]] (λcv L' H'=>match cv with| [none,none,none,none,none]=>L'=[wi,W]/\H'=[]| [some v9,none,none,none,none]=>∃(a1:Option Addr) (c1:Nat) (a2:Option Addr) (c2:Nat) (ds:List Cd) (w9:World),v9= .tuple #[.slice a1 ds.length c1,.slice a2 ds.length c2]/\L'=[w9,wi,W]/\H'=[]/\jU Z s.cs x0 (ds.map ll)/\ds.length<=s.cs.length/\ah (λx=>(iA x).toArray) 36 w9.heap.size w9 a2 (ds.map λd=>d.x)/\(∀d∈ds,aL w9.heap.size w9 d.x/\aW W.heap.size d.x)/\(∀p,a2=some p->W.heap.size<=p.block)/\W.heap.size<=w9.heap.size| [some v9,some v10,none,none,none]=>∃(a1:Option Addr) (c1:Nat) (a2:Option Addr) (c2:Nat) (ds:List Cd) (w9:World),v9= .tuple #[.slice a1 ds.length c1,.slice a2 ds.length c2]/\v10= .tuple #[.slice a1 ds.length c1,.slice a2 ds.length c2]/\L'=[w9,wi,W]/\H'=[]/\jU Z s.cs x0 (ds.map ll)/\ds.length<=s.cs.length/\ah (λx=>(iA x).toArray) 36 w9.heap.size w9 a2 (ds.map λd=>d.x)/\(∀d∈ds,aL w9.heap.size w9 d.x/\aW W.heap.size d.x)/\(∀p,a2=some p->W.heap.size<=p.block)/\W.heap.size<=w9.heap.size| [some v9,some v10,none,some v12,none]=>∃(a1:Option Addr) (c1:Nat) (a2:Option Addr) (c2:Nat) (ds:List Cd) (w9:World),v9= .tuple #[.slice a1 ds.length c1,.slice a2 ds.length c2]/\v10= .tuple #[.slice a1 ds.length c1,.slice a2 ds.length c2]/\v12= .slice a2 ds.length c2/\L'=[w9,wi,W]/\H'=[]/\jU Z s.cs x0 (ds.map ll)/\ds.length<=s.cs.length/\ah (λx=>(iA x).toArray) 36 w9.heap.size w9 a2 (ds.map λd=>d.x)/\(∀d∈ds,aL w9.heap.size w9 d.x/\aW W.heap.size d.x)/\(∀p,a2=some p->W.heap.size<=p.block)/\W.heap.size<=w9.heap.size| [some v9,some v10,some v11,none,none]=>∃(a1:Option Addr) (c1:Nat) (a2:Option Addr) (c2:Nat) (ds:List Cd) (w9:World),v9= .tuple #[.slice a1 ds.length c1,.slice a2 ds.length c2]/\v10= .tuple #[.slice a1 ds.length c1,.slice a2 ds.length c2]/\v11= .slice a1 ds.length c1/\L'=[w9,wi,W]/\H'=[]/\jU Z s.cs x0 (ds.map ll)/\ds.length<=s.cs.length/\ah (λx=>(iA x).toArray) 36 w9.heap.size w9 a2 (ds.map λd=>d.x)/\(∀d∈ds,aL w9.heap.size w9 d.x/\aW W.heap.size d.x)/\(∀p,a2=some p->W.heap.size<=p.block)/\W.heap.size<=w9.heap.size| [some v9,some v10,some v11,none,some kM]=>∃(a1:Option Addr) (c1:Nat) (a2:Option Addr) (c2:Nat) (ds:List Cd) (w9:World),v9= .tuple #[.slice a1 ds.length c1,.slice a2 ds.length c2]/\v10= .tuple #[.slice a1 ds.length c1,.slice a2 ds.length c2]/\v11= .slice a1 ds.length c1/\kM= .slice a1 ds.length c1/\L'=[w9,wi,W]/\H'=[]/\jU Z s.cs x0 (ds.map ll)/\ds.length<=s.cs.length/\ah (λx=>(iA x).toArray) 36 w9.heap.size w9 a2 (ds.map λd=>d.x)/\(∀d∈ds,aL w9.heap.size w9 d.x/\aW W.heap.size d.x)/\(∀p,a2=some p->W.heap.size<=p.block)/\W.heap.size<=w9.heap.size| [some v9,some v10,some v11,some v12,none]=>∃(a1:Option Addr) (c1:Nat) (a2:Option Addr) (c2:Nat) (ds:List Cd) (w9:World),v9= .tuple #[.slice a1 ds.length c1,.slice a2 ds.length c2]/\v10= .tuple #[.slice a1 ds.length c1,.slice a2 ds.length c2]/\v11= .slice a1 ds.length c1/\v12= .slice a2 ds.length c2/\L'=[w9,wi,W]/\H'=[]/\jU Z s.cs x0 (ds.map ll)/\ds.length<=s.cs.length/\ah (λx=>(iA x).toArray) 36 w9.heap.size w9 a2 (ds.map λd=>d.x)/\(∀d∈ds,aL w9.heap.size w9 d.x/\aW W.heap.size d.x)/\(∀p,a2=some p->W.heap.size<=p.block)/\W.heap.size<=w9.heap.size| [some v9,some v10,some v11,some v12,some kM]=>∃(a1:Option Addr) (c1:Nat) (a2:Option Addr) (c2:Nat) (ds:List Cd) (w9:World),v9= .tuple #[.slice a1 ds.length c1,.slice a2 ds.length c2]/\v10= .tuple #[.slice a1 ds.length c1,.slice a2 ds.length c2]/\v11= .slice a1 ds.length c1/\v12= .slice a2 ds.length c2/\kM= .slice a1 ds.length c1/\L'=[w9,wi,W]/\H'=[]/\jU Z s.cs x0 (ds.map ll)/\ds.length<=s.cs.length/\ah (λx=>(iA x).toArray) 36 w9.heap.size w9 a2 (ds.map λd=>d.x)/\(∀d∈ds,aL w9.heap.size w9 d.x/\aW W.heap.size d.x)/\(∀p,a2=some p->W.heap.size<=p.block)/\W.heap.size<=w9.heap.size|_=>False) zT ⟨rfl,rfl⟩ zT zT zT zT zT zT rfl (qc (by exact λcv L' H' _ _ hP=>X.val rfl rfl (ak underlying81 rfl sizeOf31 rfl) R2) (qc (by exact λcv L' H' _ _ hP=>X.val rfl rfl (ak underlying31 rfl sizeOf22 rfl) R2) (qc zcH (qc XQ (qc zxe (qc zcH (qc (by exact λcv L' H' _ _ hP=>X.val rfl rfl (ak underlying81 rfl sizeOf31 rfl) R2) (qc (by exact λcv L' H' _ _ hP=>X.val rfl rfl (ak underlying31 rfl sizeOf24 rfl) R2) (qc zcH (qk (qk (qk (qk (qk (qn))))))))))))))) ?_ ?_
 ·refine nc rfl rfl rfl rfl ?_ ?_
  ·intro cv L' H' hl hr hP F Q' hk;obtain⟨x9,eW,ir,fN,iV,rfl⟩:=eZ hl;rcases x9 with _|v9<;>rcases eW with _|v10<;>rcases ir with _|v11<;>rcases fN with _|v12<;>rcases iV with _|kM<;>try exact False.elim hP
   ·obtain⟨rfl,rfl⟩:=hP;refine nu (α:=((Option Addr×Nat)×(Option Addr×Nat))×List Cd) (v:=λq=>.tuple #[.slice q.1.1.1 q.2.length q.1.1.2,.slice q.1.2.1 q.2.length q.1.2.2]) (Φ:=λWc q w1=>(jU Z s.cs x0 (q.2.map ll)/\q.2.length<=s.cs.length)/\ah (λx=>(ai x).toArray) 1 w1.heap.size w1 q.1.1.1 (q.2.map λd:Cd=>d.at_)/\ah (λx=>(iA x).toArray) 36 w1.heap.size w1 q.1.2.1 (q.2.map λd:Cd=>d.x)/\(∀p,q.1.1.1=some p->Wc.heap.size<=p.block)/\(∀p,q.1.2.1=some p->Wc.heap.size<=p.block)/\∀d∈q.2,aL w1.heap.size w1 d.x/\aW Wc.heap.size d.x) call11 rfl rfl rfl (λW9 hS=>nGf hZ s.cs ho.cl ho.cg N s.la s.lc W9 (aS hN (hS.links W A1).size) (hs.cs.up (ao _) (λk hk=>hS.ro A1 (λ_ h=>h.elim) True.intro (.inl hk) zM)) (λc hc=>(hs.cm c hc).up (ao _) (λk hk=>hS.ro A1 (λ_ h=>h.elim) True.intro (.inl hk) zM)) x0 (hg.up (λk hk=>hS.ro A1 (λ_ h=>h.elim) True.intro (.inl zM) zM))) ?_;rintro Wc ⟨⟨⟨a1,c1⟩,⟨a2,c2⟩⟩,ds⟩ w9 vB DS ⟨⟨eN,eQ⟩,_,du,_,h6,h7⟩;try dsimp only at eN eQ du h6 h7
    have uA:=(vB.links W A1).size;have Y5:=DS.size;have mz:W.heap.size<=w9.heap.size:=by omega
    have fu:∀d∈ds,aL w9.heap.size w9 d.x/\aW W.heap.size d.x:=λd hd=>⟨(h7 d hd).1,(h7 d hd).2.mono uA⟩;have qt:∀p,a2=some p->W.heap.size<=p.block:=λp hp=>aS uA (h6 p hp);exact OJ.done (hk _ _ _ ⟨a1,c1,a2,c2,ds,w9,rfl,rfl,rfl,eN,eQ,du,fu,qt,mz⟩)
   ·exact aA
   ·exact aA
   ·exact aA
   ·exact aA
   ·exact aA
   ·exact aA
   exact aA
  refine nc rfl rfl rfl rfl ?_ ?_
  ·intro cv L' H' hl hr hP F Q' hk;obtain⟨x9,eW,ir,fN,iV,rfl⟩:=eZ hl;rcases x9 with _|v9<;>rcases eW with _|v10<;>rcases ir with _|v11<;>rcases fN with _|v12<;>rcases iV with _|kM<;>try exact False.elim hP
   ·exact aA
   ·obtain⟨a1,c1,a2,c2,ds,w9,rfl,rfl,rfl,eN,eQ,du,fu,qt,mz⟩:=hP;refine B 1 ?_;exact OJ.done (hk _ _ _ ⟨a1,c1,a2,c2,ds,w9,rfl,rfl,rfl,rfl,eN,eQ,du,fu,qt,mz⟩)
   ·exact aA
   ·exact aA
   ·exact aA
   ·exact aA
   ·exact aA
   exact aA
  refine nc rfl rfl rfl rfl ?_ ?_
  ·intro cv L' H' hl hr hP F Q' hk;obtain⟨x9,eW,ir,fN,iV,rfl⟩:=eZ hl;rcases x9 with _|v9<;>rcases eW with _|v10<;>rcases ir with _|v11<;>rcases fN with _|v12<;>rcases iV with _|kM<;>try exact False.elim hP
   ·exact aA
   ·exact aA
   ·exact z1j
   ·exact zyj
   ·exact aA
   ·exact aA
   ·exact aA
   exact aA
  refine nc rfl rfl rfl rfl ?_ ?_
  ·intro cv L' H' hl hr hP F Q' hk;obtain⟨x9,eW,ir,fN,iV,rfl⟩:=eZ hl;rcases x9 with _|v9<;>rcases eW with _|v10<;>rcases ir with _|v11<;>rcases fN with _|v12<;>rcases iV with _|kM<;>try exact False.elim hP
   ·exact aA
   ·exact aA
   ·exact z1j
   ·exact aA
   ·exact zyj
   ·exact zXj
   ·exact aA
   exact aA
  refine nc rfl rfl rfl rfl ?_ ?_
  ·intro cv L' H' hl hr hP F Q' hk;obtain⟨x9,eW,ir,fN,iV,rfl⟩:=eZ hl;rcases x9 with _|v9<;>rcases eW with _|v10<;>rcases ir with _|v11<;>rcases fN with _|v12<;>rcases iV with _|kM<;>try exact False.elim hP
   ·exact aA
   ·exact aA
   ·exact aA
   ·exact aA
   ·exact zyj
   ·exact aA
   ·exact zXj
   exact aA
  exact nn
 intro cv L' H' hl hr hP;obtain⟨x9,eW,ir,fN,iV,rfl⟩:=eZ hl;rcases x9 with _|v9<;>rcases eW with _|v10<;>rcases ir with _|v11<;>rcases fN with _|v12<;>rcases iV with _|kM
 ·exact aA
 ·exact aA
 ·exact aA
 ·exact aA
 ·exact aA
 ·exact aA
 ·exact aA
 ·exact aA
 ·exact aA
 ·exact aA
 ·exact aA
 ·exact aA
 ·exact aA
 ·exact aA
 ·exact aA
 ·exact aA
 ·exact aA
 ·exact aA
 ·exact aA
 ·exact aA
 ·exact aA
 ·exact aA
 ·exact aA
 ·exact aA
 ·exact aA
 ·exact aA
 ·exact aA
 ·exact aA
 ·exact aA
 ·exact aA
 ·exact aA
 obtain⟨a1,c1,a2,c2,ds,w9,rfl,rfl,rfl,rfl,rfl,rfl,rfl,eN,eQ,du,fu,qt,mz⟩:=hP;obtain⟨gs,JL⟩:∃gs,gs=ds.map (λd=>d.x):=⟨_,rfl⟩;have Qv:ds.length=gs.length:=by rw[JL,fl]
 have Uv:gs.length<=1000:=by have:=ho.cl;omega
 replace du:ah aX 36 w9.heap.size w9 a2 gs:=by rw[JL];exact du
 have JK:∀e∈gs,aL w9.heap.size w9 e/\aW W.heap.size e:=by rw[JL];intro e he;obtain⟨d,hd,rfl⟩:=bU.1 he;exact fu d hd
 have Nq:po Z s d=gs.map (·.g):=by rw[Np fm iP Bf eN,JL,List.map_map];rfl
 refine B 11 ?_;refine CJ.loop (α:=Nat×aB) (λp=>[(0,yv l),(29,.slice a2 ds.length c2),(30,.int .i64 (ds.length:Int)),(31,.int .i64 (p.1:Int))]) (λp=>[]) (λp=>[w9,W]) (λp=>cj hM p.2 (hI (gs.take p.1) p.2)) (λp=>p.1<=gs.length/\∀k,p.2 k->w9.heap.size<=k) (λp=>gs.length-p.1) (0,λ_=>False) ⟨cZ _,λ_ h=>h.elim⟩ zR rfl rfl z1 ?_;rintro⟨j,V⟩ ⟨hj,hV⟩;dsimp only at hj hV ⊢;refine B 6 ?_;refine aK ?_ ?_
 ·intro aj;refine B 5 ?_;obtain⟨bo2,oo2,cs2,to2,qj,rfl,aep,Hq,xy⟩:=du.get zM;obtain⟨x,hx⟩:=nk gs j zM;have aer:¬(cj hM V (hI (gs.take j) V)).X bo2:=by rintro(h|h);(have h5:=(hM _ h).1;have h6:=qt _ rfl;dsimp only at h6;omega);(have:=hV _ h;omega)
  have Eh:gs.take j++[x]=gs.take (j+1):=(nz hx).symm;have hin:∀e∈gs.take j++[x],e∈gs:=by rw[Eh];exact λe he=>List.mem_of_mem_take he
  have Uw:∀e∈gs,dp (λk=>M k\/V k) e:=λe he=>((JK e he).2.out (λk hk=>(hM k hk).1)).up (JK e he).1 (λk hk=>hk.elim .inl (λh=>.inr (hV k h)));refine B 2 ?_;refine rq (.agg (aX x)) (ag isAgg57 sizeOf57 rfl A0 Hq aer trivial (ni xy hx rfl)) (va (np xy hx rfl)) ?_;refine rj ?_;refine yW ?_;intro b8 wt wu;refine Pq ?_;refine rr (.agg (aX x)) (aP (i:=0) rfl isAgg57 sizeOf57 rfl rfl) ?_;refine JI (λ_=>False) id LR (V:=V) (λV=>hI (gs.take j++[x]) V) hX (λk hk=>aS mz (hV k hk)) rfl rfl rfl rfl (λW1 mm SG kI=>hy (gs.take j) x V W1 ⟨⟨by rw[Nq,Eh];exact(List.take_prefix _ _).map _,by rw[Eh,kj];have:=ho.cl;omega⟩,λe he=>⟨(JK e (hin e he)).1.toZ mm A0 (ao _) (Uw e (hin e he)) (λp hp=>by rw[qd.1 hp];exact(JK e (hin e he)).1.off dL),Uw e (hin e he)⟩⟩ SG kI) ?_ ?_
  ·intro V2 vD qA;have qM:∀k,V2 k->w9.heap.size<=k:=λk hk=>by rcases qA w9 A0 k hk with h|h;(exact hV k h);exact h
   refine B 11 ?_;refine mx ?_;refine PJ.again (j+1,V2) ⟨by dsimp only;omega,qM⟩ dL zR rfl (by dsimp only;rw[nz hx];rfl) z1
  intro V2 vD qA;have qM:∀k,V2 k->w9.heap.size<=k:=λk hk=>by rcases qA w9 A0 k hk with h|h;(exact hV k h);exact h
  refine B 9 ?_;exact Ur (Fin:=(λ(p:List Gv) (_:aB) (_:World)=>p.map (·.g)=po Z s d/\p.length<=1000)) (.inl rfl) results83 A1 (λk hk=>aS mz (qM k hk)) (by intro k hk hx;simp at hx;try omega) (λA Us hA=>.inr hA)
 intro aj;refine B 4 ?_;exact Ur (Fin:=(λ(p:List Gv) (_:aB) (_:World)=>p.map (·.g)=po Z s d/\p.length<=1000)) (.inr rfl) results83 A1 (λk hk=>aS mz (hV k hk)) (by intro k hk hx;simp at hx;try omega) (λA Us hA=>.inl ⟨gs,⟨by rw[Nq],Uv⟩,by rw[show j=gs.length by omega,IS]at hA;exact hA⟩)
end Px
