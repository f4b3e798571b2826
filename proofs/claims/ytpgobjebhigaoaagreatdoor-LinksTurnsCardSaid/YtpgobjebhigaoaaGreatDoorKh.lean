/- Contracts of functions of the program. No condition beyond those stated. -/
import Derived.Test.YtpgobjebhigaoaaGreatDoorKg
import Derived.Test.YtpgobjebhigaoaaGreatDoorProg
set_option linter.unusedSimpArgs false
set_option linter.unusedVariables false
set_option linter.unusedSectionVars false
set_option linter.unnecessarySimpa false
set_option maxRecDepth 20000
set_option maxHeartbeats 8000000
namespace Px
open Go Go.RowKit Go.Proofs Go.Proofs.Tryz
structure Sc where
 fos:List Fo
 fa:Option Addr
 fc:Nat
 cs:List Cm
 la:Option Addr
 lc:Nat
 lks:List Lk
 ka:Option Addr
 kc:Nat
 fas:List Fa
 xa:Option Addr
 xc:Nat
 pls:List Pl
 pa:Option Addr
 pc:Nat
 ot:Nat->Option Addr×Nat×Nat
def rdA (s:Sc):Array Value:=#[.slice s.fa s.fos.length s.fc,.slice (s.ot 1).1 (s.ot 1).2.1 (s.ot 1).2.2,.slice s.la s.cs.length s.lc,.slice (s.ot 3).1 (s.ot 3).2.1 (s.ot 3).2.2,.slice (s.ot 4).1 (s.ot 4).2.1 (s.ot 4).2.2,.slice s.ka s.lks.length s.kc,.slice s.xa s.fas.length s.xc,.slice (s.ot 7).1 (s.ot 7).2.1 (s.ot 7).2.2]
def eZ (s:Sc):Array Value:=#[.slice s.fa s.fos.length s.fc,.slice (s.ot 1).1 (s.ot 1).2.1 (s.ot 1).2.2,.slice s.la s.cs.length s.lc,.slice (s.ot 3).1 (s.ot 3).2.1 (s.ot 3).2.2,.slice (s.ot 4).1 (s.ot 4).2.1 (s.ot 4).2.2,.slice s.ka s.lks.length s.kc,.slice s.xa s.fas.length s.xc,.slice (s.ot 7).1 (s.ot 7).2.1 (s.ot 7).2.2,.slice s.pa s.pls.length s.pc]
structure kL (f:Fa):Prop where
 lnk:jq f.lnk
 com:jq f.com
 by_:fO f.by_
 n:fO f.n
structure dS (N:Nat) (w:World) (s:Sc):Prop where
 fo:ah rJ 33 N w s.fa s.fos
 cs:ah dZ 73 N w s.la s.cs
 cm:∀c∈s.cs,dQ N w c
 lk:ah lkC 40 N w s.ka s.lks
 fx:ah gD 68 N w s.xa s.fas
 pl:ah plA 5 N w s.pa s.pls
structure eP (s:Sc):Prop where
 fo:s.fos.length<=1000
 cl:s.cs.length<=1000
 cg:∀c∈s.cs,cI c
 kl:s.lks.length<=1000
 ko:∀l∈s.lks,cW l
 xl:s.fas.length<=1000
 xo:∀f∈s.fas,kL f
 pl:s.pls.length<=12
variable {fo:Fo} {M:aA} {Z:Fx} {G:Gh} {H:ad} {d:Int} {lks:List Lk} {L:List World} {N N' b k:Nat} {fr:Nat×Nat} {r:Rw} {s:Sc} {W W' w':World} {I:World->Prop}
theorem dS.up{w:World}(h:dS N w s)(hN:N<=N')(hw:∀k,k<N->w'.heap[k]? =w.heap[k]?):dS N' w' s:=⟨h.fo.up hN hw,h.cs.up hN hw,λc hc=>(h.cm c hc).up hN hw,h.lk.up hN hw,h.fx.up hN hw,h.pl.up hN hw⟩
noncomputable def En (Z:Fx) (ms:List Mb) (d:Int) (mf:Nat->Int) (r s:Int):Bool:=match ms.find? (λm=>decide (m.dev=d))with
 |some m=>kB Z m.ver (dt mf) r s
 |none=>false
theorem Uv{ms:List Mb}{mf:Nat->Int}{r s:Int}(h:ms.any (λm=>decide (m.dev=d))=false):false=En Z ms d mf r s:=by
 unfold En;rw[show ms.find? (λm=>decide (m.dev=d))=none by
  rw[List.find?_eq_none];intro x hx;have:=List.any_eq_false.1 h x hx;simpa using this]
theorem Ns{ms:List Mb}{mf:Nat->Int}{r s:Int}{m:Mb}(hk:ms[k]? =some m)(hm:decide (m.dev=d)=true)(eN:fY (λm=>decide (m.dev=d)) ms k):kB Z m.ver (dt mf) r s=En Z ms d mf r s:=by
 unfold En;rw[show ms.find? (λm=>decide (m.dev=d))=some m by
  rw[List.find?_eq_some_iff_getElem];obtain⟨hl,he⟩:=gA.1 hk;refine⟨hm,k,hl,he,λj hj=>?_⟩;have:=eN j ms[j] hj (gR zM);simpa using this]
theorem HB(d:Int)(b:Nat)(x:Mb)(w:World)(aP:w.heap[b]? =some (.cells #[.int .i64 d] 3 (0,0))):Calls prog 116 #[.agg (oK x),ptr b 0] w (av w (.bool (decide (x.dev=d)))):=by
 have aX:¬Gh.no.X b:=λh=>h;have mB:=(aL.1 aP).1;refine enter (vs:=[_,_]) func116 rfl ntmps116 rfl ?_;refine B 2 ?_;refine yX ?_;intro b2 w2 aI aE dY cA db;refine B 13 ?_;refine ay results116 rfl A1 ?_;rfl
theorem nkf(hZ:FxOk Z)(g:Gv)(N:Nat)(w:World)(hN:N<=w.heap.size)(hG:aM N w g)(d:Int)(mf:Nat->Int)(bm tm:Nat)(frm:Nat×Nat)(jh:w.heap[bm]? =some (.cells (dg mf) tm frm))(FA:jq mf)(r s:Int)(hg:Glb w):Calls prog 73 #[.agg (aZ g),.int .i64 d,.slice (some ⟨bm,0,none⟩) 32 32,.agg #[.int .i64 r,.int .i64 s]] w (av w (.bool (En Z g.g.ms d mf r s))):=by
 have rB:g.g.ms.length<=1000000:=by have:=hG.mn;omega
 have xh:=(aL.1 jh).1;have ew:=hg.lt;refine enter (vs:=[_,_,_,_]) func73 rfl ntmps73 rfl ?_;refine B 2 ?_;refine yX ?_;intro b4 w4 cT dI k4 dD dH;refine yX ?_;intro b5 w5 ff gd rF iu iv;refine yX ?_;intro b7 w7 vt xY KF fu lG;refine B 6 ?_;refine rr (.slice g.ma g.g.ms.length g.mc) (aa isAgg52 rfl A2 cT dI trivial rfl) ?_;refine B 1 ?_;refine nr (α:=Int) (v:=λi:Int=>.int .i64 i) (Φ:=λ_ i _=>cZ (λx=>decide (x.dev=d)) g.g.ms i) call115 rfl rfl rfl (λW hS=>Xp (λx=>decide (x.dev=d)) 116 [ptr b5 0] call116 g.g.ms rB N g.ma g.mc W (aS hN (hS.links w A3).size) (hG.ms.up (ao _) (hS.same A3 hN zU zP)) (λj x hx W2 hB=>HB d b5 x W2 (by have h2:=(hS.links w5 A1).size;rw[hB.block b5 zM];exact hS.old A1 ff gd trivial))) ?_;intro Wi i wi sC sD hi;refine B 4 ?_;rcases hi with⟨rfl,ib⟩|⟨k,x0,rfl,iU,Bv,eN⟩
 ·refine zxh ?_;refine nk 11 [.det [] _,.det [0] _,.det [1] _,.det [2] undef,.det [2,3] undef,.det [2] undef,.det [2,4,5] undef,.det [2,6] undef,.det [2,7] undef,.det [2] undef,.det [2] undef] zT (xc zO (xc Uu (xc zO (xc zN (xc zN (xc zN (xc zN (xc zN (xc zN (xc zN (xc zN (xn)))))))))))) zT zT zT (λae=>?_);refine B 6 ?_;exact zQk
 obtain⟨bo,oo,cs0,to,fA,iV,fG,hcs,ar⟩:=hG.ms.get (by have:=nF iU;omega);have lH:=nF iU;refine zxh ?_;refine nk 11 [.det [] _,.det [0] _,.det [1] _,.det [2] _,.det [2,3] _,.det [2] _,.det [2,4,5] _,.det [2,6] _,.det [2,7] _,.det [2] _,.det [2] _] zT (xc zO (xc Nq (xc zO (xc (by exact λae=>X.val rfl rfl (ak underlying57 rfl sizeOf52 rfl) (λ_ _=>rfl)) (xc (by exact λae=>X.val rfl rfl (RV.re (v':=.slice (some ⟨bo,oo,none⟩) g.g.ms.length g.mc) (aa isAgg52 rfl A3 cT dI trivial rfl) (by rw[<-iV];rfl)) (λ_ _=>rfl)) (xc zO (xc (by exact λae=>X.val rfl rfl (cL underlying52 sizeOf210 rfl rfl zM zM) (λ_ _=>rfl)) (xc (by exact λae=>X.val rfl rfl (ak underlying210 rfl sizeOf3 rfl) (λ_ _=>rfl)) (xc (by exact λae=>X.val rfl rfl (aa (v:=.int .i64 x0.ver) isAgg3 rfl A4 hcs zZ trivial (D3 ar iU rfl 2 zQ)) (λ_ _=>rfl)) (xc zO (xc (by exact λae=>X.val rfl rfl (af isAgg36 sizeOf36 rfl A1 vt xY trivial rfl) (λ_ _=>rfl)) (xn)))))))))))) zT zT zT (λae=>?_);refine call call78 rfl rfl rfl (λW hS=>by have h9:=Po hZ x0.ver r s (dt mf) bm 0 32 (by rw[nO];omega) W (cG.dg (hS.old A4 jh zZ trivial) FA) (hg.old hS A4 zU trivial);rw[nO]at h9;exact h9) (v:=.bool (kB Z x0.ver (dt mf) r s)) ?_;refine B 5 ?_;exact zQk
theorem nLl(p:Lk->Bool)(f:Nat)(cap:List Value)(ax:dU prog f)(xs:List Lk)(ck:xs.length<=1000000)(N:Nat)(a:Option Addr)(cp:Nat)(w:World)(hN:N<=w.heap.size)(aN:ah lkC 40 N w a xs)(hp:∀(j:Nat) (x:Lk),xs[j]? =some x->∀W,Below w.heap.size w W->Calls prog f (.agg (lkC x)::cap).toArray W (av W (.bool (p x)))):Calls prog 74 #[.slice a xs.length cp,.func (.func f) #[] cap.toArray] w (cu w (λi:Int=>.int .i64 i) (λi _=>cZ p xs i)):=by
 refine enter (vs:=[_,_]) func74 rfl ntmps74 rfl ?_;refine Jj ?_;rintro j ⟨hj,er⟩;refine B 6 ?_;refine aO ?_ ?_
 ·intro aj;refine B 11 ?_;obtain⟨bo,oo,cs0,to,fA,rfl,fG,hcs,ar⟩:=aN.get zM;obtain⟨x,hx⟩:=nj xs j zM;refine B 5 ?_;refine rq (.agg (lkC x)) (ag isAgg38 sizeOf38 rfl A0 hcs zZ trivial (nl ar hx rfl)) (va (nq ar hx rfl)) ?_;refine Jk ?_;refine aO ?_ ?_
  ·intro aQ;refine B 12 ?_;refine jM (j:Int) results74 rfl A0 rfl ?_;exact Jl
  exact Gs
 intro aj;refine B 11 ?_;refine jM (-1:Int) results74 rfl A0 rfl ?_;exact Gt
theorem Cw(hZ:FxOk Z)(l:Lk)(b:Nat)(x:Lk)(hx:cW x)(w:World)(aP:w.heap[b]? =some (.cells (lkC l) 84 (0,0)))(hg:Glb w):Calls prog 75 #[.agg (lkC x),ptr b 0] w (av w (.bool (fE (jI Z x) l.par))):=by
 have aX:¬Gh.no.X b:=λh=>h;have mB:=(aL.1 aP).1;have ew:=hg.lt;refine enter (vs:=[_,_]) func75 rfl ntmps75 rfl ?_;refine B 2 ?_;refine yX ?_;intro b2 w2 aI aE dY cA db;refine B 4 ?_;refine ng (E':=[(0,_),(1,_),(2,_),(3,_)]) zR ?_;refine nk 5 [.det [] _,.det [0] (.agg (dg (jI Z x))),.det [] _,.det [2] _,.det [3] _] zT (xc (by exact λae=>X.val rfl rfl (af isAgg38 sizeOf38 rfl A0 aI aE trivial rfl) (λ_ _=>rfl)) (xc (by exact λae=>nf call13 rfl rfl (λW hS _=>n1f hZ x hx W (hg.old hS A1 zU trivial)) (λ_=>rfl)) (xc qA (xc zyc (xc (by exact λae=>X.val rfl rfl (RV.re (v':=.agg (dg l.par)) (ag isAgg34 sizeOf34 rfl A1 aP aX trivial (aT rfl)) (rfl)) (λ_ _=>rfl)) (xn)))))) zT zT zT (λae=>?_);refine rr (.bool (fE (jI Z x) l.par)) (fF uB zQ nX rfl rfl rfl) ?_;refine B 4 ?_;refine ay results75 rfl A1 ?_;rfl
def dh (Z:Fx) (lks:List Lk) (l:Lk):Option Lk:=if l.by_= -1 then lks.find? (λx=>fE (jI Z x) l.par)else none
theorem Nt{l:Lk}(h:¬l.by_= -1):dh Z lks l=none:=if_neg h
theorem Nu{l:Lk}(h:lks.any (λx=>fE (jI Z x) l.par)=false):dh Z lks l=none:=by
 unfold dh;split
 ·rw[List.find?_eq_none];intro x hx;have:=List.any_eq_false.1 h x hx;simpa using this
 rfl
theorem HC{l:Lk}{x:Lk}(hb:l.by_= -1)(hk:lks[k]? =some x)(hx:fE (jI Z x) l.par=true)(eN:fY (λx=>fE (jI Z x) l.par) lks k):dh Z lks l=some x:=by
 unfold dh;rw[if_pos hb,List.find?_eq_some_iff_getElem];obtain⟨hl,he⟩:=gA.1 hk;refine⟨hx,k,hl,he,λj hj=>?_⟩;have:=eN j lks[j] hj (gR zM);simpa using this
theorem HD{l p:Lk}(h:dh Z lks l=some p):p∈lks:=by
 unfold dh at h;split at h
 ·exact Yw h
 cases h
theorem Glb.bel{w:World}(h:Glb w)(hB:Below w.heap.size w W):Glb W:=by
 have h4:=h.lt;obtain⟨⟨t,fr,h0⟩,t2,ry,h2⟩:=h;exact⟨⟨t,fr,(hB.block _ zM).trans h0⟩,t2,ry,(hB.block _ zM).trans h2⟩
def Uw (o:Option Lk):Value:=.tuple #[.agg (lkC (o.getD kO)),.bool o.isSome]
theorem nOc(hZ:FxOk Z)(s:Sc)(ho:eP s)(N:Nat)(w:World)(hN:N<=w.heap.size)(hs:dS N w s)(l:Lk)(hg:Glb w):Calls prog 36 #[.agg (eZ s),.agg (lkC l)] w (av w (Uw (dh Z s.lks l))):=by
 have ew:=hg.lt;have ahP:=ho.kl;refine enter (vs:=[_,_]) func36 rfl ntmps36 rfl ?_;refine B 2 ?_;refine yX ?_;intro b2 w2 aI aE dY cA db;refine yX ?_;intro b3 w3 aJ aD dr bY cR;refine RQ ?_;refine yW ?_;intro b4 dD dH;refine B 7 ?_;refine rr (.slice s.ka s.lks.length s.kc) (aa isAgg27 rfl A1 aI aE zL rfl) ?_;refine B 1 ?_;refine nr (α:=Int) (v:=λi:Int=>.int .i64 i) (Φ:=λ_ i _=>cZ (λx=>fE (jI Z x) l.par) s.lks i) call74 rfl rfl rfl (λW hS=>nLl (λx=>fE (jI Z x) l.par) 75 [ptr b3 0] call75 s.lks zM N s.ka s.kc W (aS hN (hS.links w A2).size) (hs.lk.up (ao _) (hS.same A2 hN zU wE)) (λj x hx W2 hB=>Cw hZ l b3 x (ho.ko x (cB hx)) W2 (by have h2:=(hS.links w3 A0).size;rw[hB.block b3 zM];exact hS.old A0 aJ aD jS) ((hg.old hS A2 zU wE).bel hB))) ?_;intro Wi i wi sC sD hi;refine B 5 ?_;by_cases ph:l.by_= -1
 ·rcases hi with⟨rfl,ib⟩|⟨k,x0,rfl,iU,Bv,eN⟩
  ·refine B 4 ?_;refine z2h ?_;refine B 2 ?_;refine I0 ?_;refine B 7 ?_;refine IY ?_;refine B 5 ?_;exact bJ (.inl rfl) results36 (RS.wA (i:=0) rfl isAgg84 sizeOf84 rfl (aT rfl) (RS.t rfl RS.n)) λW hS=>⟨by rw[Nu ib];rfl,hS.base A3 wN⟩
  obtain⟨bo,oo,cs0,to,fA,iV,fG,hcs,ar⟩:=hs.lk.get (by have:=nF iU;omega);have lH:=nF iU;refine B 4 ?_;refine z2h ?_;refine KY ?_;refine B 10 ?_;refine rq (.slice (some ⟨bo,oo,none⟩) s.lks.length s.kc) (aa isAgg27 rfl A2 aI aE jS rfl) (by rw[<-iV];rfl) ?_;refine B 2 ?_;refine rq (.agg (lkC x0)) (ag isAgg38 sizeOf38 rfl A3 hcs zZ jS (nl ar iU rfl)) (va (nq ar iU rfl)) ?_;refine rv rfl rfl rfl (bL underlying84 zeroValue84 (bA.c sizeOf38 (bA.n)) rfl rfl) ?_;refine IY ?_;refine B 4 ?_;exact bJ (.inl rfl) results36 (RS.wA (i:=0) rfl isAgg84 sizeOf84 rfl (aT rfl) (RS.t rfl RS.n)) λW hS=>⟨by rw[HC ph iU Bv eN];rfl,hS.base A3 wN⟩
 refine B 4 ?_;refine rq (.bool true) (bM rfl rfl) (vb (by simp[ph])) ?_;refine B 10 ?_;refine IY ?_;refine B 5 ?_;exact bJ (.inl rfl) results36 (RS.wA (i:=0) rfl isAgg84 sizeOf84 rfl (aT rfl) (RS.t rfl RS.n)) λW hS=>⟨by rw[Nt ph];rfl,hS.base A3 wN⟩
def jC (pls:List Pl) (f:Int):List Int:=Go.Lib.compact (da (bZ pls f++[f]))
theorem n8l(pls:List Pl)(f:Int):(jC pls f).length<=pls.length+1:=by
 have h1:=Go.Lib.compact_length_le (da (bZ pls f++[f]));have h2:=P7 pls f;rw[vA,cC,BX]at h1;unfold jC;omega
theorem Rw.sl'{t:Nat}{xs:List Int}{w:World}(hr:r.Fit 1 xs)(hA:r.At ai t xs w):∃a cap,r.val xs.length= .slice a xs.length cap/\ah encI 1 w.heap.size w a xs:=by
 obtain⟨a,c,h1,h2⟩:=r.sl nu hr hA (ao _);exact⟨a,c,h1,h2⟩
theorem Rw.at_own{t:Nat}{xs:List Int}(hS:St G L H W)(hm:∀p∈r.hp ai t xs,p∈H):r.At ai t xs W:=by
 cases r with
 |nil=>trivial
 |row b cap sp=>exact hS.own (b,_) (hm _ vE)
theorem nyk(hZ:FxOk Z)(s:Sc)(ho:eP s)(N:Nat)(w:World)(hN:N<=w.heap.size)(hs:dS N w s)(l:Lk):Calls prog 40 #[.agg (eZ s),.agg (lkC l)] w (nB w ai 1 3 (jC s.pls l.fo) id):=by
 refine enter (vs:=[_,_]) func40 rfl ntmps40 rfl ?_;refine B 2 ?_;refine yX ?_;intro b2 w2 aI aE dY cA db;refine yX ?_;intro b3 w3 aJ aD dr bY cR;refine B 4 ?_;refine Yo ?_;refine Pg 11 [5,6,10] [([],some _),([0],some _),([],some _),([2],some _),([3],some _),([1,4],none),([5],none),([],some _),([7],some _),([8],some _),([9],none)] [[],[0],[]] (λcv L' H'=>match cv with| [none,none,none]=>L'=[w3,w2,w]/\H'=[]++(([]))| [none,none,some v10]=>∃(cF:Nat),v10= .slice (some ⟨cF,0,none⟩) 1 1/\L'=[w3,w2,w]/\H'=[(cF,.cells #[.int .i64 l.fo] 3 (0,0))]++(([]))/\w3.heap.size<=cF| [some v5,none,none]=>∃(r5:Rw),v5=r5.val (bZ s.pls l.fo).length/\L'=[w3,w2,w]/\H'=[]++(((r5.hp ai 3 (bZ s.pls l.fo))++[]))/\r5.Fr Gh.no [w3,w2,w]/\r5.Fit 1 (bZ s.pls l.fo)| [some v5,none,some v10]=>∃(r5:Rw) (cF:Nat),v5=r5.val (bZ s.pls l.fo).length/\v10= .slice (some ⟨cF,0,none⟩) 1 1/\L'=[w3,w2,w]/\H'=[(cF,.cells #[.int .i64 l.fo] 3 (0,0))]++(((r5.hp ai 3 (bZ s.pls l.fo))++[]))/\r5.Fr Gh.no [w3,w2,w]/\r5.Fit 1 (bZ s.pls l.fo)/\w3.heap.size<=cF| [some v5,some v6,none]=>∃(r5:Rw) (r6:Rw),v5=r5.val (bZ s.pls l.fo).length/\v6=r6.val (bZ s.pls l.fo).length/\L'=[w3,w2,w]/\H'=[]++((r6.hp ai 3 (bZ s.pls l.fo))++((r5.hp ai 3 (bZ s.pls l.fo))++[]))/\r5.Fr Gh.no [w3,w2,w]/\r5.Fit 1 (bZ s.pls l.fo)/\r6.Fr Gh.no [w3,w2,w]/\r6.Fit 1 (bZ s.pls l.fo)| [some v5,some v6,some v10]=>∃(r5:Rw) (r6:Rw) (cF:Nat),v5=r5.val (bZ s.pls l.fo).length/\v6=r6.val (bZ s.pls l.fo).length/\v10= .slice (some ⟨cF,0,none⟩) 1 1/\L'=[w3,w2,w]/\H'=[(cF,.cells #[.int .i64 l.fo] 3 (0,0))]++((r6.hp ai 3 (bZ s.pls l.fo))++((r5.hp ai 3 (bZ s.pls l.fo))++[]))/\r5.Fr Gh.no [w3,w2,w]/\r5.Fit 1 (bZ s.pls l.fo)/\r6.Fr Gh.no [w3,w2,w]/\r6.Fit 1 (bZ s.pls l.fo)/\w3.heap.size<=cF|_=>False) zT ⟨rfl,rfl⟩ zT zT zT zT zT zT rfl (qc (by exact λcv L' H' _ _ hP=>X.val rfl rfl (ak underlying81 rfl sizeOf32 rfl) R2) (qc zcC (qc (by exact λcv L' H' _ _ hP=>X.val rfl rfl (ak underlying84 rfl sizeOf38 rfl) R2) (qc (by exact λcv L' H' _ _ hP=>X.val rfl rfl (ak underlying38 rfl sizeOf3 rfl) R2) (qc zcC (qk (qk (qc (by exact λcv L' H' _ _ hP=>X.val rfl rfl (ak underlying84 rfl sizeOf38 rfl) R2) (qc (by exact λcv L' H' _ _ hP=>X.val rfl rfl (ak underlying38 rfl sizeOf3 rfl) R2) (qc zcC (qk (qn)))))))))))) ?_ ?_
 ·refine nc rfl rfl rfl rfl ?_ ?_
  ·intro cv L' H' hl hr hP F Q' hk;obtain⟨x5,x6,jc,rfl⟩:=gp hl;rcases x5 with _|v5<;>rcases x6 with _|v6<;>rcases jc with _|v10<;>try exact False.elim hP
   ·obtain⟨rfl,rfl⟩:=hP;refine zHf ?_;intro r5 iE dp;exact OJ.done (hk _ _ _ ⟨r5,rfl,rfl,rfl,iE,dp⟩)
   ·obtain⟨cF,rfl,rfl,rfl,gU⟩:=hP;refine zHf ?_;intro r5 iE dp;refine OJ.perm (H':=[(cF,.cells #[.int .i64 l.fo] 3 (0,0))]++(r5.hp ai 3 (bZ s.pls l.fo)++[])) (by simpa using List.perm_append_singleton _ _) ?_;exact OJ.done (hk _ _ _ ⟨r5,cF,rfl,rfl,rfl,rfl,iE,dp,gU⟩)
   ·exact az
   ·exact az
   ·exact az
   exact az
  refine nc rfl rfl rfl rfl ?_ ?_
  ·intro cv L' H' hl hr hP F Q' hk;obtain⟨x5,x6,jc,rfl⟩:=gp hl;rcases x5 with _|v5<;>rcases x6 with _|v6<;>rcases jc with _|v10<;>try exact False.elim hP
   ·exact az
   ·exact az
   ·obtain⟨r5,rfl,rfl,rfl,iE,dp⟩:=hP;refine Am (enc:=ai) (m:=1) (t:=3) (xs:=(bZ s.pls l.fo)) (v:=id) (first:=[]) (cap:=[]) rfl call81 rfl rfl rfl (λW hS=>by
     obtain⟨a9,c9,e9,h9⟩:=r5.sl' (t:=3) dp (Rw.at_own hS (λp hp=>by simp[hp]));show Calls _ _ #[id (r5.val (bZ s.pls l.fo).length)] _ _;rw[id,e9];exact nLn (bZ s.pls l.fo) (by have:=P7 s.pls l.fo;have:=ho.pl;omega) W.heap.size a9 c9 W (ao _) h9) ?_
    intro r6 oC ij;refine OJ.reH (H':=[]++(r6.hp ai 3 (bZ s.pls l.fo)++(r5.hp ai 3 (bZ s.pls l.fo)++[]))) rfl ?_;exact OJ.done (hk _ _ _ ⟨r5,r6,rfl,rfl,rfl,rfl,iE,dp,oC,ij⟩)
   ·obtain⟨r5,cF,rfl,rfl,rfl,rfl,iE,dp,gU⟩:=hP;refine Am (enc:=ai) (m:=1) (t:=3) (xs:=(bZ s.pls l.fo)) (v:=id) (first:=[]) (cap:=[]) rfl call81 rfl rfl rfl (λW hS=>by
     obtain⟨a9,c9,e9,h9⟩:=r5.sl' (t:=3) dp (Rw.at_own hS (λp hp=>by simp[hp]));show Calls _ _ #[id (r5.val (bZ s.pls l.fo).length)] _ _;rw[id,e9];exact nLn (bZ s.pls l.fo) (by have:=P7 s.pls l.fo;have:=ho.pl;omega) W.heap.size a9 c9 W (ao _) h9) ?_
    intro r6 oC ij;refine OJ.perm (H':=[(cF,.cells #[.int .i64 l.fo] 3 (0,0))]++(r6.hp ai 3 (bZ s.pls l.fo)++(r5.hp ai 3 (bZ s.pls l.fo)++[]))) (by rw[dN];exact List.perm_append_comm_assoc _ _ _) ?_;exact OJ.done (hk _ _ _ ⟨r5,r6,cF,rfl,rfl,rfl,rfl,rfl,iE,dp,oC,ij,gU⟩)
   ·exact az
   exact az
  refine nc rfl rfl rfl rfl ?_ ?_
  ·intro cv L' H' hl hr hP F Q' hk;obtain⟨x5,x6,jc,rfl⟩:=gp hl;rcases x5 with _|v5<;>rcases x6 with _|v6<;>rcases jc with _|v10<;>try exact False.elim hP
   ·obtain⟨rfl,rfl⟩:=hP;refine wV ?_;intro cF ha ho;exact OJ.done (hk _ _ _ ⟨cF,rfl,rfl,rfl,(ab.not ha (w:=w3) A0)⟩)
   ·exact az
   ·obtain⟨r5,rfl,rfl,rfl,iE,dp⟩:=hP;refine wV ?_;intro cF ha ho;exact OJ.done (hk _ _ _ ⟨r5,cF,rfl,rfl,rfl,rfl,iE,dp,(ab.not ha (w:=w3) A0)⟩)
   ·exact az
   ·obtain⟨r5,r6,rfl,rfl,rfl,rfl,iE,dp,oC,ij⟩:=hP;refine wV ?_;intro cF ha ho;exact OJ.done (hk _ _ _ ⟨r5,r6,cF,rfl,rfl,rfl,rfl,rfl,iE,dp,oC,ij,(ab.not ha (w:=w3) A0)⟩)
   exact az
  exact nn
 intro cv L' H' hl hr hP;obtain⟨x5,x6,jc,rfl⟩:=gp hl;rcases x5 with _|v5<;>rcases x6 with _|v6<;>rcases jc with _|v10
 ·exact az
 ·exact az
 ·exact az
 ·exact az
 ·exact az
 ·exact az
 ·exact az
 obtain⟨r5,r6,cF,rfl,rfl,rfl,rfl,rfl,iE,dp,oC,ij,gU⟩:=hP;refine o8 (r:=r6) (xs:=(bZ s.pls l.fo)) (zs:=[l.fo]) (enc:=ai) (m:=1) (H0:=[(cF,.cells #[.int .i64 l.fo] 3 (0,0))]) (H1:=(r5.hp ai 3 (bZ s.pls l.fo)++[])) wU FL nu rfl rfl rfl rfl (dy.one (z:=l.fo) nu FP underlying44 (bN.own (i:=0) rfl)) ij oC z1 (by have:=P7 s.pls l.fo;have:=ho.pl;simp only[ec,lF];omega) ?_;intro b17 ael aem Nv Nw;replace Nv:=yb Nv;refine B 6 ?_;refine wZ (r:=Rw.row b17 ael aem) (enc:=ai) (m:=1) (t:=3) (xs:=((bZ s.pls l.fo)++[l.fo])) (ys:=da ((bZ s.pls l.fo)++[l.fo])) (H0:=[(cF,.cells #[.int .i64 l.fo] 3 (0,0))]) (H1:=(r5.hp ai 3 (bZ s.pls l.fo)++[])) (v:=λ_=>.tuple #[]) rfl call48 rfl rfl rfl (λhr=>by cases hr) (λb cap sp hr W hS h=>by cases hr;exact FR (by rw[cC,BX];have:=P7 s.pls l.fo;have:=ho.pl;omega) Nw h) ?_;intro r7 gh aen sJ Ux;refine B 4 ?_;refine rq (r7.val (da ((bZ s.pls l.fo)++[l.fo])).length) (fh rfl) ((by rw[Ux,vA];rfl)) ?_;refine wZ (r:=r7) (enc:=ai) (m:=1) (t:=3) (xs:=da ((bZ s.pls l.fo)++[l.fo])) (ys:=jC s.pls l.fo) (H0:=[(cF,.cells #[.int .i64 l.fo] 3 (0,0))]) (H1:=(r5.hp ai 3 (bZ s.pls l.fo)++[])) (v:=λr=>r.val (jC s.pls l.fo).length) rfl call82 rfl rfl rfl (λhr W hS=>by subst hr;exact nAn gh W) (λb cap sp hr W hS h=>by subst hr;exact I7 (by rw[vA,cC,BX];have:=P7 s.pls l.fo;have:=ho.pl;omega) gh h) ?_
 intro r8 eT ahQ eU agW;have aeo:=aen (Nv.elim (λh=>Rw.Fr_at oC h) (λh=>.inr h));have sR:=eU _ (Rw.ge_of aeo A2);refine B 4 ?_;exact nT (H0:=[(cF,.cells #[.int .i64 l.fo] 3 (0,0))]) (H1:=(r5.hp ai 3 (bZ s.pls l.fo)++[])) (r:=r8) (.inl rfl) results40 (RS.t rfl RS.n) A2 (by refine n0.2 ⟨by simp only[Over,and_true];omega,n0.2 ⟨Rw.over sR,by rw[dN];exact Rw.over (Rw.ge_of iE A2)⟩⟩) rfl eT sR rfl
theorem Cy:∀{H:ad} {b:Nat},(∀p∈H,p.1<b)->bE H b
 | [],_,_=>True.intro
 |p::H,b,h=>⟨by have:=h p A0;omega,Cy λq hq=>h q (.tail _ hq)⟩
def Yx (pls:List Pl) (l p:Lk):Bool:=(dJ (nw pls) l.fo).any λx=>decide (p.fo=x)
noncomputable def iF (Z:Fx) (pls:List Pl) (l p:Lk):Bool:=nz p&&p.resh&&decide (l.exp<=p.exp)&&(decide (p.fo=l.fo)||Yx pls l p)&&kB Z p.ver (dt (fe Z l)) l.sr l.ss
theorem CA(hZ:FxOk Z)(s:Sc)(ho:eP s)(N:Nat)(w:World)(hN:N<=w.heap.size)(hs:dS N w s)(l p:Lk)(hlk:cW l)(hg:Glb w)(hv:nz p=false):Calls prog 37 #[.agg (eZ s),.agg (lkC l),.agg (lkC p)] w (av w (.bool (iF Z s.pls l p))):=by
 have ew:=hg.lt;refine P8 ?_;refine yV ?_;intro b3 w3 aJ aD dr bY cR;refine yX ?_;intro b4 w4 cT dI k4 dD dH;refine yX ?_;intro b5 w5 ff gd rF iu iv;refine P9 ?_;refine nk 46 ((.det [] _)::(.det [0] (.bool false))::(.det [1] _)::(.det [2] undef)::(.det [2,3] undef)::(.det [2,4] undef)::(.det [2,5] _)::(.det [6] _)::(.det [7] undef)::(.det [7,8] undef)::(.det [7,9] undef)::(.det [7] undef)::(.det [7,11] undef)::(.det [7,12] undef)::(.det [7,10,13] undef)::(.det [7,14] _)::(.det [15] _)::(.det [16] undef)::(.det [16,17] undef)::(.det [16,18] undef)::(.det [16] undef)::(.det [16,20] undef)::(.det [16,21] undef)::(.det [16,19,22] undef)::(.det [16,23] undef)::(.det [24] undef)::(.det [24,25] undef)::(.det [24] undef)::(.det [24,27] undef)::(.det [24,28] undef)::(.det [24,26,29] undef)::(.det [24] undef)::(.det [24,31] undef)::(.det [24,32] undef)::(.det [24,30,33] undef)::(.det [16,24,34] undef)::(.det [16,35] _)::(.det [36] _)::(.det [37] undef)::(.det [37,38] undef)::(.det [37,39] undef)::(.det [37] undef)::(.det [37,41] undef)::(.det [37] undef)::(.det [37,43] undef)::(.det [37,44] undef)::[]) zT (xc zkc (xc zic (xc zO (xc zN (xc zN (xc zN (xc z8 (xc zO (xc zN (xc zN (xc zN (xc zN (xc zN (xc zN (xc zN (xc z8 (xc zO (xc zN (xc zN (xc zN (xc zN (xc zN (xc zN (xc zN (xc zN (xc zN (xc zN (xc zN (xc zN (xc zN (xc zN (xc zN (xc zN (xc zN (xc zN (xc zN (xc z8 (xc zO (xc zN (xc zN (xc zN (xc zN (xc zN (xc zN (xc zN (xc zN (xn))))))))))))))))))))))))))))))))))))))))))))))) zT zT zT (λae=>?_)
 refine B 6 ?_;refine ay results37 rfl A3 ?_;exact vb (by unfold iF;simp[hv])
theorem CB(hZ:FxOk Z)(s:Sc)(ho:eP s)(N:Nat)(w:World)(hN:N<=w.heap.size)(hs:dS N w s)(l p:Lk)(hlk:cW l)(hg:Glb w)(hv:nz p=true)(hr:p.resh=false):Calls prog 37 #[.agg (eZ s),.agg (lkC l),.agg (lkC p)] w (av w (.bool (iF Z s.pls l p))):=by
 have ew:=hg.lt;refine P8 ?_;refine yV ?_;intro b3 w3 aJ aD dr bY cR;refine yX ?_;intro b4 w4 cT dI k4 dD dH;refine yX ?_;intro b5 w5 ff gd rF iu iv;refine P9 ?_;refine nk 46 ((.det [] _)::(.det [0] (.bool true))::(.det [1] _)::(.det [2] _)::(.det [2,3] _)::(.det [2,4] _)::(.det [2,5] _)::(.det [6] _)::(.det [7] undef)::(.det [7,8] undef)::(.det [7,9] undef)::(.det [7] undef)::(.det [7,11] undef)::(.det [7,12] undef)::(.det [7,10,13] undef)::(.det [7,14] _)::(.det [15] _)::(.det [16] undef)::(.det [16,17] undef)::(.det [16,18] undef)::(.det [16] undef)::(.det [16,20] undef)::(.det [16,21] undef)::(.det [16,19,22] undef)::(.det [16,23] undef)::(.det [24] undef)::(.det [24,25] undef)::(.det [24] undef)::(.det [24,27] undef)::(.det [24,28] undef)::(.det [24,26,29] undef)::(.det [24] undef)::(.det [24,31] undef)::(.det [24,32] undef)::(.det [24,30,33] undef)::(.det [16,24,34] undef)::(.det [16,35] _)::(.det [36] _)::(.det [37] undef)::(.det [37,38] undef)::(.det [37,39] undef)::(.det [37] undef)::(.det [37,41] undef)::(.det [37] undef)::(.det [37,43] undef)::(.det [37,44] undef)::[]) zT (xc zkc (xc zic (xc zO (xc qA (xc (by exact λae=>X.val rfl rfl (ak underlying38 rfl sizeOf4 rfl) (λ_ _=>rfl)) (xc (by exact λae=>X.val rfl rfl (RV.re (v':=.bool false) (aa isAgg4 rfl A0 ff gd trivial rfl) ((vb hr))) (λ_ _=>rfl)) (xc z6 (xc zO (xc zN (xc zN (xc zN (xc zN (xc zN (xc zN (xc zN (xc z8 (xc zO (xc zN (xc zN (xc zN (xc zN (xc zN (xc zN (xc zN (xc zN (xc zN (xc zN (xc zN (xc zN (xc zN (xc zN (xc zN (xc zN (xc zN (xc zN (xc zN (xc z8 (xc zO (xc zN (xc zN (xc zN (xc zN (xc zN (xc zN (xc zN (xc zN (xn))))))))))))))))))))))))))))))))))))))))))))))) zT zT zT (λae=>?_)
 refine B 6 ?_;refine ay results37 rfl A3 ?_;exact vb (by unfold iF;simp[hr])
theorem CC(hZ:FxOk Z)(s:Sc)(ho:eP s)(N:Nat)(w:World)(hN:N<=w.heap.size)(hs:dS N w s)(l p:Lk)(hlk:cW l)(hg:Glb w)(hv:nz p=true)(hr:p.resh=true)(he:¬l.exp<=p.exp):Calls prog 37 #[.agg (eZ s),.agg (lkC l),.agg (lkC p)] w (av w (.bool (iF Z s.pls l p))):=by
 have ew:=hg.lt;refine P8 ?_;refine yV ?_;intro b3 w3 aJ aD dr bY cR;refine yX ?_;intro b4 w4 cT dI k4 dD dH;refine yX ?_;intro b5 w5 ff gd rF iu iv;refine P9 ?_;refine nk 46 ((.det [] _)::(.det [0] (.bool true))::(.det [1] _)::(.det [2] _)::(.det [2,3] _)::(.det [2,4] _)::(.det [2,5] _)::(.det [6] _)::(.det [7] _)::(.det [7,8] _)::(.det [7,9] _)::(.det [7] _)::(.det [7,11] _)::(.det [7,12] _)::(.det [7,10,13] _)::(.det [7,14] _)::(.det [15] _)::(.det [16] undef)::(.det [16,17] undef)::(.det [16,18] undef)::(.det [16] undef)::(.det [16,20] undef)::(.det [16,21] undef)::(.det [16,19,22] undef)::(.det [16,23] undef)::(.det [24] undef)::(.det [24,25] undef)::(.det [24] undef)::(.det [24,27] undef)::(.det [24,28] undef)::(.det [24,26,29] undef)::(.det [24] undef)::(.det [24,31] undef)::(.det [24,32] undef)::(.det [24,30,33] undef)::(.det [16,24,34] undef)::(.det [16,35] _)::(.det [36] _)::(.det [37] undef)::(.det [37,38] undef)::(.det [37,39] undef)::(.det [37] undef)::(.det [37,41] undef)::(.det [37] undef)::(.det [37,43] undef)::(.det [37,44] undef)::[]) zT (xc zkc (xc zic (xc zO (xc qA (xc (by exact λae=>X.val rfl rfl (ak underlying38 rfl sizeOf4 rfl) (λ_ _=>rfl)) (xc (by exact λae=>X.val rfl rfl (RV.re (v':=.bool true) (aa isAgg4 rfl A0 ff gd trivial rfl) ((vb hr))) (λ_ _=>rfl)) (xc z6 (xc zO (xc qA (xc uA (xc (by exact λae=>X.val rfl rfl (aa isAgg3 rfl A0 ff gd trivial rfl) (λ_ _=>rfl)) (xc qA (xc uA (xc zsc (xc Uu (xc z6 (xc zO (xc zN (xc zN (xc zN (xc zN (xc zN (xc zN (xc zN (xc zN (xc zN (xc zN (xc zN (xc zN (xc zN (xc zN (xc zN (xc zN (xc zN (xc zN (xc zN (xc z8 (xc zO (xc zN (xc zN (xc zN (xc zN (xc zN (xc zN (xc zN (xc zN (xn))))))))))))))))))))))))))))))))))))))))))))))) zT zT zT (λae=>?_)
 refine B 6 ?_;refine ay results37 rfl A3 ?_;exact vb (by unfold iF;simp[he])
theorem nkp(hZ:FxOk Z)(s:Sc)(ho:eP s)(N:Nat)(w:World)(hN:N<=w.heap.size)(hs:dS N w s)(l p:Lk)(hlk:cW l)(hg:Glb w)(hv:nz p=true)(hr:p.resh=true)(he:l.exp<=p.exp)(hf:p.fo=l.fo):Calls prog 37 #[.agg (eZ s),.agg (lkC l),.agg (lkC p)] w (av w (.bool (iF Z s.pls l p))):=by
 have ew:=hg.lt;refine P8 ?_;refine yV ?_;intro b3 w3 aJ aD dr bY cR;refine yX ?_;intro b4 w4 cT dI k4 dD dH;refine yX ?_;intro b5 w5 ff gd rF iu iv;refine P9 ?_;refine nK 46 [42] [([],some _),([0],some (.bool true)),([1],some _),([2],some _),([2,3],some _),([2,4],some _),([2,5],some _),([6],some _),([7],some _),([7,8],some _),([7,9],some _),([7],some _),([7,11],some _),([7,12],some _),([7,10,13],some _),([7,14],some _),([15],some _),([16],some _),([16,17],some _),([16,18],some _),([16],some _),([16,20],some _),([16,21],some _),([16,19,22],some _),([16,23],some _),([24],some undef),([24,25],some undef),([24],some undef),([24,27],some undef),([24,28],some undef),([24,26,29],some undef),([24],some undef),([24,31],some undef),([24,32],some undef),([24,30,33],some undef),([16,24,34],some _),([16,35],some _),([36],some _),([37],some _),([37,38],some _),([37,39],some _),([37],some _),([37,41],none),([37],some _),([37,43],some _),([37,44],some _)] (λcv L' H'=>match cv with| []=>L'=[w5,w4,w3,w]/\H'=[]| [v1]=>∃(sV:Nat) (wh:World),v1= .slice (some ⟨sV,0,none⟩) 32 32/\L'=[wh,w5,w4,w3,w]/\H'=[]/\wh.heap[sV]? =some (.cells (dg (fe Z l)) 34 (0,0))|_=>False) zT ⟨rfl,rfl⟩ zT zT zT zT zT zT (pc Eo (pc Eo (pc zW (pc z3 (pc zFc (pc Eo (pc CD (pc zW (pc z3 (pc z9 (pc Eo (pc z3 (pc z9 (pc Eo (pc zzd (pc CD (pc zW (pc z3 (pc z9 (pc Eo (pc z3 (pc z9 (pc Eo (pc (by exact λcv L' H' hd hP=>X.val rfl rfl (RV.re (v':=.bool true) (cM rfl rfl) (vb (by simp[hf]))) R2) (pc zW (pc pw (pc pw (pc pw (pc pw (pc pw (pc pw (pc pw (pc pw (pc pw (pc pw (pc CD (pc CD (pc zW (pc z3 (pc z9 (pc Eo (pc Eo (pk (pc z3 (pc Pf (pc Eo (pn))))))))))))))))))))))))))))))))))))))))))))))) ?_ ?_
 ·refine sc rfl rfl rfl ?_ ?_
  ·intro cv L' H' hl hP F Q' hk;obtain rfl:=jt hl;obtain⟨rfl,rfl⟩:=hP;refine nr (α:=Nat) (v:=λb=>.slice (some ⟨b,0,none⟩) 32 32) (Φ:=λW b w1=>W.heap.size<=b/\w1.heap[b]? =some (.cells (dg (fe Z l)) 34 (0,0))) call28 rfl rfl rfl (λW hS=>WK hZ l hlk W (hg.old hS A3 zU trivial)) ?_;rintro Wm sV wh AF Sy ⟨mA,px⟩;exact OJ.done (hk _ _ _ ⟨sV,wh,rfl,rfl,rfl,px⟩)
  exact sn
 intro cv L' H' hl hP;obtain⟨v1,rfl⟩:=di hl;obtain⟨sV,wh,rfl,rfl,rfl,px⟩:=hP;refine call (v:=.bool (kB Z p.ver (dt (fe Z l)) l.sr l.ss)) call78 rfl rfl rfl (λW hS=>by have h9:=Po hZ p.ver l.sr l.ss (dt (fe Z l)) sV 0 32 (by rw[nO];omega) W (cG.dg (hS.old A0 px zZ trivial) (RP hZ l)) (hg.old hS A4 zU trivial);rw[nO]at h9;exact h9) ?_;refine B 5 ?_;refine ay results37 rfl A4 ?_;exact vb (by unfold iF;simp[hv,hr,he,hf])
theorem HE(hZ:FxOk Z)(s:Sc)(ho:eP s)(N:Nat)(w:World)(hN:N<=w.heap.size)(hs:dS N w s)(l p:Lk)(hlk:cW l)(hg:Glb w)(hv:nz p=true)(hr:p.resh=true)(he:l.exp<=p.exp)(hf:¬p.fo=l.fo)(hu:Yx s.pls l p=true):Calls prog 37 #[.agg (eZ s),.agg (lkC l),.agg (lkC p)] w (av w (.bool (iF Z s.pls l p))):=by
 have ew:=hg.lt;refine P8 ?_;refine yV ?_;intro b3 w3 aJ aD dr bY cR;refine yX ?_;intro b4 w4 cT dI k4 dD dH;refine yX ?_;intro b5 w5 ff gd rF iu iv;refine P9 ?_;refine nK 46 [30,42] [([],some _),([0],some (.bool true)),([1],some _),([2],some _),([2,3],some _),([2,4],some _),([2,5],some _),([6],some _),([7],some _),([7,8],some _),([7,9],some _),([7],some _),([7,11],some _),([7,12],some _),([7,10,13],some _),([7,14],some _),([15],some _),([16],some _),([16,17],some _),([16,18],some _),([16],some _),([16,20],some _),([16,21],some _),([16,19,22],some _),([16,23],some _),([24],some _),([24,25],some _),([24],some _),([24,27],some _),([24,28],some _),([24,26,29],none),([24],some _),([24,31],some _),([24,32],some _),([24,30,33],some _),([16,24,34],some _),([16,35],some _),([36],some _),([37],some _),([37,38],some _),([37,39],some _),([37],some _),([37,41],none),([37],some _),([37,43],some _),([37,44],some _)] (λcv L' H'=>match cv with| []=>L'=[w5,w4,w3,w]/\H'=[]| [v1]=>∃(km:Rw),v1=km.val (dJ (nw s.pls) l.fo).length/\L'=[w5,w4,w3,w]/\H'=(km.hp ai 3 (dJ (nw s.pls) l.fo)++[])/\km.Fr Gh.no [w5,w4,w3,w]/\km.Fit 1 (dJ (nw s.pls) l.fo)| [v1,v2]=>∃(km:Rw) (sV:Nat) (wh:World),v1=km.val (dJ (nw s.pls) l.fo).length/\v2= .slice (some ⟨sV,0,none⟩) 32 32/\L'=[wh,w5,w4,w3,w]/\H'=(km.hp ai 3 (dJ (nw s.pls) l.fo)++[])/\km.Fr Gh.no [w5,w4,w3,w]/\km.Fit 1 (dJ (nw s.pls) l.fo)/\wh.heap[sV]? =some (.cells (dg (fe Z l)) 34 (0,0))/\bE (km.hp ai 3 (dJ (nw s.pls) l.fo)++[]) sV|_=>False) zT ⟨rfl,rfl⟩ zT zT zT zT zT zT (pc xD (pc xD (pc zW (pc z3 (pc zFc (pc xD (pc CD (pc zW (pc z3 (pc z9 (pc xD (pc z3 (pc z9 (pc xD (pc zzd (pc CD (pc zW (pc z3 (pc z9 (pc xD (pc z3 (pc z9 (pc xD (pc zYc (pc zW (pc (by exact λcv L' H' hd hP=>X.val rfl rfl (ak underlying81 rfl sizeOf32 rfl) R2) (pc xD (pc z3 (pc z9 (pc xD (pk (pc z3 (pc z9 (pc xD (pc (λcv L' H' hd hP=>match cv,hd,hP with| [],hd,hP=>(absurd (show false=true from hd) zQ)| [v1],hd,hP=>(by obtain⟨km,rfl,rfl,rfl,gI,dw⟩:=hP;exact nf call76 rfl rfl (λW hS _=>by obtain⟨a9,c9,e9,h9⟩:=km.sl' (t:=3) dw (Rw.at_own hS (λp hp=>by simp[hp]));have h8:=nlg (dJ (nw s.pls) l.fo) (aS (Ej (Nr s.pls).1 l.fo) zie) W.heap.size a9 c9 W (ao _) h9 p.fo;rw[show((dJ (nw s.pls) l.fo).any λx=>decide (p.fo=x))=true from hu,<-e9]at h8;exact h8) (λ_=>rfl))| [v1,v2],hd,hP=>(by obtain⟨km,sV,wh,rfl,rfl,rfl,rfl,gI,dw,px,CE⟩:=hP;exact nf call76 rfl rfl (λW hS _=>by obtain⟨a9,c9,e9,h9⟩:=km.sl' (t:=3) dw (Rw.at_own hS (λp hp=>by simp[hp]));have h8:=nlg (dJ (nw s.pls) l.fo) (aS (Ej (Nr s.pls).1 l.fo) zie) W.heap.size a9 c9 W (ao _) h9 p.fo;rw[show((dJ (nw s.pls) l.fo).any λx=>decide (p.fo=x))=true from hu,<-e9]at h8;exact h8) (λ_=>rfl))|_::_::_::_,_,hP=>hP.elim) (pc (by exact λcv L' H' hd hP=>X.val rfl rfl (wj rfl rfl) R2) (pc CD (pc zW (pc z3 (pc z9 (pc xD (pc xD (pk (pc z3 (pc Pf (pc xD (pn))))))))))))))))))))))))))))))))))))))))))))))) ?_ ?_
 ·refine sc rfl rfl rfl ?_ ?_
  ·exact z9j
  refine sc rfl rfl rfl ?_ ?_
  ·intro cv L' H' hl hP F Q' hk;obtain⟨v1,rfl⟩:=di hl;obtain⟨km,rfl,rfl,rfl,gI,dw⟩:=hP;refine nr (α:=Nat) (v:=λb=>.slice (some ⟨b,0,none⟩) 32 32) (Φ:=λW b w1=>W.heap.size<=b/\w1.heap[b]? =some (.cells (dg (fe Z l)) 34 (0,0))) call28 rfl rfl rfl (λW hS=>WK hZ l hlk W (hg.old hS A3 zU Yy)) ?_;rintro Wm sV wh AF Sy ⟨mA,px⟩;exact OJ.done (hk _ _ _ ⟨km,sV,wh,rfl,rfl,rfl,rfl,gI,dw,px,Cy λp hp=>kQ (AF.lt p hp) mA⟩)
  exact sn
 intro cv L' H' hl hP;obtain⟨v1,v2,rfl⟩:=ju hl;obtain⟨km,sV,wh,rfl,rfl,rfl,rfl,gI,dw,px,CE⟩:=hP;refine call (v:=.bool (kB Z p.ver (dt (fe Z l)) l.sr l.ss)) call78 rfl rfl rfl (λW hS=>by have h9:=Po hZ p.ver l.sr l.ss (dt (fe Z l)) sV 0 32 (by rw[nO];omega) W (cG.dg (hS.old A0 px zZ CE) (RP hZ l)) (hg.old hS A4 zU Yy);rw[nO]at h9;exact h9) ?_;refine B 5 ?_;exact bJ (.inl rfl) results37 (RS.t rfl RS.n) λW hS=>⟨congrArg Ending.returned (vb (by unfold iF;simp[hv,hr,he,hu])),hS.base A4 Yy⟩
theorem CF(hZ:FxOk Z)(s:Sc)(ho:eP s)(N:Nat)(w:World)(hN:N<=w.heap.size)(hs:dS N w s)(l p:Lk)(hlk:cW l)(hg:Glb w)(hv:nz p=true)(hr:p.resh=true)(he:l.exp<=p.exp)(hf:¬p.fo=l.fo)(hu:Yx s.pls l p=false):Calls prog 37 #[.agg (eZ s),.agg (lkC l),.agg (lkC p)] w (av w (.bool (iF Z s.pls l p))):=by
 have ew:=hg.lt;refine P8 ?_;refine yV ?_;intro b3 w3 aJ aD dr bY cR;refine yX ?_;intro b4 w4 cT dI k4 dD dH;refine yX ?_;intro b5 w5 ff gd rF iu iv;refine P9 ?_;refine nK 46 [30] [([],some _),([0],some (.bool true)),([1],some _),([2],some _),([2,3],some _),([2,4],some _),([2,5],some _),([6],some _),([7],some _),([7,8],some _),([7,9],some _),([7],some _),([7,11],some _),([7,12],some _),([7,10,13],some _),([7,14],some _),([15],some _),([16],some _),([16,17],some _),([16,18],some _),([16],some _),([16,20],some _),([16,21],some _),([16,19,22],some _),([16,23],some _),([24],some _),([24,25],some _),([24],some _),([24,27],some _),([24,28],some _),([24,26,29],none),([24],some _),([24,31],some _),([24,32],some _),([24,30,33],some _),([16,24,34],some _),([16,35],some _),([36],some _),([37],some undef),([37,38],some undef),([37,39],some undef),([37],some undef),([37,41],some undef),([37],some undef),([37,43],some undef),([37,44],some undef)] (λcv L' H'=>match cv with| []=>L'=[w5,w4,w3,w]/\H'=[]| [v1]=>∃(km:Rw),v1=km.val (dJ (nw s.pls) l.fo).length/\L'=[w5,w4,w3,w]/\H'=(km.hp ai 3 (dJ (nw s.pls) l.fo)++[])/\km.Fr Gh.no [w5,w4,w3,w]/\km.Fit 1 (dJ (nw s.pls) l.fo)|_=>False) zT ⟨rfl,rfl⟩ zT zT zT zT zT zT (pc Ep (pc Ep (pc zW (pc z3 (pc zFc (pc Ep (pc CD (pc zW (pc z3 (pc z9 (pc Ep (pc z3 (pc z9 (pc Ep (pc zzd (pc CD (pc zW (pc z3 (pc z9 (pc Ep (pc z3 (pc z9 (pc Ep (pc zYc (pc zW (pc (by exact λcv L' H' hd hP=>X.val rfl rfl (ak underlying81 rfl sizeOf32 rfl) R2) (pc Ep (pc z3 (pc z9 (pc Ep (pk (pc z3 (pc z9 (pc Ep (pc (λcv L' H' hd hP=>match cv,hd,hP with| [],hd,hP=>(absurd (show false=true from hd) zQ)| [v1],hd,hP=>(by obtain⟨km,rfl,rfl,rfl,gI,dw⟩:=hP;exact nf call76 rfl rfl (λW hS _=>by obtain⟨a9,c9,e9,h9⟩:=km.sl' (t:=3) dw (Rw.at_own hS (λp hp=>by simp[hp]));have h8:=nlg (dJ (nw s.pls) l.fo) (aS (Ej (Nr s.pls).1 l.fo) zie) W.heap.size a9 c9 W (ao _) h9 p.fo;rw[show((dJ (nw s.pls) l.fo).any λx=>decide (p.fo=x))=false from hu,<-e9]at h8;exact h8) (λ_=>rfl))|_::_::_,_,hP=>hP.elim) (pc (by exact λcv L' H' hd hP=>X.val rfl rfl (wj rfl rfl) R2) (pc CD (pc zW (pc pw (pc pw (pc pw (pc pw (pc pw (pc pw (pc pw (pc pw (pn))))))))))))))))))))))))))))))))))))))))))))))) ?_ ?_
 ·refine sc rfl rfl rfl ?_ ?_
  ·exact z9j
  exact sn
 intro cv L' H' hl hP;obtain⟨v1,rfl⟩:=di hl;obtain⟨km,rfl,rfl,rfl,gI,dw⟩:=hP;refine B 6 ?_;exact bJ (.inl rfl) results37 (RS.t rfl RS.n) λW hS=>⟨congrArg Ending.returned (vb (by unfold iF;simp[hf,hu])),hS.base A3 Yy⟩
theorem ndf(hZ:FxOk Z)(s:Sc)(ho:eP s)(N:Nat)(w:World)(hN:N<=w.heap.size)(hs:dS N w s)(l p:Lk)(hlk:cW l)(hg:Glb w):Calls prog 37 #[.agg (eZ s),.agg (lkC l),.agg (lkC p)] w (av w (.bool (iF Z s.pls l p))):=by
 cases hv:nz p with
 |false=>exact CA hZ s ho N w hN hs l p hlk hg hv
 |true=>
  cases hr:p.resh with
  |false=>exact CB hZ s ho N w hN hs l p hlk hg hv hr
  |true=>
   by_cases he:l.exp<=p.exp
   ·by_cases hf:p.fo=l.fo
    ·exact nkp hZ s ho N w hN hs l p hlk hg hv hr he hf
    cases hu:Yx s.pls l p with
    |false=>exact CF hZ s ho N w hN hs l p hlk hg hv hr he hf hu
    |true=>exact HE hZ s ho N w hN hs l p hlk hg hv hr he hf hu
   exact CC hZ s ho N w hN hs l p hlk hg hv hr he
noncomputable def Er (Z:Fx) (f:Fa) (g:Gp):Bool:=decide (¬f.by_= -1)&&En Z g.ms f.by_ (se Z f) f.sr f.ss
noncomputable def yA (Z:Fx) (o:Option Lk) (f:Fa):Bool:=decide (f.by_= -1)&&o.isSome&&kB Z (o.getD kO).ver (dt (se Z f)) f.sr f.ss
theorem CG(hZ:FxOk Z)(f:Fa)(hf:kL f)(g:Gv)(N:Nat)(w:World)(hN:N<=w.heap.size)(hG:aM N w g)(hg:Glb w)(hb:f.by_= -1):Calls prog 79 #[.agg (gD f),.agg (aZ g)] w (av w (.bool (Er Z f g.g))):=by
 refine enter (vs:=[_,_]) func79 rfl ntmps79 rfl ?_;refine B 2 ?_;refine yX ?_;intro b2 w2 aI aE dY cA db;refine yX ?_;intro b3 w3 aJ aD dr bY cR;refine B 4 ?_;refine Yo ?_;refine nk 11 [.det [] _,.det [0] _,.det [1] _,.det [2] _,.det [3] undef,.det [3] undef,.det [3,5] undef,.det [3] undef,.det [3,7] undef,.det [3] undef,.det [3,9] undef] zT (xc zzc (xc Ur (xc (by exact λae=>X.val rfl rfl (RV.re (v':=.bool false) (bM rfl rfl) (vb Nx)) (λ_ _=>rfl)) (xc zO (xc zN (xc zN (xc zN (xc zN (xc zN (xc zN (xc zN (xn)))))))))))) zT zT zT (λae=>?_);refine B 6 ?_;refine ay results79 rfl A2 ?_;exact vb (by unfold Er;simp[hb])
theorem n4o(hZ:FxOk Z)(f:Fa)(hf:kL f)(g:Gv)(N:Nat)(w:World)(hN:N<=w.heap.size)(hG:aM N w g)(hg:Glb w)(hb:¬f.by_= -1):Calls prog 79 #[.agg (gD f),.agg (aZ g)] w (av w (.bool (Er Z f g.g))):=by
 refine enter (vs:=[_,_]) func79 rfl ntmps79 rfl ?_;refine B 2 ?_;refine yX ?_;intro b2 w2 aI aE dY cA db;refine yX ?_;intro b3 w3 aJ aD dr bY cR;refine B 4 ?_;refine Yo ?_;refine nK 11 [8] [([],some _),([0],some _),([1],some _),([2],some _),([3],some _),([3],some _),([3,5],some _),([3],some _),([3,7],none),([3],some _),([3,9],some _)] (λcv L' H'=>match cv with| []=>L'=[w3,w2,w]/\H'=[]| [v1]=>∃(bm:Nat) (wm:World),v1= .slice (some ⟨bm,0,none⟩) 32 32/\L'=[wm,w3,w2,w]/\H'=[]/\wm.heap[bm]? =some (.cells (dg (se Z f)) 34 (0,0))|_=>False) zT ⟨rfl,rfl⟩ zT zT zT zT zT zT (pc zEc (pc Es (pc (by exact λcv L' H' hd hP=>X.val rfl rfl (RV.re (v':=.bool true) (bM rfl rfl) (vb Nx)) R2) (pc zW (pc Es (pc zEc (pc Es (pc Es (pk (pc (by exact λcv L' H' hd hP=>X.val rfl rfl (ak underlying59 rfl sizeOf36 rfl) R2) (pc Es (pn)))))))))))) ?_ ?_
 ·exact zUj
 intro cv L' H' hl hP;obtain⟨v1,rfl⟩:=di hl;obtain⟨bm,wm,rfl,rfl,rfl,jh⟩:=hP;refine call (v:=.bool (En Z g.g.ms f.by_ (se Z f) f.sr f.ss)) call73 rfl rfl rfl (λW hS=>nkf hZ g N W (aS hN (hS.links w A3).size) (hG.up (ao _) (hS.same A3 hN zU trivial)) f.by_ (se Z f) bm 34 (0,0) (hS.old A0 jh zZ trivial) (nRk hZ f) f.sr f.ss (hg.old hS A3 zU trivial)) ?_;refine B 5 ?_;refine ay results79 rfl A3 ?_;exact vb (by unfold Er;simp[hb])
theorem Uy(hZ:FxOk Z)(f:Fa)(hf:kL f)(g:Gv)(N:Nat)(w:World)(hN:N<=w.heap.size)(hG:aM N w g)(hg:Glb w):Calls prog 79 #[.agg (gD f),.agg (aZ g)] w (av w (.bool (Er Z f g.g))):=by
 by_cases hb:f.by_= -1
 ·exact CG hZ f hf g N w hN hG hg hb
 exact n4o hZ f hf g N w hN hG hg hb
theorem zcGx{P:Prop}(h:P:=by intro cv L' H' hd hP;(rcases cv with _|⟨v1,_|⟨_,_⟩⟩<;>try exact False.elim hP);all_goals(first|obtain⟨rfl,rfl⟩:=hP|obtain⟨bm,wm,rfl,rfl,rfl,jh⟩:=hP);all_goals(first|exact X.val rfl rfl (af isAgg59 sizeOf59 rfl A1 aI aE trivial rfl) R2|exact X.val rfl rfl (af isAgg59 sizeOf59 rfl A2 aI aE trivial rfl) R2|exact X.val rfl rfl (ag isAgg36 sizeOf36 rfl A1 aI aE trivial (aT rfl)) R2|exact X.val rfl rfl (ag isAgg36 sizeOf36 rfl A2 aI aE trivial (aT rfl)) R2|exact X.val rfl rfl (aa isAgg3 rfl A1 cT dI trivial rfl) R2|exact X.val rfl rfl (aa isAgg3 rfl A2 cT dI trivial rfl) R2|exact X.val rfl rfl (RV.re (v':=.bool true) (aa isAgg4 rfl A2 aI aE trivial rfl) (vb ho)) R2|exact X.val rfl rfl (RV.re (v':=.bool true) (aa isAgg4 rfl A3 aI aE trivial rfl) (vb ho)) R2|exact X.val rfl rfl (aa isAgg3 rfl A2 aJ aD trivial rfl) R2|exact X.val rfl rfl (aa isAgg3 rfl A3 aJ aD trivial rfl) R2|exact X.val rfl rfl (af isAgg59 sizeOf59 rfl A1 cT dI trivial rfl) R2|exact X.val rfl rfl (af isAgg59 sizeOf59 rfl A2 cT dI trivial rfl) R2|exact X.val rfl rfl (ag isAgg36 sizeOf36 rfl A1 cT dI trivial (aT rfl)) R2|exact X.val rfl rfl (ag isAgg36 sizeOf36 rfl A2 cT dI trivial (aT rfl)) R2|exact X.val rfl rfl (af isAgg57 sizeOf57 rfl A0 aJ aD trivial rfl) R2|exact X.val rfl rfl (af isAgg57 sizeOf57 rfl A1 aJ aD trivial rfl) R2|exact X.val rfl rfl (aa isAgg3 rfl A1 aI aE trivial rfl) R2|exact X.val rfl rfl (aa isAgg3 rfl A2 aI aE trivial rfl) R2)):P:=h
theorem CH(hZ:FxOk Z)(f:Fa)(hf:kL f)(g:Gv)(o:Option Lk)(b1 b2:Nat)(w:World)(aI:w.heap[b1]? =some (.cells #[.bool o.isSome] 4 (0,0)))(aJ:w.heap[b2]? =some (.cells (lkC (o.getD kO)) 84 (0,0)))(hg:Glb w)(hb:¬f.by_= -1):Calls prog 80 #[.agg (gD f),.agg (aZ g),ptr b1 0,ptr b2 0] w (av w (.bool (yA Z o f))):=by
 have aE:¬Gh.no.X b1:=λh=>h;have aD:¬Gh.no.X b2:=λh=>h;have xj:=(aL.1 aI).1;have hl3:=(aL.1 aJ).1;have ew:=hg.lt;refine z3h ?_;refine B 2 ?_;refine yX ?_;intro b4 w4 cT dI k4 dD dH;refine yX ?_;intro b5 w5 ff gd rF iu iv;refine B 4 ?_;refine zwh ?_;refine nk 14 [.det [] _,.det [0] _,.det [1] _,.det [2] _,.det [3] undef,.det [3,4] _,.det [5] _,.det [6] undef,.det [6,7] undef,.det [6,8] undef,.det [6] undef,.det [6,10] undef,.det [6] undef,.det [6,12] undef] zT (xc zzc (xc zsc (xc (by exact λae=>X.val rfl rfl (RV.re (v':=.bool false) (cM rfl rfl) (vb Nx)) (λ_ _=>rfl)) (xc zO (xc zN (xc z8 (xc zO (xc zN (xc zN (xc zN (xc zN (xc zN (xc zN (xc zN (xn))))))))))))))) zT zT zT (λae=>?_);refine B 6 ?_;refine ay results80 rfl A2 ?_;exact vb (by unfold yA;simp[hb])
theorem CI(hZ:FxOk Z)(f:Fa)(hf:kL f)(g:Gv)(o:Option Lk)(b1 b2:Nat)(w:World)(aI:w.heap[b1]? =some (.cells #[.bool o.isSome] 4 (0,0)))(aJ:w.heap[b2]? =some (.cells (lkC (o.getD kO)) 84 (0,0)))(hg:Glb w)(hb:f.by_= -1)(ho:o.isSome=false):Calls prog 80 #[.agg (gD f),.agg (aZ g),ptr b1 0,ptr b2 0] w (av w (.bool (yA Z o f))):=by
 have aE:¬Gh.no.X b1:=λh=>h;have aD:¬Gh.no.X b2:=λh=>h;have xj:=(aL.1 aI).1;have hl3:=(aL.1 aJ).1;have ew:=hg.lt;refine z3h ?_;refine B 2 ?_;refine yX ?_;intro b4 w4 cT dI k4 dD dH;refine yX ?_;intro b5 w5 ff gd rF iu iv;refine B 4 ?_;refine zwh ?_;refine nk 14 [.det [] _,.det [0] _,.det [1] _,.det [2] _,.det [3] _,.det [3,4] _,.det [5] _,.det [6] undef,.det [6,7] undef,.det [6,8] undef,.det [6] undef,.det [6,10] undef,.det [6] undef,.det [6,12] undef] zT (xc zzc (xc zsc (xc (by exact λae=>X.val rfl rfl (RV.re (v':=.bool true) (cM rfl rfl) (vb Nx)) (λ_ _=>rfl)) (xc zO (xc (by exact λae=>X.val rfl rfl (RV.re (v':=.bool false) (aa isAgg4 rfl A2 aI aE trivial rfl) (vb ho)) (λ_ _=>rfl)) (xc z6 (xc zO (xc zN (xc zN (xc zN (xc zN (xc zN (xc zN (xc zN (xn))))))))))))))) zT zT zT (λae=>?_);refine B 6 ?_;refine ay results80 rfl A2 ?_;exact vb (by unfold yA;simp[ho])
theorem nUo(hZ:FxOk Z)(f:Fa)(hf:kL f)(g:Gv)(o:Option Lk)(b1 b2:Nat)(w:World)(aI:w.heap[b1]? =some (.cells #[.bool o.isSome] 4 (0,0)))(aJ:w.heap[b2]? =some (.cells (lkC (o.getD kO)) 84 (0,0)))(hg:Glb w)(hb:f.by_= -1)(ho:o.isSome=true):Calls prog 80 #[.agg (gD f),.agg (aZ g),ptr b1 0,ptr b2 0] w (av w (.bool (yA Z o f))):=by
 have aE:¬Gh.no.X b1:=λh=>h;have aD:¬Gh.no.X b2:=λh=>h;have xj:=(aL.1 aI).1;have hl3:=(aL.1 aJ).1;have ew:=hg.lt;refine z3h ?_;refine B 2 ?_;refine yX ?_;intro b4 w4 cT dI k4 dD dH;refine yX ?_;intro b5 w5 ff gd rF iu iv;refine B 4 ?_;refine zwh ?_;refine nK 14 [11] [([],some _),([0],some _),([1],some _),([2],some _),([3],some _),([3,4],some _),([5],some _),([6],some _),([6,7],some _),([6,8],some _),([6],some _),([6,10],none),([6],some _),([6,12],some _)] (λcv L' H'=>match cv with| []=>L'=[w5,w4,w]/\H'=[]| [v1]=>∃(bm:Nat) (wm:World),v1= .slice (some ⟨bm,0,none⟩) 32 32/\L'=[wm,w5,w4,w]/\H'=[]/\wm.heap[bm]? =some (.cells (dg (se Z f)) 34 (0,0))|_=>False) zT ⟨rfl,rfl⟩ zT zT zT zT zT zT (pc zEc (pc zcGx (pc (by exact λcv L' H' hd hP=>X.val rfl rfl (RV.re (v':=.bool true) (cM rfl rfl) (vb Nx)) R2) (pc zW (pc zcGx (pc CD (pc zW (pc z3 (pc z9 (pc zcGx (pc zcGx (pk (pc (by exact λcv L' H' hd hP=>X.val rfl rfl (ak underlying59 rfl sizeOf36 rfl) R2) (pc zcGx (pn))))))))))))))) ?_ ?_
 ·exact zUj
 intro cv L' H' hl hP;obtain⟨v1,rfl⟩:=di hl;obtain⟨bm,wm,rfl,rfl,rfl,jh⟩:=hP;refine call (v:=.bool (kB Z (o.getD kO).ver (dt (se Z f)) f.sr f.ss)) call78 rfl rfl rfl (λW hS=>by have h9:=Po hZ (o.getD kO).ver f.sr f.ss (dt (se Z f)) bm 0 32 (by rw[nO];omega) W (cG.dg (hS.old A0 jh zZ trivial) (nRk hZ f)) (hg.old hS A3 zU trivial);rw[nO]at h9;exact h9) ?_;refine B 5 ?_;refine ay results80 rfl A3 ?_;exact vb (by unfold yA;simp[hb,ho])
theorem Uz(hZ:FxOk Z)(f:Fa)(hf:kL f)(g:Gv)(o:Option Lk)(b1 b2:Nat)(w:World)(aI:w.heap[b1]? =some (.cells #[.bool o.isSome] 4 (0,0)))(aJ:w.heap[b2]? =some (.cells (lkC (o.getD kO)) 84 (0,0)))(hg:Glb w):Calls prog 80 #[.agg (gD f),.agg (aZ g),ptr b1 0,ptr b2 0] w (av w (.bool (yA Z o f))):=by
 by_cases hb:f.by_= -1
 ·cases ho:o.isSome with
  |false=>exact CI hZ f hf g o b1 b2 w aI aJ hg hb ho
  |true=>exact nUo hZ f hf g o b1 b2 w aI aJ hg hb ho
 exact CH hZ f hf g o b1 b2 w aI aJ hg hb
theorem nWd(hZ:FxOk Z)(s:Sc)(ho:eP s)(N:Nat)(w:World)(hN:N<=w.heap.size)(hs:dS N w s)(l:Lk)(hg:Glb w):Calls prog 39 #[.agg (eZ s),.agg (lkC l)] w (cu w (λq:Nat×Nat×Nat=>.slice (some ⟨q.1,0,none⟩) 2 2) (λq w1=>w.heap.size<=q.1/\w.heap.size<=q.2.1/\w.heap.size<=q.2.2/\w1.heap[q.1]? =some (.cells #[.func (.func 79) #[] #[],.func (.func 80) #[] #[ptr q.2.1 0,ptr q.2.2 0]] 128 (0,0))/\w1.heap[q.2.1]? =some (.cells #[.bool (dh Z s.lks l).isSome] 4 (0,0))/\w1.heap[q.2.2]? =some (.cells (lkC ((dh Z s.lks l).getD kO)) 84 (0,0)))):=by
 have ew:=hg.lt;refine enter (vs:=[_,_]) func39 rfl ntmps39 rfl ?_;refine B 2 ?_;refine yX ?_;intro b2 w2 aI aE dY cA db;refine yX ?_;intro b3 w3 aJ aD dr bY cR;refine B 5 ?_;refine rv rfl rfl rfl (af isAgg81 sizeOf81 rfl A1 aI aE trivial rfl) ?_;refine rv rfl rfl rfl (af isAgg84 sizeOf84 rfl A0 aJ aD trivial rfl) ?_;refine call (v:=Uw (dh Z s.lks l)) call36 rfl rfl rfl (λW hS=>nOc hZ s ho N W (aS hN (hS.links w A2).size) (hs.up (ao _) (hS.same A2 hN zU trivial)) l (hg.old hS A2 zU trivial)) ?_;refine rr (.tuple #[.agg (lkC ((dh Z s.lks l).getD kO)),.bool (dh Z s.lks l).isSome]) (fh rfl) ?_;refine B 2 ?_;refine RQ ?_;refine yW ?_;intro b5 iu iv;refine aY zeroValue4 rfl rfl ?_;refine yW ?_;intro b6 gm kg;refine aV (i:=1) rfl sizeOf84 rfl rfl rfl rfl rfl rfl ?_;refine Pj ?_;refine B 4 ?_;refine rv rfl rfl rfl (bL underlying128 zeroValue128 (bA.c sizeOf126 (bA.n)) rfl rfl) ?_;refine B 1 ?_;refine rv rfl rfl rfl (bL underlying128 zeroValue128 (bA.c sizeOf126 (bA.n)) rfl rfl) ?_;refine lj underlying118 sizeOf128 zeroValue128 rfl rfl rfl rfl rfl rfl rfl ?_;refine yW ?_;intro cF gU aaM;refine B 4 ?_;exact bJ (.inl rfl) results39 (RS.t rfl RS.n) λW hS=>⟨(cF,b6,b5),rfl,hS.base A2 qy,by dsimp only;omega,by dsimp only;omega,by dsimp only;omega,hS.own (cF,_) A0,hS.own (b6,_) A1,hS.own (b5,_) A2⟩
def JT (v:Value):Array Value:=#[v]
def Yz (x y:Bool):Value->Bool
 | .func (.func n) _ _=>if n=79 then x else y
 |_=>false
theorem HF(x y:Bool)(a b:Nat):([.func (.func 79) #[] #[],.func (.func 80) #[] #[ptr a 0,ptr b 0]]:List Value).any (Yz x y)=(x||y):=by simp[Yz]
theorem UA{w:World}{a1 a2 t:Nat}(hb:w.heap[b]? =some (.cells #[.func (.func 79) #[] #[],.func (.func 80) #[] #[ptr a1 0,ptr a2 0]] t fr)):ah JT 1 w.heap.size w (some ⟨b,0,none⟩) [.func (.func 79) #[] #[],.func (.func 80) #[] #[ptr a1 0,ptr a2 0]]:=
 .inr ⟨b,0,_,t,fr,rfl,(aL.1 hb).1,hb,by
  intro i hi
  match i,hi with
  |0,_=>exact⟨by simp,rfl⟩
  |1,_=>exact⟨by simp,rfl⟩⟩
theorem nVk(p:Value->Bool)(f:Nat)(cap:List Value)(ax:dU prog f)(xs:List Value)(ck:xs.length<=1000000)(N:Nat)(a:Option Addr)(cp:Nat)(w:World)(hN:N<=w.heap.size)(aN:ah JT 1 N w a xs)(hp:∀(j:Nat) (x:Value),xs[j]? =some x->∀W,Below w.heap.size w W->Calls prog f (.agg (JT x)::cap).toArray W (av W (.bool (p x)))):Calls prog 86 #[.slice a xs.length cp,.func (.func f) #[] cap.toArray] w (cu w (λi:Int=>.int .i64 i) (λi _=>cZ p xs i)):=by
 refine enter (vs:=[_,_]) func86 rfl ntmps86 rfl ?_;refine Jj ?_;rintro j ⟨hj,er⟩;refine B 6 ?_;refine aO ?_ ?_
 ·intro aj;refine B 11 ?_;obtain⟨bo,oo,cs0,to,fA,rfl,fG,hcs,ar⟩:=aN.get zM;obtain⟨x,hx⟩:=nj xs j zM;refine B 5 ?_;refine rq (.agg (JT x)) (ag isAgg128 sizeOf128 rfl A0 hcs zZ trivial (nl ar hx rfl)) (va (nq ar hx rfl)) ?_;refine Jk ?_;refine aO ?_ ?_
  ·intro aQ;refine B 12 ?_;refine jM (j:Int) results86 rfl A0 rfl ?_;exact Jl
  exact Gs
 intro aj;refine B 11 ?_;refine jM (-1:Int) results86 rfl A0 rfl ?_;exact Gt
theorem nJi(p:Value->Bool)(f:Nat)(cap:List Value)(ax:dU prog f)(xs:List Value)(ck:xs.length<=1000000)(N:Nat)(a:Option Addr)(cp:Nat)(w:World)(hN:N<=w.heap.size)(aN:ah JT 1 N w a xs)(hp:∀(j:Nat) (x:Value),xs[j]? =some x->∀W,Below w.heap.size w W->Calls prog f (.agg (JT x)::cap).toArray W (av W (.bool (p x)))):Calls prog 44 #[.slice a xs.length cp,.func (.func f) #[] cap.toArray] w (av w (.bool (xs.any p))):=by
 refine enter (vs:=[_,_]) func44 rfl ntmps44 rfl ?_;refine B 9 ?_;refine nr (α:=Int) (v:=λi:Int=>.int .i64 i) (Φ:=λ_ i _=>cZ p xs i) call86 rfl rfl rfl (λW hS=>nVk p f cap ax xs ck N a cp W (aS hN (hS.links w A0).size) (aN.up (ao _) (hS.same A0 hN zU trivial)) (λj x hx W2 hB=>hp j x hx W2 (((hS.links w A0).below Lw).trans (hB.mono (hS.links w A0).size)))) ?_;intro Wi i wi sC sD hi;refine B 5 ?_;refine ay results44 rfl A1 ?_;exact vb hi.any
theorem ndk(n:Nat)(cap:List Value)(ax:dU prog n)(f:Fa)(g:Gv)(b1 b2:Nat)(w:World)(aP:w.heap[b1]? =some (.cells (gD f) 59 (0,0)))(aI:w.heap[b2]? =some (.cells (aZ g) 57 (0,0)))(bv:Bool)(hq:∀W,Below w.heap.size w W->Calls prog n (.agg (gD f):: .agg (aZ g)::cap).toArray W (av W (.bool bv))):Calls prog 45 #[.agg (JT (.func (.func n) #[] cap.toArray)),ptr b1 0,ptr b2 0] w (av w (.bool bv)):=by
 have aX:¬Gh.no.X b1:=λh=>h;have aE:¬Gh.no.X b2:=λh=>h;have mB:=(aL.1 aP).1;have xj:=(aL.1 aI).1;refine enter (vs:=[_,_,_]) func45 rfl ntmps45 rfl ?_;refine B 2 ?_;refine yX ?_;intro b3 w3 aJ aD dr bY cR;refine B 6 ?_;refine rr (.func (.func n) #[] cap.toArray) (aa isAgg126 rfl A0 aJ aD trivial rfl) ?_;refine rr (.agg (gD f)) (ag isAgg59 sizeOf59 rfl A1 aP aX trivial (aT rfl)) ?_;refine rr (.agg (aZ g)) (ag isAgg57 sizeOf57 rfl A1 aI aE trivial (aT rfl)) ?_;refine nJ (v:=.bool bv) (f:=n) (cap:=cap) rfl ax rfl rfl rfl (λW hS=>hq W (hS.belowNo A1)) ?_;refine B 4 ?_;refine ay results45 rfl A1 ?_;rfl
theorem Ny(hZ:FxOk Z)(f:Fa)(hf:kL f)(g:Gv)(N:Nat)(w:World)(hN:N<=w.heap.size)(hG:aM N w g)(hg:Glb w)(o:Option Lk)(b4 bg a1 a2:Nat)(cT:w.heap[b4]? =some (.cells (gD f) 59 (0,0)))(hbg:w.heap[bg]? =some (.cells (aZ g) 57 (0,0)))(eb:w.heap[a1]? =some (.cells #[.bool o.isSome] 4 (0,0)))(cA:w.heap[a2]? =some (.cells (lkC (o.getD kO)) 84 (0,0))):∀(j:Nat) (x:Value),([.func (.func 79) #[] #[],.func (.func 80) #[] #[ptr a1 0,ptr a2 0]]:List Value)[j]? =some x->∀W,Below w.heap.size w W->Calls prog 45 (.agg (JT x)::[ptr b4 0,ptr bg 0]).toArray W (av W (.bool (Yz (Er Z f g.g) (yA Z o f) x))):=by
 intro j x hx W hB;have at_:∀{v W:World} (hB:Below v.heap.size v W) {k:Nat} {o:Obj},v.heap[k]? =some o->W.heap[k]? =some o:=λhB k o h=>(hB.block _ (aL.1 h).1).trans h
 match j,hx with
 |0,hx=>
  obtain rfl: .func (.func 79) #[] #[]=x:=by simpa using hx
  have h9:=ndk 79 [] call79 f g b4 bg W (at_ hB cT) (at_ hB hbg) (Er Z f g.g) (λW2 Nz=>Uy hZ f hf g N W2 (aS hN (aS hB.size Nz.size)) (hG.up (ao _) λk hk=>(Nz.block k (by have:=hB.size;omega)).trans (hB.block k zM)) ((hg.bel hB).bel Nz));exact h9
 |1,hx=>
  obtain rfl: .func (.func 80) #[] #[ptr a1 0,ptr a2 0]=x:=by simpa using hx
  have h9:=ndk 80 [ptr a1 0,ptr a2 0] call80 f g b4 bg W (at_ hB cT) (at_ hB hbg) (yA Z o f) (λW2 Nz=>Uz hZ f hf g o a1 a2 W2 (at_ Nz (at_ hB eb)) (at_ Nz (at_ hB cA)) ((hg.bel hB).bel Nz));exact h9
 |j+2,hx=>simp at hx
noncomputable def jZ (Z:Fx) (o:Option Lk) (Qa:Nat->Int) (g:Gp) (f:Fa):Bool:=fE f.lnk Qa&&fE f.com g.last&&decide (1<=f.n)&&decide (f.n<2305843009213688669)&&(Er Z f g||yA Z o f)
theorem CK(hZ:FxOk Z)(f:Fa)(hf:kL f)(g:Gv)(N:Nat)(w:World)(hN:N<=w.heap.size)(hG:aM N w g)(hg:Glb w)(o:Option Lk)(Qa:Nat->Int)(bi bg bs br a1 a2:Nat)(aP:w.heap[bi]? =some (.cells (dg Qa) 34 (0,0)))(aI:w.heap[bg]? =some (.cells (aZ g) 57 (0,0)))(aJ:w.heap[bs]? =some (.cells #[.slice (some ⟨br,0,none⟩) 2 2] 118 (0,0)))(HG:w.heap[br]? =some (.cells #[.func (.func 79) #[] #[],.func (.func 80) #[] #[ptr a1 0,ptr a2 0]] 128 (0,0)))(eb:w.heap[a1]? =some (.cells #[.bool o.isSome] 4 (0,0)))(cA:w.heap[a2]? =some (.cells (lkC (o.getD kO)) 84 (0,0))):Calls prog 43 #[.agg (gD f),ptr bi 0,ptr bg 0,ptr bs 0] w (av w (.bool (jZ Z o Qa g.g f))):=by
 have aX:¬Gh.no.X bi:=λh=>h;have aE:¬Gh.no.X bg:=λh=>h;have aD:¬Gh.no.X bs:=λh=>h;have ew:=hg.lt;have aeA:=(aL.1 aP).1;have aeB:=(aL.1 aI).1;have aeC:=(aL.1 aJ).1;have aeD:=(aL.1 HG).1;have aeE:=(aL.1 eb).1;have aeF:=(aL.1 cA).1;refine enter (vs:=[_,_,_,_]) func43 rfl ntmps43 rfl ?_;refine B 2 ?_;refine yX ?_;intro b4 w4 cT dI k4 dD dH;refine B 6 ?_;refine rr (.agg (dg f.lnk)) (ag isAgg34 sizeOf34 rfl A0 cT dI trivial (aT rfl)) ?_;refine rr (.agg (dg Qa)) (ag isAgg34 sizeOf34 rfl A1 aP aX trivial (aT rfl)) ?_;refine rr (.bool (fE f.lnk Qa)) (fF uB zQ nX rfl rfl rfl) ?_;refine B 1 ?_;refine nh (t:=10) rfl (λaj=>?_) (λaj=>?_)
 ·replace aj:=ya aj;refine B 1 ?_;refine rr (.agg (dg f.com)) (ag isAgg34 sizeOf34 rfl A0 cT dI trivial (aT rfl)) ?_;refine B 1 ?_;refine rr (.agg (dg g.g.last)) (ag isAgg34 sizeOf34 rfl A1 aI aE trivial (aT rfl)) ?_;refine rr (.bool (fE f.com g.g.last)) (fF uB zQ nX rfl rfl rfl) ?_;refine B 2 ?_;refine nh (t:=17) rfl (λaQ=>?_) (λaQ=>?_)
  ·replace aQ:=ya aQ;refine B 5 ?_;refine nh (t:=22) rfl (λcY=>?_) (λcY=>?_)
   ·replace cY:=ya cY;refine B 5 ?_;refine nh (t:=27) rfl (λgb=>?_) (λgb=>?_)
    ·replace gb:=ya gb;refine rr (.slice (some ⟨br,0,none⟩) 2 2) (aa isAgg118 rfl A1 aJ aD trivial rfl) ?_;refine B 1 ?_;refine call (v:=.bool (Er Z f g.g||yA Z o f)) call44 rfl rfl rfl (λW hS=>by have h9:=nJi (Yz (Er Z f g.g) (yA Z o f)) 45 [ptr b4 0,ptr bg 0] call45 [.func (.func 79) #[] #[],.func (.func 80) #[] #[ptr a1 0,ptr a2 0]] z1 W.heap.size (some ⟨br,0,none⟩) 2 W (ao _) (UA (hS.old A1 HG zZ trivial)) (Ny hZ f hf g N W (aS hN (hS.links w A1).size) (hG.up (ao _) (hS.same A1 hN zU trivial)) (hg.old hS A1 zU trivial) o b4 bg a1 a2 (hS.old A0 cT dI trivial) (hS.old A1 aI zZ trivial) (hS.old A1 eb zZ trivial) (hS.old A1 cA zZ trivial));rw[HF]at h9;exact h9) ?_;refine B 5 ?_;exact UB
    replace gb:=ya gb;refine B 8 ?_;exact UB
   replace cY:=ya cY;refine B 13 ?_;exact UB
  replace aQ:=ya aQ;refine B 18 ?_;exact UB
 replace aj:=ya aj;refine B 25 ?_;exact UB
theorem nWm(hZ:FxOk Z)(cs:List Cm)(hcs:cs.length<=1000)(dM:∀c∈cs,cI c)(NQ NR NX:Nat)(la:Option Addr)(lc:Nat)(ia:Option Addr)(ic:Nat)(ta:Option Addr)(tc:Nat)(fo:Fo)(b1 b2:Nat)(W:World)(NA:JO Z cs la ia ta ic tc NQ NR NX W)(hR:NR<=b1/\b1<NX/\NR<=b2/\b2<NX)(aP:W.heap[b1]? =some (.cells (xy Z cs la lc ⟨ia,ic,ta,tc⟩) 92 (0,0)))(aI:W.heap[b2]? =some (.cells (rJ fo) 50 (0,0))):wo prog 50 [ptr b1 0,ptr b2 0] (λd:Cd=>[.agg (dO d)]) (λ(p:List Cd) (_:aA) (_:World)=>p.length<=cs.length) (λ(xs:List Cd) (Y:aA) (A:World)=>(oy Z cs fo (xs.map qX)/\xs.length<=cs.length)/\∀e∈xs,aM A.heap.size A e.x/\du Y e.x/\bh NQ e.x) (λ_=>False) (Cf NQ NR NX) W:=by
 intro l M I X0 hM hI hX hy h0;have aX:¬(cj hM (λ_=>False) (hI [] _)).X b1:=by rintro(h|h);(exact(hM _ h).2.2 ⟨hR.2.1,.inr hR.1⟩);(exact h.elim)
 have aE:¬(cj hM (λ_=>False) (hI [] _)).X b2:=by rintro(h|h);(exact(hM _ h).2.2 ⟨hR.2.2.2,.inr hR.2.2.1⟩);(exact h.elim)
 have hNX:=NA.x;have hNQ:=NA.q;have hN3:=NA.n3;refine nM (cj hM (λ_=>False) (hI [] _)) [] (vs:=[_,_,_]) func50 rfl ntmps50 rfl (I6 hM (hI [] _) h0 z1 Jg z1) ?_;refine B 2 ?_;refine rr (.agg (xy Z cs la lc ⟨ia,ic,ta,tc⟩)) (ag isAgg92 sizeOf92 rfl A0 aP aX trivial (aT rfl)) ?_;refine rr (.agg (rJ fo)) (ag isAgg50 sizeOf50 rfl A0 aI aE trivial (aT rfl)) ?_;refine nr (α:=Cd×Bool) (v:=λq=>.tuple #[.agg (dO q.1),.bool q.2]) (Φ:=λW q w'=>(q.2=true/\Cb Z cs fo=some (pr q.1)/\u2 Z cs (g0 fo) q.1/\aM w'.heap.size w' q.1.x/\bh W.heap.size q.1.x)\/(q.2=false/\Cb Z cs fo=none)) call51 rfl rfl rfl (λW9 hS=>by
  obtain⟨h1,h2,h3,h4⟩:=NA.args (hS.links W A0).size (NA.same hS A0 (λk hk=>hk.elim) True.intro);exact nlo hZ cs hcs dM W9.heap.size la lc W9 (ao _) h1 h2 ia ic ta tc h3 fo h4) ?_
 rintro W9 ⟨d,T3⟩ w9 lI vN hph;have mF:=vN.size;have hzW:=(lI.links W A0).size;refine B 3 ?_;refine PV ?_;refine yW ?_;intro b4 dD dH;refine M5 ?_;refine B 4 ?_;refine CJ.loop (α:=((((List Cd×Cd)×Bool)×aA)×World)×Nat) (λp=>[(0,yv l),(1,ptr b1 0),(2,ptr b2 0),(4,ptr p.2 0),(5,.bool p.1.1.1.2)]) (λp=>[(p.2,.cells (dO p.1.1.1.1.2) 101 (0,0))]) (λp=>[p.1.2,W]) (λp=>cj hM p.1.1.2 (hI p.1.1.1.1.1 p.1.1.2)) (λp=>(∀k,p.1.1.2 k->W.heap.size<=k)/\W.heap.size<=p.2/\W.heap.size<=p.1.2.heap.size/\p.1.1.1.1.1.length<=cs.length/\((p.1.1.1.2=true/\Hk Z cs fo M p.1.1.1.1.1 p.1.1.1.1.2 p.1.1.2 p.1.2 p.2/\bh NQ p.1.1.1.1.2.x)\/(p.1.1.1.2=false/\oy Z cs fo (p.1.1.1.1.1.map qX)))/\∀e∈p.1.1.1.1.1,aM p.1.2.heap.size p.1.2 e.x/\du (λk=>M k\/p.1.1.2 k) e.x/\mK p.2 e.x/\bh NQ e.x) (λp=>cs.length+1-p.1.1.1.1.1.length) ((((([],d),T3),λ_=>False),w9),b4) ⟨λ_ h=>h.elim,by dsimp only;omega,by dsimp only;omega,dx _,hph.imp (λh=>⟨h.1,Hk.first h.2.1 h.2.2.1 h.2.2.2.1 h.2.2.2.2 (λk hk=>by have:=(hM k hk).1;omega) dE,h.2.2.2.2.mono zM⟩) (λh=>⟨h.1,h.2⟩),λe he=>by cases he⟩ zR rfl rfl z1 ?_;rintro⟨⟨⟨⟨⟨pre,d⟩,T3⟩,V⟩,wk⟩,b4⟩ ⟨hV,M4,hwk,hpl,jk,CL⟩;dsimp only at hV M4 hwk hpl jk CL ⊢;clear aX aE;have aX:¬(cj hM V (hI pre V)).X b1:=by rintro(h|h);(exact(hM _ h).2.2 ⟨hR.2.1,.inr hR.1⟩);(have:=hV _ h;omega)
 have aE:¬(cj hM V (hI pre V)).X b2:=by rintro(h|h);(exact(hM _ h).2.2 ⟨hR.2.2.2,.inr hR.2.2.1⟩);(have:=hV _ h;omega)
 refine B 2 ?_;rcases jk with⟨rfl,kU,hdn⟩|⟨rfl,bV⟩
 ·refine B 4 ?_;refine T7 ?_;refine JU (λ_=>False) id L2 (V:=V) (λV=>hI (pre++[d]) V) hX hV rfl rfl rfl rfl (λW1 _ S0 kP=>hy pre d V W1 (by have:=kU.mu;show(pre++[d]).length<=cs.length;rw[cC,BX];omega) S0 kP) ?_ ?_
  ·intro V2 vM qL;have qZ:=qL wk A0;have xE:∀k,V2 k->W.heap.size<=k:=λk hk=>by rcases qZ k hk with h|h;(exact hV k h);omega
   have aX:¬(cj hM V2 (hI (pre++[d]) V2)).X b1:=by rintro(h|h);(exact(hM _ h).2.2 ⟨hR.2.1,.inr hR.1⟩);(have:=xE _ h;omega)
   have aE:¬(cj hM V2 (hI (pre++[d]) V2)).X b2:=by rintro(h|h);(exact(hM _ h).2.2 ⟨hR.2.2.2,.inr hR.2.2.1⟩);(have:=xE _ h;omega)
   have CM:du (λk=>M k\/V2 k) d.x:=kU.out.up kU.lies (λk hk=>hk.elim (λh=>.inl (.inl h)) (λh=>(qZ k h).imp .inr id));have JV:∀e∈pre++[d],du (λk=>M k\/V2 k) e.x:=λe he=>by
    rcases cS.1 he with he|he
    ·exact(CL e he).2.1.up (CL e he).1 (λk hk=>hk.elim (λh=>.inl (.inl h)) (λh=>(qZ k h).imp .inr id))
    rw[ql.1 he];exact CM
   refine B 14 ?_;refine T7 ?_;refine B 2 ?_;refine n2o (i:=0) (L':=[W]) rfl zX z1 (λWr pg=>?_);have gk:aM Wr.heap.size Wr d.x:=kU.lies.toZ pg A0 (ao _) CM (λp hp=>by rw[ql.1 hp];exact kU.off);have mH:=(pg.links W A1).size;have jK:∀e∈pre++[d],bh NQ e.x:=λe he=>by
    rcases cS.1 he with he|he
    ·exact(CL e he).2.2.2
    rw[ql.1 he];exact hdn
   have NB:∀e∈pre++[d],aM Wr.heap.size Wr e.x:=λe he=>by
    rcases cS.1 he with he|he
    ·exact(CL e he).1.toZ pg A0 (ao _) (JV e (cS.2 (.inl he))) (λp hp=>by rw[ql.1 hp];exact(CL e he).2.2.1)
    rw[ql.1 he];exact gk
   refine B 1 ?_;refine PV ?_;refine yW ?_;intro b4 dD dH;refine M5 ?_;refine B 3 ?_;refine rr (.agg (xy Z cs la lc ⟨ia,ic,ta,tc⟩)) (ag isAgg92 sizeOf92 rfl A1 aP aX zL (aT rfl)) ?_;refine B 1 ?_;refine rr (.agg (aZ d.x)) (cN (i:=0) rfl isAgg57 sizeOf57 rfl (aT rfl)) ?_;refine nr (α:=Cd×Bool) (v:=λq=>.tuple #[.agg (dO q.1),.bool q.2]) (Φ:=λW q w'=>(q.2=true/\Ee Z cs d.x.g=some (pr q.1)/\ox Z cs d.x.g q.1/\aM w'.heap.size w' q.1.x/\bh W.heap.size q.1.x)\/(q.2=false/\Ee Z cs d.x.g=none)) call52 rfl rfl rfl (λW9 hS=>by
    obtain⟨h1,h2,h3,h4⟩:=NA.args (hS.links W A1).size (NA.same hS A1 xE ⟨dD.2.1,True.intro⟩);exact nEm hZ cs hcs dM W9.heap.size la lc W9 (ao _) h1 h2 ia ic ta tc h3 d.x (gk.toZ hS A0 (ao _) CM (λp hp=>by rw[ql.1 hp];exact gk.off dE)) h4) ?_
   rintro W9 ⟨d2,ok2⟩ w9 lI vN hph;have mF:=vN.size;have hzW:=(lI.links W A1).size;have sT:=lI.lt (b4,_) A0;try dsimp only at sT
   have hV9:∀k,V2 k->k<W9.heap.size:=λk hk=>lI.xlt k (.inr hk);have hM9:∀k,M k->k<W9.heap.size:=λk hk=>lI.xlt k (.inl hk);have aeH:∀e∈pre++[d],aM w9.heap.size w9 e.x:=λe he=>by
    have h9:=(NB e he).toZ lI A0 (ao _) (JV e he) (λp hp=>by rw[ql.1 hp];exact(NB e he).off dE);exact h9.up vN.size (λk hk=>vN.block k hk)
   refine B 3 ?_;refine M5 ?_;refine B 2 ?_;refine PJ.again (((((pre++[d],d2),ok2),V2),w9),b4) ⟨xE,by dsimp only;omega,by dsimp only;omega,by have:=kU.mu;dsimp only;rw[cC,BX];omega,hph.imp (λh=>⟨h.1,kU.step h.2.1 h.2.2.1.le h.2.2.2.1 h.2.2.2.2 hM9 hV9 sT,h.2.2.2.2.mono zM⟩) (λh=>⟨h.1,kU.stop h.2⟩),λe he=>⟨aeH e he,JV e he,(NB e he).off dE,jK e he⟩⟩ (by have:=kU.mu;dsimp only;rw[cC,BX];omega) zR rfl rfl z1
  intro V2 vM qL;have qZ:=qL wk A0;have xE:∀k,V2 k->W.heap.size<=k:=λk hk=>by rcases qZ k hk with h|h;(exact hV k h);omega
  refine B 8 ?_;exact UC (Fin:=(λ(xs:List Cd) (Y:aA) (A:World)=>(oy Z cs fo (xs.map qX)/\xs.length<=cs.length)/\∀e∈xs,aM A.heap.size A e.x/\du Y e.x/\bh NQ e.x)) (.inr rfl) results50 A1 xE (by intro k hk hx;simp at hx;omega) (λA UD hA=>.inr hA)
 refine B 14 ?_;exact UC (Fin:=(λ(xs:List Cd) (Y:aA) (A:World)=>(oy Z cs fo (xs.map qX)/\xs.length<=cs.length)/\∀e∈xs,aM A.heap.size A e.x/\du Y e.x/\bh NQ e.x)) (.inr rfl) results50 A1 hV (by intro k hk hx;simp at hx;omega) (λA UD hA=>.inl ⟨pre,⟨⟨bV,hpl⟩,λe he=>⟨(CL e he).1.toZ UD A0 (ao _) (CL e he).2.1 (λp hp=>by rw[ql.1 hp];exact(CL e he).2.2.1),(CL e he).2.1,(CL e he).2.2.2⟩⟩,hA⟩)
theorem du.off{Y:aA}{x:Gv}(h:du Y x)(hb:Y b):mK b x:=⟨λq e=>(h.1 q e).imp id (λh1 e2=>h1 (e2▸hb)),λq e=>(h.2 q e).imp id (λh1 e2=>h1 (e2▸hb))⟩
theorem du.none{x:Gv}:du Gh.no.X x:=⟨λq e=>.inr zZ,λq e=>.inr zZ⟩
theorem nLj(hZ:FxOk Z)(cs:List Cm)(hcs:cs.length<=1000)(dM:∀c∈cs,cI c)(N:Nat)(la:Option Addr)(lc:Nat)(w:World)(hN:N<=w.heap.size)(aN:ah dZ 73 N w la cs)(hC:∀c∈cs,dQ N w c)(fo:Fo)(hg:Glb w):Calls prog 11 #[.agg (rJ fo),.slice la cs.length lc] w (cu w (λq:((Option Addr×Nat)×(Option Addr×Nat))×List Cd=>.tuple #[.slice q.1.1.1 q.2.length q.1.1.2,.slice q.1.2.1 q.2.length q.1.2.2]) (λq w1=>(oy Z cs fo (q.2.map qX)/\q.2.length<=cs.length)/\ah (λx=>(ai x).toArray) 1 w1.heap.size w1 q.1.1.1 (q.2.map λd=>d.at_)/\ah (λx=>(kK x).toArray) 36 w1.heap.size w1 q.1.2.1 (q.2.map λd=>d.x)/\(∀p,q.1.1.1=some p->w.heap.size<=p.block)/\(∀p,q.1.2.1=some p->w.heap.size<=p.block)/\∀d∈q.2,aM w1.heap.size w1 d.x/\bh w.heap.size d.x)):=by
 have ew:=hg.lt;refine wy Gh.no [] (vs:=[_,_]) func11 rfl ntmps11 rfl (rR w) ?_;refine B 2 ?_;refine yX ?_;intro b2 w2 aI aE dY cA db;refine aY zeroValue44 rfl rfl ?_;refine yW ?_;intro b4 dD dH;refine aY zeroValue46 rfl rfl ?_;refine yW ?_;intro b5 iu iv;refine B 4 ?_;refine Z2 ?_;refine nK 3 [1] [([],some _),([0],none),([],some _)] (λcv L' H'=>match cv with| []=>L'=[w2,w]/\H'=[(b5,.cells #[.slice none 0 0] 46 (0,0)),(b4,.cells #[.slice none 0 0] 44 (0,0))]| [v1]=>∃(NR:Nat) (ia:Option Addr) (ic:Nat) (ta:Option Addr) (tc:Nat) (wp:World),v1= .agg (xy Z cs la lc ⟨ia,ic,ta,tc⟩)/\L'=[wp,w2,w]/\H'=[(b5,.cells #[.slice none 0 0] 46 (0,0)),(b4,.cells #[.slice none 0 0] 44 (0,0))]/\mr Z cs wp.heap.size wp ⟨ia,ic,ta,tc⟩/\(∀q,ia=some q->NR<=q.block)/\(∀q,ta=some q->NR<=q.block)/\b5<NR/\b4<NR/\w.heap.size<=NR/\NR<=wp.heap.size|_=>False) zT ⟨rfl,rfl⟩ zT zT zT zT zT zT (pc zW (pk (pc (λcv L' H' hd hP=>match cv,hd,hP with| [],hd,hP=>(by obtain⟨rfl,rfl⟩:=hP;exact X.val rfl rfl (af isAgg50 sizeOf50 rfl A0 aI aE zL rfl) R2)| [v1],hd,hP=>(by obtain⟨NR,ia,ic,ta,tc,wp,rfl,rfl,rfl,yy,tF,UE,hNR⟩:=hP;exact X.val rfl rfl (af isAgg50 sizeOf50 rfl A1 aI aE zL rfl) R2)|_::_::_,_,hP=>hP.elim) (pn)))) ?_ ?_
 ·refine sc rfl rfl rfl ?_ ?_
  ·intro cv L' H' hl hP F Q' hk;obtain rfl:=jt hl;obtain⟨rfl,rfl⟩:=hP;refine nr (α:=Pv) (v:=λp=>.agg (xy Z cs la lc p)) (Φ:=λW p w1=>mr Z cs w1.heap.size w1 p/\(∀q,p.ia=some q->W.heap.size<=q.block)/\∀q,p.ta=some q->W.heap.size<=q.block) call22 rfl rfl rfl (λW hS=>Px.newPool hZ cs hcs dM N la lc W (aS hN (hS.links w A1).size) (aN.up (ao _) (hS.same A1 hN zU ⟨by dsimp only;omega,by dsimp only;omega,True.intro⟩)) (λc hc=>(hC c hc).up (ao _) (hS.same A1 hN zU ⟨by dsimp only;omega,by dsimp only;omega,True.intro⟩)) (hg.old hS A1 zU ⟨by dsimp only;omega,by dsimp only;omega,True.intro⟩)) ?_;rintro Wp ⟨ia,ic,ta,tc⟩ wp xf LB ⟨yy,tF,UE⟩;try dsimp only at yy tF UE
   have l5:=xf.lt (b5,_) A0;have l4:=xf.lt (b4,_) A1;try dsimp only at l4 l5
   have lw:=(xf.links w A1).size;exact OJ.done (hk _ _ _ ⟨Wp.heap.size,ia,ic,ta,tc,wp,rfl,rfl,rfl,yy,tF,UE,l5,l4,lw,LB.size⟩)
  exact sn
 intro cv L' H' hl hP;obtain⟨v1,rfl⟩:=di hl;obtain⟨NR,ia,ic,ta,tc,wp,rfl,rfl,rfl,yy,tF,UE,hNR⟩:=hP;refine nr (α:=Nat×Nat) (v:=λq:Nat×Nat=>.func (.func 50) #[] #[ptr q.1 0,ptr q.2 0]) (Φ:=λW q w1=>W.heap.size<=q.1/\W.heap.size<=q.2/\w1.heap[q.1]? =some (.cells (xy Z cs la lc ⟨ia,ic,ta,tc⟩) 92 (0,0))/\w1.heap[q.2]? =some (.cells (rJ fo) 50 (0,0))) call23 rfl rfl rfl (λW hS=>njo Z cs la lc ia ic ta tc fo W) ?_;rintro Wn q wn hJ od ⟨gX,gY,eO,eY⟩;try dsimp only at gX gY eO eY
 have qJ:=(aL.1 eO).1;have qK:=(aL.1 eY).1;have Bh:=od.size;have ahR:=(hJ.links wp A0).size;refine B 3 ?_;refine CJ.range3 (f:=50) (cap:=[ptr q.1 0,ptr q.2 0]) (α:=Cd) (enc:=(λd:Cd=>[.agg (dO d)])) (Pre:=(λ(p:List Cd) (_:aA) (_:World)=>p.length<=cs.length)) (Fin:=(λ(xs:List Cd) (Y:aA) (A:World)=>(oy Z cs fo (xs.map qX)/\xs.length<=cs.length)/\∀e∈xs,aM A.heap.size A e.x/\du Y e.x/\bh w.heap.size e.x)) (RO:=Cf w.heap.size NR wn.heap.size) (MI:=λ_=>False) rfl call50 (λW' W2 hS hB=>by have l1:=(hS.links wn A0).size;exact nWm hZ cs hcs dM w.heap.size NR wn.heap.size la lc ia ic ta tc fo q.1 q.2 W2 (JO.mk2 hN aN hC hg yy tF UE hS A3 A1 A0 hB zM zM (λp hp=>by simp only[cP,fm,or_false]at hp;rcases hp with rfl|rfl<;>(dsimp only;omega))) zM PC PD) (λ_ _ _ hk=>hk.elim) (λW' hS k hk=>by have h1:=hk.1;have h2:=hk.2;have l1:=(hS.links wn A0).size;exact⟨by omega,by simp only[eF,iz,cP,fm,or_false];omega,λh=>h⟩) (λ_=>rfl) (λpre G' Hc=>G'=Gh.no/\∃r1 r2:Rw,r1.Fr Gh.no [wn,wp,w2,w]/\r1.Fit 1 (pre.map λd=>d.at_)/\r2.Fr Gh.no [wn,wp,w2,w]/\r2.Fit 36 (pre.map λd=>d.x)/\Hc=[(b5,.cells #[r2.val (pre.map λd=>d.x).length] 46 (0,0)),(b4,.cells #[r1.val (pre.map λd=>d.at_).length] 44 (0,0))]++(r1.hp ai 3 (pre.map λd=>d.at_)++(r2.hp kK 57 (pre.map λd=>d.x)++[]))) (λ_ _ _=>False) ⟨rfl,.nil,.nil,True.intro,rfl,True.intro,rfl,rfl⟩ zQ ?_ ?_ ?_
 ·rintro pre x G' Hc l Dk rec W1 M V Wy iM mz dF ⟨rfl,r1,r2,jx,ez,gE,iZ,rfl⟩ cQ eW yP mQ aW sk;simp only[ab]at cQ mQ;have iy:r1.ge wn.heap.size:=Rw.ge_of jx A0;have dW:r2.ge wn.heap.size:=Rw.ge_of gE A0;have hpl:(pre++[x]).length<=cs.length:=dF;simp only[cC,ec,lF]at hpl;have HH:∀p∈r1.hp ai 3 (pre.map λd=>d.at_),M p.1\/V p.1:=λp hp=>aW.loc.h p Sf;have aeI:∀p∈r2.hp kK 57 (pre.map λd=>d.x),M p.1\/V p.1:=λp hp=>aW.loc.h p (by simp only[cS];exact .inr (.inr (.inl hp)));refine B 1 ?_;refine PV ?_;refine yW ?_;intro b6 gm kg;refine M5 ?_;refine B 1 ?_;refine PJ.reH (H':=book ([(b6,.cells (dO x) 101 (0,0))]++([(b5,.cells #[r2.val (pre.map λd=>d.x).length] 46 (0,0)),(b4,.cells #[r1.val (pre.map λd=>d.at_).length] 44 (0,0))]++(r1.hp ai 3 (pre.map λd=>d.at_)++(r2.hp kK 57 (pre.map λd=>d.x)++[])))) l rec (bQ Dk)) rfl ?_;refine L7 iM ?_;refine B 1 ?_;refine ng (E':=[(0,_),(1,_),(2,_),(4,_),(5,_),(6,_),(7,_),(8,_),(9,_),(10,_),(11,_)]) zR ?_;refine Pg 9 [3,4,8] [([],some _),([],some _),([1],some _),([2],none),([0,3],none),([],some _),([],some _),([6],some _),([7],none)] [[],[0],[]] (λcv L' H'=>match cv with| [none,none,none]=>L'=[Wy,wn,wp,w2,w]/\H'=book ([(b6,.cells (dO x) 101 (0,0)),(b5,.cells #[r2.val (pre.map λd=>d.x).length] 46 (0,0)),(b4,.cells #[r1.val (pre.map λd=>d.at_).length] 44 (0,0))]++(r1.hp ai 3 (pre.map λd=>d.at_)++(r2.hp kK 57 (pre.map λd=>d.x)++[]))) l {rec with state:=.busy} (bQ Dk)| [none,none,some v8]=>∃(kC:Nat),v8= .slice (some ⟨kC,0,none⟩) 1 1/\L'=[Wy,wn,wp,w2,w]/\H'=book ([(kC,.cells (aZ x.x) 57 (0,0)),(b6,.cells (dO x) 101 (0,0)),(b5,.cells #[r2.val (pre.map λd=>d.x).length] 46 (0,0)),(b4,.cells #[r1.val (pre.map λd=>d.at_).length] 44 (0,0))]++(r1.hp ai 3 (pre.map λd=>d.at_)++(r2.hp kK 57 (pre.map λd=>d.x)++[]))) l {rec with state:=.busy} (bQ Dk)/\ab [Wy,wn,wp,w2,w] kC| [some v3,none,none]=>∃(eo:Nat),v3= .slice (some ⟨eo,0,none⟩) 1 1/\L'=[Wy,wn,wp,w2,w]/\H'=book ([(eo,.cells #[.int .i64 x.at_] 3 (0,0)),(b6,.cells (dO x) 101 (0,0)),(b5,.cells #[r2.val (pre.map λd=>d.x).length] 46 (0,0)),(b4,.cells #[r1.val (pre.map λd=>d.at_).length] 44 (0,0))]++(r1.hp ai 3 (pre.map λd=>d.at_)++(r2.hp kK 57 (pre.map λd=>d.x)++[]))) l {rec with state:=.busy} (bQ Dk)/\ab [Wy,wn,wp,w2,w] eo| [some v3,none,some v8]=>∃(eo:Nat) (kC:Nat),v3= .slice (some ⟨eo,0,none⟩) 1 1/\v8= .slice (some ⟨kC,0,none⟩) 1 1/\L'=[Wy,wn,wp,w2,w]/\H'=book ([(kC,.cells (aZ x.x) 57 (0,0)),(eo,.cells #[.int .i64 x.at_] 3 (0,0)),(b6,.cells (dO x) 101 (0,0)),(b5,.cells #[r2.val (pre.map λd=>d.x).length] 46 (0,0)),(b4,.cells #[r1.val (pre.map λd=>d.at_).length] 44 (0,0))]++(r1.hp ai 3 (pre.map λd=>d.at_)++(r2.hp kK 57 (pre.map λd=>d.x)++[]))) l {rec with state:=.busy} (bQ Dk)/\ab [Wy,wn,wp,w2,w] eo/\ab [Wy,wn,wp,w2,w] kC| [some v3,some v4,none]=>∃(eo:Nat) (cF:Nat) (fZ:Nat) (gH:List Value),v3= .slice (some ⟨eo,0,none⟩) 1 1/\v4= .slice (some ⟨cF,0,none⟩) ((pre.map λd=>d.at_)++[x.at_]).length fZ/\L'=[Wy,wn,wp,w2,w]/\H'=book ([(eo,.cells #[.int .i64 x.at_] 3 (0,0)),(b6,.cells (dO x) 101 (0,0)),(b5,.cells #[r2.val (pre.map λd=>d.x).length] 46 (0,0)),(b4,.cells #[r1.val (pre.map λd=>d.at_).length] 44 (0,0))]++((Rw.row cF fZ gH).hp ai 3 ((pre.map λd=>d.at_)++[x.at_])++(r2.hp kK 57 (pre.map λd=>d.x)++[]))) l {rec with state:=.busy} (bQ Dk)/\ab [Wy,wn,wp,w2,w] eo/\(r1.isAt cF\/ab [Wy,wn,wp,w2,w] cF)/\(Rw.row cF fZ gH).Fit 1 ((pre.map λd=>d.at_)++[x.at_])| [some v3,some v4,some v8]=>∃(eo:Nat) (cF:Nat) (fZ:Nat) (gH:List Value) (kC:Nat),v3= .slice (some ⟨eo,0,none⟩) 1 1/\v4= .slice (some ⟨cF,0,none⟩) ((pre.map λd=>d.at_)++[x.at_]).length fZ/\v8= .slice (some ⟨kC,0,none⟩) 1 1/\L'=[Wy,wn,wp,w2,w]/\H'=book ([(kC,.cells (aZ x.x) 57 (0,0)),(eo,.cells #[.int .i64 x.at_] 3 (0,0)),(b6,.cells (dO x) 101 (0,0)),(b5,.cells #[r2.val (pre.map λd=>d.x).length] 46 (0,0)),(b4,.cells #[r1.val (pre.map λd=>d.at_).length] 44 (0,0))]++((Rw.row cF fZ gH).hp ai 3 ((pre.map λd=>d.at_)++[x.at_])++(r2.hp kK 57 (pre.map λd=>d.x)++[]))) l {rec with state:=.busy} (bQ Dk)/\ab [Wy,wn,wp,w2,w] eo/\(r1.isAt cF\/ab [Wy,wn,wp,w2,w] cF)/\(Rw.row cF fZ gH).Fit 1 ((pre.map λd=>d.at_)++[x.at_])/\ab [Wy,wn,wp,w2,w] kC|_=>False) zT ⟨rfl,rfl⟩ zT zT zT zT zT zT rfl (qc YA (qc (by exact λcv L' H' _ _ hP=>X.val rfl rfl (ak underlying101 rfl sizeOf3 rfl) R2) (qc YA (qk (qk (qc YA (qc (by exact λcv L' H' _ _ hP=>X.val rfl rfl (ak underlying101 rfl sizeOf57 rfl) R2) (qc YA (qk (qn)))))))))) ?_ ?_
  ·refine nc rfl rfl rfl rfl ?_ ?_
   ·intro cv L' H' hl hr hP F Q' hk;obtain⟨x3,x4,x8,rfl⟩:=gp hl;rcases x3 with _|v3<;>rcases x4 with _|v4<;>rcases x8 with _|v8<;>try exact False.elim hP
    ·obtain⟨rfl,rfl⟩:=hP;refine wV ?_;intro eo ha ho;exact OJ.done (hk _ _ _ ⟨eo,rfl,rfl,rfl,ha⟩)
    ·obtain⟨kC,rfl,rfl,rfl,qG⟩:=hP;refine wV ?_;intro eo ha ho;refine OJ.perm (List.Perm.swap _ _ _) ?_;exact OJ.done (hk _ _ _ ⟨eo,kC,rfl,rfl,rfl,rfl,ha,qG⟩)
    ·exact az
    ·exact az
    ·exact az
    exact az
   refine nc rfl rfl rfl rfl ?_ ?_
   ·intro cv L' H' hl hr hP F Q' hk;obtain⟨x3,x4,x8,rfl⟩:=gp hl;rcases x3 with _|v3<;>rcases x4 with _|v4<;>rcases x8 with _|v8<;>try exact False.elim hP
    ·exact az
    ·exact az
    ·obtain⟨eo,rfl,rfl,rfl,iC⟩:=hP;refine o8 (r:=r1) (xs:=(pre.map λd=>d.at_)) (zs:=[x.at_]) (enc:=ai) (m:=1) (H0:=[(eo,.cells #[.int .i64 x.at_] 3 (0,0)),(b6,.cells (dO x) 101 (0,0)),(b5,.cells #[r2.val (pre.map λd=>d.x).length] 46 (0,0)),(b4,.cells #[r1.val (pre.map λd=>d.at_).length] 44 (0,0))]) (H1:=(r2.hp kK 57 (pre.map λd=>d.x)++[])++((l,.loop {rec with state:=.busy})::bQ Dk)) vk FL nu rfl rfl rfl rfl (dy.one (z:=x.at_) nu FP underlying44 (bN.own (i:=0) rfl)) ez (Rw.Fr_ext HH) z1 Lj ?_;intro cF fZ gH jW fH;exact OJ.done (hk _ _ _ ⟨eo,cF,fZ,gH,rfl,rfl,rfl,rfl,iC,jW,fH⟩)
    ·obtain⟨eo,kC,rfl,rfl,rfl,rfl,iC,qG⟩:=hP;refine o8 (r:=r1) (xs:=(pre.map λd=>d.at_)) (zs:=[x.at_]) (enc:=ai) (m:=1) (H0:=[(kC,.cells (aZ x.x) 57 (0,0)),(eo,.cells #[.int .i64 x.at_] 3 (0,0)),(b6,.cells (dO x) 101 (0,0)),(b5,.cells #[r2.val (pre.map λd=>d.x).length] 46 (0,0)),(b4,.cells #[r1.val (pre.map λd=>d.at_).length] 44 (0,0))]) (H1:=(r2.hp kK 57 (pre.map λd=>d.x)++[])++((l,.loop {rec with state:=.busy})::bQ Dk)) vk FL nu rfl rfl rfl rfl (dy.one (z:=x.at_) nu FP underlying44 (bN.own (i:=1) rfl)) ez (Rw.Fr_ext HH) z1 Lj ?_;intro cF fZ gH jW fH;exact OJ.done (hk _ _ _ ⟨eo,cF,fZ,gH,kC,rfl,rfl,rfl,rfl,rfl,iC,jW,fH,qG⟩)
    ·exact az
    exact az
   refine nc rfl rfl rfl rfl ?_ ?_
   ·intro cv L' H' hl hr hP F Q' hk;obtain⟨x3,x4,x8,rfl⟩:=gp hl;rcases x3 with _|v3<;>rcases x4 with _|v4<;>rcases x8 with _|v8<;>try exact False.elim hP
    ·obtain⟨rfl,rfl⟩:=hP;refine zkh ?_;intro kC ha ho;exact OJ.done (hk _ _ _ ⟨kC,rfl,rfl,rfl,ha⟩)
    ·exact az
    ·obtain⟨eo,rfl,rfl,rfl,iC⟩:=hP;refine zkh ?_;intro kC ha ho;exact OJ.done (hk _ _ _ ⟨eo,kC,rfl,rfl,rfl,rfl,iC,ha⟩)
    ·exact az
    ·obtain⟨eo,cF,fZ,gH,rfl,rfl,rfl,rfl,iC,jW,fH⟩:=hP;refine zkh ?_;intro kC ha ho;exact OJ.done (hk _ _ _ ⟨eo,cF,fZ,gH,kC,rfl,rfl,rfl,rfl,rfl,iC,jW,fH,ha⟩)
    exact az
   exact nn
  intro cv L' H' hl hr hP;obtain⟨x3,x4,x8,rfl⟩:=gp hl;rcases x3 with _|v3<;>rcases x4 with _|v4<;>rcases x8 with _|v8
  ·exact az
  ·exact az
  ·exact az
  ·exact az
  ·exact az
  ·exact az
  ·exact az
  obtain⟨eo,cF,fZ,gH,kC,rfl,rfl,rfl,rfl,rfl,iC,jW,fH,qG⟩:=hP;simp only[ab]at iC qG jW;refine o8 (r:=r2) (xs:=(pre.map λd=>d.x)) (zs:=[x.x]) (enc:=kK) (m:=36) (H0:=[(kC,.cells (aZ x.x) 57 (0,0)),(eo,.cells #[.int .i64 x.at_] 3 (0,0)),(b6,.cells (dO x) 101 (0,0)),(b5,.cells #[r2.val (pre.map λd=>d.x).length] 46 (0,0)),(b4,.cells #[r1.val (pre.map λd=>d.at_).length] 44 (0,0))]++(Rw.row cF fZ gH).hp ai 3 ((pre.map λd=>d.at_)++[x.at_])) (H1:=(l,.loop {rec with state:=.busy})::bQ Dk) wU MG n8i rfl rfl rfl rfl (dy.one (z:=x.x) n8i GX underlying46 (bN.own (i:=0) rfl)) iZ (Rw.Fr_ext aeI) z1 Lj ?_;intro pJ AA AB sq uJ;replace sq:=yb sq;refine aV (i:=4) rfl sizeOf44 rfl rfl rfl rfl rfl rfl ?_;refine aV (i:=3) rfl sizeOf46 rfl rfl rfl rfl rfl rfl ?_;refine B 2 ?_;refine Ar ?_;refine mD ?_;refine Aj (G2:=Gh.no) (Hc2:=[(b5,.cells #[(Rw.row pJ AA AB).val ((pre.map λd=>d.x)++[x.x]).length] 46 (0,0)),(b4,.cells #[(Rw.row cF fZ gH).val ((pre.map λd=>d.at_)++[x.at_]).length] 44 (0,0))]++((Rw.row cF fZ gH).hp ai 3 ((pre.map λd=>d.at_)++[x.at_])++((Rw.row pJ AA AB).hp kK 57 ((pre.map λd=>d.x)++[x.x])++[]))) aW eW ⟨λ_ h=>h,λ_ h=>.inl h,λ_ h=>.inl h,(nVo rfl (jW.imp id (λh=>h.1)) (sq.imp id (λh=>h.1))),zhe⟩ (Ak iM mz) ?_
  exact⟨rfl,.row cF fZ gH,.row pJ AA AB,jW.elim (λh=>Rw.Fr_at jx h) (λh=>.inr h.2),by rw[ga];exact fH,sq.elim (λh=>Rw.Fr_at gE h) (λh=>.inr h.2),by rw[ga];exact uJ,by rw[ga,ga];rfl⟩
 ·rintro gV l Dk rec G' Hc Zf Wd ⟨bV,JW⟩ hZf cQ eW ⟨rfl,r1,r2,jx,ez,gE,iZ,rfl⟩;replace cQ:=yb cQ;have iy:r1.ge wn.heap.size:=Rw.ge_of jx A0;have dW:r2.ge wn.heap.size:=Rw.ge_of gE A0;refine Pr λWe hSe=>?_;have kN:=Lp hSe;refine B 3 ?_;refine ng (E':=[(0,_),(1,_),(2,_),(4,_),(5,_),(7,_),(8,_),(9,_),(10,_)]) zR ?_;refine Tw 3 [2] [([],some (r1.val (gV.map λd=>d.at_).length)),([],some (r2.val (gV.map λd=>d.x).length)),([0],none)] (λcv L' H'=>match cv with| []=>L'=[Wd,wn,wp,w2,w]/\H'=book ([(b5,.cells #[r2.val (gV.map λd=>d.x).length] 46 (0,0)),(b4,.cells #[r1.val (gV.map λd=>d.at_).length] 44 (0,0))]++(r1.hp ai 3 (gV.map λd=>d.at_)++(r2.hp kK 57 (gV.map λd=>d.x)++[]))) l rec (bQ Dk)| [v1]=>v1= .tuple #[]/\L'=[Wd,wn,wp,w2,w]/\H'=book ([(b5,.cells #[r2.val (gV.map λd=>d.x).length] 46 (0,0)),(b4,.cells #[r1.val (gV.map λd=>d.at_).length] 44 (0,0))]++(r1.hp ai 3 (gV.map λd=>d.at_)++(r2.hp kK 57 (gV.map λd=>d.x)++[]))) l rec (bQ Dk)|_=>False) zT ⟨rfl,rfl⟩ zT zT zT zT zT zT zT (pc Eg (pc Eg (pk (pn)))) ?_ ?_
  ·refine ss rfl rfl ?_ ?_
   ·intro cv L' H' hl hP F Q' hk;obtain rfl:=jt hl;obtain⟨rfl,rfl⟩:=hP;refine aV (i:=1) rfl sizeOf44 rfl rfl rfl (Rw.val_size _ _) rfl (Rw.val_one _ _) ?_;refine OJ.reH (H':=book ([(b5,.cells #[r2.val (gV.map λd=>d.x).length] 46 (0,0)),(b4,.cells #[r1.val (gV.map λd=>d.at_).length] 44 (0,0))]++(r1.hp ai 3 (gV.map λd=>d.at_)++(r2.hp kK 57 (gV.map λd=>d.x)++[]))) l rec (bQ Dk)) (by simp[book];exact Rw.val_cells _ _) ?_;exact OJ.done (hk (.tuple #[]) _ _ ⟨rfl,rfl,rfl⟩)
   exact Yj
  intro cv L' H' hl hP;obtain⟨v1,rfl⟩:=di hl;obtain⟨rfl,rfl,rfl⟩:=hP;refine aV (i:=0) rfl sizeOf46 rfl rfl rfl (Rw.val_size _ _) rfl (Rw.val_one _ _) ?_;refine B 3 ?_;refine PJ.reH (H':=book ([(b5,.cells #[r2.val (gV.map λd=>d.x).length] 46 (0,0)),(b4,.cells #[r1.val (gV.map λd=>d.at_).length] 44 (0,0))]++(r1.hp ai 3 (gV.map λd=>d.at_)++(r2.hp kK 57 (gV.map λd=>d.x)++[]))) l rec (bQ Dk)) (by simp[book];exact Rw.val_cells _ _) ?_;refine Ue (.inl rfl) results11 isAgg44 isAgg46 rfl rfl vk A1 A0 (kN _ A1).1 (kN _ A0).1 rfl rfl (λW H' hS bF bS=>?_);have BY:r1.At ai 3 (gV.map λd=>d.at_) W:=by
   exact zIk
  have MM:r2.At kK 57 (gV.map λd=>d.x) W:=by
   cases r2 with
   |nil=>trivial
   |row b cap sp=>exact hS.own (b,_) (bS _ (by simp[book,Rw.hp]) (kN _ vE).1)
  obtain⟨a1,c1,si,BZ⟩:=Rw.sl nu ez BY (ao W.heap.size);obtain⟨a2,c2,Ag,hs2⟩:=Rw.sl n8i iZ MM (ao W.heap.size);refine⟨(((a1,c1),(a2,c2)),gV),?_,?_,bV,BZ,hs2,Rw.val_new (Rw.ge_mono iy zM) si,Rw.val_new (Rw.ge_mono dW zM) Ag,λd hd=>⟨(JW d hd).1.toZ hS A0 (ao _) du.none (λp hp=>?_),(JW d hd).2.2⟩⟩
  ·show Ending.returned (.tuple #[r1.val _,r2.val _])=_;rw[si,Ag];simp
  ·exact(hS.links w A4).below (λk hk hx=>by rcases hx with hx|hx;(exact hx);rw[bF]at hx;simp only[book,ga,eF,iz,cS,cP,fm,or_false]at hx;rcases hx with((hx|hx)|hx|hx)|hx|hx<;>first|omega|(have:=Rw.mem_ge iy hx;omega)|(have:=Rw.mem_ge dW hx;omega))
  have h9:p.1∈H'.map (·.1):=bU.2 ⟨p,hp,rfl⟩;rw[bF]at h9;obtain⟨p2,tF,e9⟩:=bU.1 h9;rw[<-e9];exact(JW d hd).2.1.off (hZf p2 tF)
 exact Sg
theorem fY.find{α:Type}{p:α->Bool}{xs:List α}{x:α}(eN:fY p xs k)(hk:xs[k]? =some x)(hp:p x=true):xs.find? p=some x:=by
 rw[List.find?_eq_some_iff_getElem];obtain⟨hl,he⟩:=gA.1 hk;refine⟨hp,k,hl,he,λj hj=>?_⟩;have:=eN j xs[j] hj (gR zM);simpa using this
theorem nMn{α:Type}{p:α->Bool}{xs:List α}(h:xs.any p=false):xs.find? p=none:=by
 rw[List.find?_eq_none];intro x hx;have:=List.any_eq_false.1 h x hx;simpa using this
open Classical in
noncomputable def HI (Z:Fx) (cs:List Cm) (fo:Fo):List (Nat×Gp):=if h:∃l,oy Z cs fo l then h.choose else[]
theorem HJ{cs:List Cm}{l:List (Nat×Gp)}(h:oy Z cs fo l):HI Z cs fo=l:=by
 have h2:∃l,oy Z cs fo l:=⟨l,h⟩;unfold HI;rw[dif_pos h2];exact h2.choose_spec.uniq h
noncomputable def p5 (Z:Fx) (s:Sc) (d:Int):List Gp:=match s.fos.find? (λf=>decide (f.id=d))with
 |some fo=>(HI Z s.cs fo).map (·.2)
 |none=>[]
theorem UF(h:s.fos.any (λf=>decide (f.id=d))=false):p5 Z s d=[]:=by
 unfold p5;rw[nMn h]
theorem NC{ds:List Cd}(eN:fY (λf=>decide (f.id=d)) s.fos k)(hk:s.fos[k]? =some fo)(hp:decide (fo.id=d)=true)(hc:oy Z s.cs fo (ds.map qX)):p5 Z s d=ds.map λd=>d.x.g:=by
 unfold p5;rw[eN.find hk hp];show(HI Z s.cs fo).map (·.2)=_;rw[HJ hc,List.map_map];rfl
theorem St.ro{MI RO V:aA}{hM:∀k,M k->k<W.heap.size/\¬MI k/\¬RO k}{hI:eC (λk=>(k<W.heap.size/\¬MI k)\/V k) I}(hS:St (cj hM V hI) L H W')(hw:W∈L)(hV:∀k,V k->W.heap.size<=k)(ho:Over W.heap.size H)(hk:RO k)(Yk:k<W.heap.size):W'.heap[k]? =W.heap[k]? :=by
 refine(hS.links W hw).block k Yk ?_;rintro((h1|h1)|h1)
 ·exact(hM k h1).2.2 hk
 ·have:=hV k h1;omega
 obtain⟨p,hp,rfl⟩:=bU.1 h1;have:=ho.mem p hp;omega
theorem Glb.up{w:World}(h:Glb w)(hB:∀k,k<5->W.heap[k]? =w.heap[k]?):Glb W:=by
 obtain⟨⟨t,fr,h0⟩,t2,ry,h2⟩:=h;exact⟨⟨t,fr,(hB _ zQ).trans h0⟩,t2,ry,(hB _ zQ).trans h2⟩
def q4 (N b1 b2:Nat):aA:=λk=>k<N\/k=b1\/k=b2
theorem nhm(p:Fo->Bool)(f:Nat)(cap:List Value)(ax:dU prog f)(xs:List Fo)(ck:xs.length<=1000000)(N:Nat)(a:Option Addr)(cp:Nat)(w:World)(hN:N<=w.heap.size)(aN:ah rJ 33 N w a xs)(hp:∀(j:Nat) (x:Fo),xs[j]? =some x->∀W,Below w.heap.size w W->Calls prog f (.agg (rJ x)::cap).toArray W (av W (.bool (p x)))):Calls prog 84 #[.slice a xs.length cp,.func (.func f) #[] cap.toArray] w (cu w (λi:Int=>.int .i64 i) (λi _=>cZ p xs i)):=by
 refine enter (vs:=[_,_]) func84 rfl ntmps84 rfl ?_;refine Jj ?_;rintro j ⟨hj,er⟩;refine B 6 ?_;refine aO ?_ ?_
 ·intro aj;refine B 11 ?_;obtain⟨bo,oo,cs0,to,fA,rfl,fG,hcs,ar⟩:=aN.get zM;obtain⟨x,hx⟩:=nj xs j zM;refine B 5 ?_;refine rq (.agg (rJ x)) (ag isAgg50 sizeOf50 rfl A0 hcs zZ trivial (nl ar hx rfl)) (va (nq ar hx rfl)) ?_;refine Jk ?_;refine aO ?_ ?_
  ·intro aQ;refine B 12 ?_;refine jM (j:Int) results84 rfl A0 rfl ?_;exact Jl
  exact Gs
 intro aj;refine B 11 ?_;refine jM (-1:Int) results84 rfl A0 rfl ?_;exact Gt
theorem nfp(d:Int)(b:Nat)(x:Fo)(w:World)(aP:w.heap[b]? =some (.cells #[.int .i64 d] 3 (0,0))):Calls prog 85 #[.agg (rJ x),ptr b 0] w (av w (.bool (decide (x.id=d)))):=by
 have aX:¬Gh.no.X b:=λh=>h;have mB:=(aL.1 aP).1;refine enter (vs:=[_,_]) func85 rfl ntmps85 rfl ?_;refine B 2 ?_;refine yX ?_;intro b2 w2 aI aE dY cA db;refine B 6 ?_;refine rr (.int .i64 x.id) (aa isAgg3 rfl A0 aI aE trivial rfl) ?_;refine B 6 ?_;refine ay results85 rfl A1 ?_;rfl
theorem nug(s:Sc)(d:Int)(w:World):Calls prog 41 #[.agg (eZ s),.int .i64 d] w (cu w (λq:Nat×Nat=>.func (.func 83) #[] #[ptr q.1 0,ptr q.2 0]) (λq w1=>w.heap.size<=q.1/\w.heap.size<=q.2/\w1.heap[q.1]? =some (.cells (eZ s) 81 (0,0))/\w1.heap[q.2]? =some (.cells #[.int .i64 d] 3 (0,0)))):=by
 refine enter (vs:=[_,_]) func41 rfl ntmps41 rfl ?_;refine B 2 ?_;refine yX ?_;intro b2 w2 aI aE dY cA db;refine yX ?_;intro b3 w3 aJ aD dr bY cR;refine B 10 ?_;refine jM (b2,b3) results41 rfl A2 rfl ?_;exact zfk
theorem nSh(hZ:FxOk Z)(s:Sc)(ho:eP s)(N:Nat)(d:Int)(b1 b2:Nat)(W:World)(hN:N<=W.heap.size)(hNg:5<=N)(hs:dS N W s)(hg:Glb W)(aP:W.heap[b1]? =some (.cells (eZ s) 81 (0,0)))(aI:W.heap[b2]? =some (.cells #[.int .i64 d] 3 (0,0))):wo prog 83 [ptr b1 0,ptr b2 0] (λg:Gv=>[.agg (aZ g)]) (λ(p:List Gv) (Y:aA) (A:World)=>(p.map (·.g) <+:p5 Z s d/\p.length<=1000)/\∀e∈p,aM A.heap.size A e/\du Y e) (λ(p:List Gv) (_:aA) (_:World)=>p.map (·.g)=p5 Z s d/\p.length<=1000) (λ_=>False) (q4 N b1 b2) W:=by
 intro l M I X0 hM hI hX hy h0;have aX:¬(cj hM (λ_=>False) (hI [] _)).X b1:=by rintro(h|h);exact(hM _ h).2.2 (.inr (.inl rfl));exact h.elim
 have aE:¬(cj hM (λ_=>False) (hI [] _)).X b2:=by rintro(h|h);exact(hM _ h).2.2 (.inr (.inr rfl));exact h.elim
 have mB:=(aL.1 aP).1;have xj:=(aL.1 aI).1;refine nM (cj hM (λ_=>False) (hI [] _)) [] (vs:=[_,_,_]) func83 rfl ntmps83 rfl (I6 hM (hI [] _) h0 z1 Jg z1) ?_;refine B 4 ?_;refine rr (.slice s.fa s.fos.length s.fc) (aa isAgg22 rfl A0 aP aX trivial rfl) ?_;refine B 1 ?_;refine nr (α:=Int) (v:=λi:Int=>.int .i64 i) (Φ:=λ_ i _=>cZ (λx=>decide (x.id=d)) s.fos i) call84 rfl rfl rfl (λW9 hS=>nhm (λx=>decide (x.id=d)) 85 [ptr b2 0] call85 s.fos (by have:=ho.fo;omega) N s.fa s.fc W9 (aS hN (hS.links W A0).size) (hs.fo.up (ao _) (λk hk=>hS.ro A0 (λ_ h=>h.elim) True.intro (.inl hk) zM)) (λj x hx W2 hB=>nfp d b2 x W2 (by have h2:=(hS.links W A0).size;rw[hB.block b2 zM];exact hS.old A0 aI aE trivial))) ?_;intro Wi i wi sC sD hi;refine B 5 ?_;rcases hi with⟨rfl,ib⟩|⟨k,x0,rfl,iU,Bv,eN⟩
 ·refine B 2 ?_;refine I0 ?_;refine B 5 ?_;exact UC (Fin:=(λ(p:List Gv) (_:aA) (_:World)=>p.map (·.g)=p5 Z s d/\p.length<=1000)) (.inl rfl) results83 A1 (λ_ h=>h.elim) (by intro k hk hx;simp at hx;try omega) (λA UD hA=>.inl ⟨[],⟨by rw[UF ib];rfl,dx _⟩,hA⟩)
 obtain⟨bo,oo,cs0,to,fA,iV,fG,hcs,ar⟩:=hs.fo.get (by have:=nF iU;omega);have lH:=nF iU;have hmo:¬(cj hM (λ_=>False) (hI [] _)).X bo:=by rintro(h|h);exact(hM _ h).2.2 (.inl fG);exact h.elim
 refine KY ?_;refine B 6 ?_;refine ng (E':=[(0,_),(1,_),(2,_),(4,_),(9,_),(10,_),(11,_),(12,_),(13,_),(14,_),(15,_)]) zR ?_;refine Pg 14 [9,10,11,12,13] [([],some _),([0],some _),([1],some (.slice (some ⟨bo,oo,none⟩) s.fos.length s.fc)),([],some _),([2,3],some _),([4],some (.agg (rJ x0))),([],some _),([6],some _),([7],some (.slice s.la s.cs.length s.lc)),([5,8],none),([9],none),([10],none),([10],none),([11],none)] [[],[0],[0,1],[0,1],[0,1,2]] (λcv L' H'=>match cv with| [none,none,none,none,none]=>L'=[wi,W]/\H'=[]| [some v9,none,none,none,none]=>∃(a1:Option Addr) (c1:Nat) (a2:Option Addr) (c2:Nat) (ds:List Cd) (w9:World),v9= .tuple #[.slice a1 ds.length c1,.slice a2 ds.length c2]/\L'=[w9,wi,W]/\H'=[]/\oy Z s.cs x0 (ds.map qX)/\ds.length<=s.cs.length/\ah (λx=>(kK x).toArray) 36 w9.heap.size w9 a2 (ds.map λd=>d.x)/\(∀d∈ds,aM w9.heap.size w9 d.x/\bh W.heap.size d.x)/\(∀p,a2=some p->W.heap.size<=p.block)/\W.heap.size<=w9.heap.size| [some v9,some v10,none,none,none]=>∃(a1:Option Addr) (c1:Nat) (a2:Option Addr) (c2:Nat) (ds:List Cd) (w9:World),v9= .tuple #[.slice a1 ds.length c1,.slice a2 ds.length c2]/\v10= .tuple #[.slice a1 ds.length c1,.slice a2 ds.length c2]/\L'=[w9,wi,W]/\H'=[]/\oy Z s.cs x0 (ds.map qX)/\ds.length<=s.cs.length/\ah (λx=>(kK x).toArray) 36 w9.heap.size w9 a2 (ds.map λd=>d.x)/\(∀d∈ds,aM w9.heap.size w9 d.x/\bh W.heap.size d.x)/\(∀p,a2=some p->W.heap.size<=p.block)/\W.heap.size<=w9.heap.size| [some v9,some v10,none,some v12,none]=>∃(a1:Option Addr) (c1:Nat) (a2:Option Addr) (c2:Nat) (ds:List Cd) (w9:World),v9= .tuple #[.slice a1 ds.length c1,.slice a2 ds.length c2]/\v10= .tuple #[.slice a1 ds.length c1,.slice a2 ds.length c2]/\v12= .slice a2 ds.length c2/\L'=[w9,wi,W]/\H'=[]/\oy Z s.cs x0 (ds.map qX)/\ds.length<=s.cs.length/\ah (λx=>(kK x).toArray) 36 w9.heap.size w9 a2 (ds.map λd=>d.x)/\(∀d∈ds,aM w9.heap.size w9 d.x/\bh W.heap.size d.x)/\(∀p,a2=some p->W.heap.size<=p.block)/\W.heap.size<=w9.heap.size| [some v9,some v10,some v11,none,none]=>∃(a1:Option Addr) (c1:Nat) (a2:Option Addr) (c2:Nat) (ds:List Cd) (w9:World),v9= .tuple #[.slice a1 ds.length c1,.slice a2 ds.length c2]/\v10= .tuple #[.slice a1 ds.length c1,.slice a2 ds.length c2]/\v11= .slice a1 ds.length c1/\L'=[w9,wi,W]/\H'=[]/\oy Z s.cs x0 (ds.map qX)/\ds.length<=s.cs.length/\ah (λx=>(kK x).toArray) 36 w9.heap.size w9 a2 (ds.map λd=>d.x)/\(∀d∈ds,aM w9.heap.size w9 d.x/\bh W.heap.size d.x)/\(∀p,a2=some p->W.heap.size<=p.block)/\W.heap.size<=w9.heap.size| [some v9,some v10,some v11,none,some kT]=>∃(a1:Option Addr) (c1:Nat) (a2:Option Addr) (c2:Nat) (ds:List Cd) (w9:World),v9= .tuple #[.slice a1 ds.length c1,.slice a2 ds.length c2]/\v10= .tuple #[.slice a1 ds.length c1,.slice a2 ds.length c2]/\v11= .slice a1 ds.length c1/\kT= .slice a1 ds.length c1/\L'=[w9,wi,W]/\H'=[]/\oy Z s.cs x0 (ds.map qX)/\ds.length<=s.cs.length/\ah (λx=>(kK x).toArray) 36 w9.heap.size w9 a2 (ds.map λd=>d.x)/\(∀d∈ds,aM w9.heap.size w9 d.x/\bh W.heap.size d.x)/\(∀p,a2=some p->W.heap.size<=p.block)/\W.heap.size<=w9.heap.size| [some v9,some v10,some v11,some v12,none]=>∃(a1:Option Addr) (c1:Nat) (a2:Option Addr) (c2:Nat) (ds:List Cd) (w9:World),v9= .tuple #[.slice a1 ds.length c1,.slice a2 ds.length c2]/\v10= .tuple #[.slice a1 ds.length c1,.slice a2 ds.length c2]/\v11= .slice a1 ds.length c1/\v12= .slice a2 ds.length c2/\L'=[w9,wi,W]/\H'=[]/\oy Z s.cs x0 (ds.map qX)/\ds.length<=s.cs.length/\ah (λx=>(kK x).toArray) 36 w9.heap.size w9 a2 (ds.map λd=>d.x)/\(∀d∈ds,aM w9.heap.size w9 d.x/\bh W.heap.size d.x)/\(∀p,a2=some p->W.heap.size<=p.block)/\W.heap.size<=w9.heap.size| [some v9,some v10,some v11,some v12,some kT]=>∃(a1:Option Addr) (c1:Nat) (a2:Option Addr) (c2:Nat) (ds:List Cd) (w9:World),v9= .tuple #[.slice a1 ds.length c1,.slice a2 ds.length c2]/\v10= .tuple #[.slice a1 ds.length c1,.slice a2 ds.length c2]/\v11= .slice a1 ds.length c1/\v12= .slice a2 ds.length c2/\kT= .slice a1 ds.length c1/\L'=[w9,wi,W]/\H'=[]/\oy Z s.cs x0 (ds.map qX)/\ds.length<=s.cs.length/\ah (λx=>(kK x).toArray) 36 w9.heap.size w9 a2 (ds.map λd=>d.x)/\(∀d∈ds,aM w9.heap.size w9 d.x/\bh W.heap.size d.x)/\(∀p,a2=some p->W.heap.size<=p.block)/\W.heap.size<=w9.heap.size|_=>False) zT ⟨rfl,rfl⟩ zT zT zT zT zT zT rfl (qc (by exact λcv L' H' _ _ hP=>X.val rfl rfl (ak underlying81 rfl sizeOf31 rfl) R2) (qc (by exact λcv L' H' _ _ hP=>X.val rfl rfl (ak underlying31 rfl sizeOf22 rfl) R2) (qc zcI (qc z1d (qc (by exact λcv L' H' _ _ hP=>X.val rfl rfl (cL underlying22 sizeOf50 rfl rfl zM zM) R2) (qc zcI (qc (by exact λcv L' H' _ _ hP=>X.val rfl rfl (ak underlying81 rfl sizeOf31 rfl) R2) (qc (by exact λcv L' H' _ _ hP=>X.val rfl rfl (ak underlying31 rfl sizeOf24 rfl) R2) (qc zcI (qk (qk (qk (qk (qk (qn))))))))))))))) ?_ ?_
 ·refine nc rfl rfl rfl rfl ?_ ?_
  ·intro cv L' H' hl hr hP F Q' hk;obtain⟨x9,jc,mL,fC,ja,rfl⟩:=iB hl;rcases x9 with _|v9<;>rcases jc with _|v10<;>rcases mL with _|v11<;>rcases fC with _|v12<;>rcases ja with _|kT<;>try exact False.elim hP
   ·obtain⟨rfl,rfl⟩:=hP;refine nr (α:=((Option Addr×Nat)×(Option Addr×Nat))×List Cd) (v:=λq=>.tuple #[.slice q.1.1.1 q.2.length q.1.1.2,.slice q.1.2.1 q.2.length q.1.2.2]) (Φ:=λWc q w1=>(oy Z s.cs x0 (q.2.map qX)/\q.2.length<=s.cs.length)/\ah (λx=>(ai x).toArray) 1 w1.heap.size w1 q.1.1.1 (q.2.map λd:Cd=>d.at_)/\ah (λx=>(kK x).toArray) 36 w1.heap.size w1 q.1.2.1 (q.2.map λd:Cd=>d.x)/\(∀p,q.1.1.1=some p->Wc.heap.size<=p.block)/\(∀p,q.1.2.1=some p->Wc.heap.size<=p.block)/\∀d∈q.2,aM w1.heap.size w1 d.x/\bh Wc.heap.size d.x) call11 rfl rfl rfl (λW9 hS=>nLj hZ s.cs ho.cl ho.cg N s.la s.lc W9 (aS hN (hS.links W A1).size) (hs.cs.up (ao _) (λk hk=>hS.ro A1 (λ_ h=>h.elim) True.intro (.inl hk) zM)) (λc hc=>(hs.cm c hc).up (ao _) (λk hk=>hS.ro A1 (λ_ h=>h.elim) True.intro (.inl hk) zM)) x0 (hg.up (λk hk=>hS.ro A1 (λ_ h=>h.elim) True.intro (.inl zM) zM))) ?_;rintro Wc ⟨⟨⟨a1,c1⟩,⟨a2,c2⟩⟩,ds⟩ w9 xg Ge ⟨⟨gX,gY⟩,_,eO,_,h6,h7⟩;try dsimp only at gX gY eO h6 h7
    have uM:=(xg.links W A1).size;have Zn:=Ge.size;have mF:W.heap.size<=w9.heap.size:=by omega
    have eY:∀d∈ds,aM w9.heap.size w9 d.x/\bh W.heap.size d.x:=λd hd=>⟨(h7 d hd).1,(h7 d hd).2.mono uM⟩;have qB:∀p,a2=some p->W.heap.size<=p.block:=λp hp=>aS uM (h6 p hp);exact OJ.done (hk _ _ _ ⟨a1,c1,a2,c2,ds,w9,rfl,rfl,rfl,gX,gY,eO,eY,qB,mF⟩)
   ·exact az
   ·exact az
   ·exact az
   ·exact az
   ·exact az
   ·exact az
   exact az
  refine nc rfl rfl rfl rfl ?_ ?_
  ·intro cv L' H' hl hr hP F Q' hk;obtain⟨x9,jc,mL,fC,ja,rfl⟩:=iB hl;rcases x9 with _|v9<;>rcases jc with _|v10<;>rcases mL with _|v11<;>rcases fC with _|v12<;>rcases ja with _|kT<;>try exact False.elim hP
   ·exact az
   ·obtain⟨a1,c1,a2,c2,ds,w9,rfl,rfl,rfl,gX,gY,eO,eY,qB,mF⟩:=hP;refine B 1 ?_;exact OJ.done (hk _ _ _ ⟨a1,c1,a2,c2,ds,w9,rfl,rfl,rfl,rfl,gX,gY,eO,eY,qB,mF⟩)
   ·exact az
   ·exact az
   ·exact az
   ·exact az
   ·exact az
   exact az
  refine nc rfl rfl rfl rfl ?_ ?_
  ·intro cv L' H' hl hr hP F Q' hk;obtain⟨x9,jc,mL,fC,ja,rfl⟩:=iB hl;rcases x9 with _|v9<;>rcases jc with _|v10<;>rcases mL with _|v11<;>rcases fC with _|v12<;>rcases ja with _|kT<;>try exact False.elim hP
   ·exact az
   ·exact az
   ·exact zZj
   ·exact zyj
   ·exact az
   ·exact az
   ·exact az
   exact az
  refine nc rfl rfl rfl rfl ?_ ?_
  ·intro cv L' H' hl hr hP F Q' hk;obtain⟨x9,jc,mL,fC,ja,rfl⟩:=iB hl;rcases x9 with _|v9<;>rcases jc with _|v10<;>rcases mL with _|v11<;>rcases fC with _|v12<;>rcases ja with _|kT<;>try exact False.elim hP
   ·exact az
   ·exact az
   ·exact zZj
   ·exact az
   ·exact zyj
   ·exact zVj
   ·exact az
   exact az
  refine nc rfl rfl rfl rfl ?_ ?_
  ·intro cv L' H' hl hr hP F Q' hk;obtain⟨x9,jc,mL,fC,ja,rfl⟩:=iB hl;rcases x9 with _|v9<;>rcases jc with _|v10<;>rcases mL with _|v11<;>rcases fC with _|v12<;>rcases ja with _|kT<;>try exact False.elim hP
   ·exact az
   ·exact az
   ·exact az
   ·exact az
   ·exact zyj
   ·exact az
   ·exact zVj
   exact az
  exact nn
 intro cv L' H' hl hr hP;obtain⟨x9,jc,mL,fC,ja,rfl⟩:=iB hl;rcases x9 with _|v9<;>rcases jc with _|v10<;>rcases mL with _|v11<;>rcases fC with _|v12<;>rcases ja with _|kT
 ·exact az
 ·exact az
 ·exact az
 ·exact az
 ·exact az
 ·exact az
 ·exact az
 ·exact az
 ·exact az
 ·exact az
 ·exact az
 ·exact az
 ·exact az
 ·exact az
 ·exact az
 ·exact az
 ·exact az
 ·exact az
 ·exact az
 ·exact az
 ·exact az
 ·exact az
 ·exact az
 ·exact az
 ·exact az
 ·exact az
 ·exact az
 ·exact az
 ·exact az
 ·exact az
 ·exact az
 obtain⟨a1,c1,a2,c2,ds,w9,rfl,rfl,rfl,rfl,rfl,rfl,rfl,gX,gY,eO,eY,qB,mF⟩:=hP;obtain⟨gs,YB⟩:∃gs,gs=ds.map (λd=>d.x):=⟨_,rfl⟩;have V7:ds.length=gs.length:=by rw[YB,fy]
 have aeN:gs.length<=1000:=by have:=ho.cl;omega
 replace eO:ah aZ 36 w9.heap.size w9 a2 gs:=by rw[YB];exact eO
 have JW:∀e∈gs,aM w9.heap.size w9 e/\bh W.heap.size e:=by rw[YB];intro e he;obtain⟨d,hd,rfl⟩:=bU.1 he;exact eY d hd
 have hgr:p5 Z s d=gs.map (·.g):=by rw[NC eN iU Bv gX,YB,List.map_map];rfl
 refine B 11 ?_;refine CJ.loop (α:=Nat×aA) (λp=>[(0,yv l),(29,.slice a2 ds.length c2),(30,.int .i64 (ds.length:Int)),(31,.int .i64 (p.1:Int))]) (λp=>[]) (λp=>[w9,W]) (λp=>cj hM p.2 (hI (gs.take p.1) p.2)) (λp=>p.1<=gs.length/\∀k,p.2 k->w9.heap.size<=k) (λp=>gs.length-p.1) (0,λ_=>False) ⟨dx _,λ_ h=>h.elim⟩ zR rfl rfl z1 ?_;rintro⟨j,V⟩ ⟨hj,hV⟩;dsimp only at hj hV ⊢;refine B 6 ?_;refine aO ?_ ?_
 ·intro aj;refine B 5 ?_;obtain⟨bo2,oo2,cs2,to2,ry,rfl,ahS,aeO,UG⟩:=eO.get zM;obtain⟨x,hx⟩:=nj gs j zM;have aeP:¬(cj hM V (hI (gs.take j) V)).X bo2:=by rintro(h|h);(have h5:=(hM _ h).1;have h6:=qB _ rfl;dsimp only at h6;omega);(have:=hV _ h;omega)
  have JX:gs.take j++[x]=gs.take (j+1):=(nC hx).symm;have hin:∀e∈gs.take j++[x],e∈gs:=by rw[JX];exact λe he=>List.mem_of_mem_take he
  have UH:∀e∈gs,du (λk=>M k\/V k) e:=λe he=>((JW e he).2.out (λk hk=>(hM k hk).1)).up (JW e he).1 (λk hk=>hk.elim .inl (λh=>.inr (hV k h)));refine B 2 ?_;refine rq (.agg (aZ x)) (ag isAgg57 sizeOf57 rfl A0 aeO aeP trivial (nl UG hx rfl)) (va (nq UG hx rfl)) ?_;refine qV ?_;refine yW ?_;intro b8 ua uc;refine PQ ?_;refine rr (.agg (aZ x)) (aK (i:=0) rfl isAgg57 sizeOf57 rfl rfl) ?_;refine JU (λ_=>False) id L2 (V:=V) (λV=>hI (gs.take j++[x]) V) hX (λk hk=>aS mF (hV k hk)) rfl rfl rfl rfl (λW1 mw S0 kP=>hy (gs.take j) x V W1 ⟨⟨by rw[hgr,JX];exact(List.take_prefix _ _).map _,by rw[JX,kx];have:=ho.cl;omega⟩,λe he=>⟨(JW e (hin e he)).1.toZ mw A0 (ao _) (UH e (hin e he)) (λp hp=>by rw[ql.1 hp];exact(JW e (hin e he)).1.off dE),UH e (hin e he)⟩⟩ S0 kP) ?_ ?_
  ·intro V2 vM qL;have qZ:∀k,V2 k->w9.heap.size<=k:=λk hk=>by rcases qL w9 A0 k hk with h|h;(exact hV k h);exact h
   refine B 11 ?_;refine mD ?_;refine PJ.again (j+1,V2) ⟨by dsimp only;omega,qZ⟩ dE zR rfl (by dsimp only;rw[nC hx];rfl) z1
  intro V2 vM qL;have qZ:∀k,V2 k->w9.heap.size<=k:=λk hk=>by rcases qL w9 A0 k hk with h|h;(exact hV k h);exact h
  refine B 9 ?_;exact UC (Fin:=(λ(p:List Gv) (_:aA) (_:World)=>p.map (·.g)=p5 Z s d/\p.length<=1000)) (.inl rfl) results83 A1 (λk hk=>aS mF (qZ k hk)) (by intro k hk hx;simp at hx;try omega) (λA UD hA=>.inr hA)
 intro aj;refine B 4 ?_;exact UC (Fin:=(λ(p:List Gv) (_:aA) (_:World)=>p.map (·.g)=p5 Z s d/\p.length<=1000)) (.inr rfl) results83 A1 (λk hk=>aS mF (hV k hk)) (by intro k hk hx;simp at hx;try omega) (λA UD hA=>.inl ⟨gs,⟨by rw[hgr],aeN⟩,by rw[show j=gs.length by omega,I8]at hA;exact hA⟩)
noncomputable def JY (Z:Fx) (s:Sc) (lk:Lk):Bool:=(p5 Z s lk.fo).any λg=>En Z g.ms lk.by_ (fe Z lk) lk.sr lk.ss
theorem nuj(hZ:FxOk Z)(s:Sc)(ho:eP s)(N:Nat)(w:World)(hN:N<=w.heap.size)(hs:dS N w s)(lk:Lk)(hlk:cW lk)(hg:Glb w):Calls prog 35 #[.agg (eZ s),.agg (lkC lk)] w (av w (.bool (JY Z s lk))):=by
 have ew:=hg.lt;refine wy Gh.no [] (vs:=[_,_]) func35 rfl ntmps35 rfl (rR w) ?_;refine B 2 ?_;refine yX ?_;intro b2 w2 aI aE dY cA db;refine yX ?_;intro b3 w3 aJ aD dr bY cR;refine aY zeroValue4 rfl rfl ?_;refine yW ?_;intro b4 dD dH;refine B 5 ?_;refine rr (.agg (eZ s)) (af isAgg81 sizeOf81 rfl A1 aI aE zL rfl) ?_;refine B 2 ?_;refine rr (.int .i64 lk.fo) (aa isAgg3 rfl A0 aJ aD zL rfl) ?_;refine nr (α:=Nat×Nat) (v:=λq:Nat×Nat=>.func (.func 83) #[] #[ptr q.1 0,ptr q.2 0]) (Φ:=λW q w1=>W.heap.size<=q.1/\W.heap.size<=q.2/\w1.heap[q.1]? =some (.cells (eZ s) 81 (0,0))/\w1.heap[q.2]? =some (.cells #[.int .i64 lk.fo] 3 (0,0))) call41 rfl rfl rfl (λW hS=>nug s lk.fo W) ?_;rintro Wn q wn hJ od ⟨gX,gY,eO,eY⟩;try dsimp only at gX gY eO eY
 have qJ:=(aL.1 eO).1;have qK:=(aL.1 eY).1;have Bh:=od.size;have UI:=(hJ.links w A2).size;refine B 3 ?_;have lb4:=hJ.lt (b4,_) A0;try dsimp only at lb4
 refine CJ.range3 (f:=83) (cap:=[ptr q.1 0,ptr q.2 0]) (α:=Gv) (enc:=(λg:Gv=>[.agg (aZ g)])) (Pre:=(λ(p:List Gv) (Y:aA) (A:World)=>(p.map (·.g) <+:p5 Z s lk.fo/\p.length<=1000)/\∀e∈p,aM A.heap.size A e/\du Y e)) (Fin:=(λ(p:List Gv) (_:aA) (_:World)=>p.map (·.g)=p5 Z s lk.fo/\p.length<=1000)) (RO:=q4 w.heap.size q.1 q.2) (MI:=λ_=>False) rfl call83 (λW' W2 hS hB=>by have l1:=(hS.links wn A0).size;exact nSh hZ s ho w.heap.size lk.fo q.1 q.2 W2 (aS zM hB.size) ew ((hs.up hN (hS.same A3 hN zU wE)).up (ao _) (λk hk=>hB.block k zM)) ((hg.old hS A3 zU wE).bel hB) PC PD) (λ_ _ _ hk=>hk.elim) (λW' hS k hk=>by have l1:=(hS.links wn A0).size;simp only[eF,iz,cP,fm,or_false];rcases hk with hk|rfl|rfl<;>exact⟨by omega,by omega,λh=>h⟩) (λ_=>rfl) (λpre G' Hc=>G'=Gh.no/\(pre.any λg:Gv=>(En Z g.g.ms lk.by_ (fe Z lk) lk.sr lk.ss))=false/\Hc=[(b4,.cells #[.bool false] 4 (0,0))]) (λc G' Hc=>c= .ret/\G'=Gh.no/\Hc=[(b4,.cells #[.bool true] 4 (0,0))]/\JY Z s lk=true) ⟨rfl,rfl,rfl⟩ zQ ?_ ?_ ?_
 ·rintro pre x G' Hc l Dk rec W1 M V Wy iM mz dF ⟨rfl,eN,rfl⟩ cQ eW yP mQ aW sk;simp only[ab]at cQ mQ;have Em:∀k,k<w.heap.size->¬(Gh.no.ext λk=>M k\/V k).X k:=λk hk=>aW.z zM zZ P3 zZ;clear aE aD;have aE:¬(Gh.no.ext λk=>M k\/V k).X b2:=aW.z zM zZ P3 zZ;have aD:¬(Gh.no.ext λk=>M k\/V k).X b3:=aW.z zM zZ P3 zZ;have tM:=dF.2 x (cS.2 (.inr A0));have JX:du (Gh.no.ext λk=>M k\/V k).X x:=⟨λq e=>(tM.2.1 q e).imp id (λh1 h2=>h2.elim zZ h1),λq e=>(tM.2.2 q e).imp id (λh1 h2=>h2.elim zZ h1)⟩;refine B 1 ?_;refine qV ?_;refine yW ?_;intro b5 iu iv;refine GR ?_;refine B 1 ?_;refine PJ.reH (H':=book ([(b5,.cells (aZ x) 57 (0,0)),(b4,.cells #[.bool false] 4 (0,0))]) l rec (bQ Dk)) rfl ?_;have JV:∀p∈book ([(b5,.cells (aZ x) 57 (0,0)),(b4,.cells #[.bool false] 4 (0,0))]) l {rec with state:=.busy} (bQ Dk),mK p.1 x:=by
   intro p hp;simp only[book,bQ,fj,eg,cP,fm,or_false]at hp;rcases hp with rfl|rfl|rfl|rfl
   ·exact tM.1.off dE
   ·exact tM.2.off (aW.loc.h (b4,_) A0)
   ·exact tM.2.off (.inl (aW.m' _ (.inr eW)))
   exact tM.2.off (.inl (aW.m' _ (.inl rfl)))
  refine L7 iM ?_;refine B 2 ?_;cases o5:(En Z x.g.ms lk.by_ (fe Z lk) lk.sr lk.ss)with
  |true=>
   refine zFh ?_;refine nK 9 [5] [([],some (.agg (aZ x))),([],some _),([1],some _),([2],some (.int .i64 lk.by_)),([],some (.agg (lkC lk))),([4],none),([],some _),([6],some _),([7],some (.agg #[.int .i64 lk.sr,.int .i64 lk.ss]))] (λcv L' H'=>match cv with| []=>L'=[Wy,wn,w3,w2,w]/\H'=book ([(b5,.cells (aZ x) 57 (0,0)),(b4,.cells #[.bool false] 4 (0,0))]) l {rec with state:=.busy} (bQ Dk)| [v1]=>∃(bm:Nat) (wm:World),v1= .slice (some ⟨bm,0,none⟩) 32 32/\L'=[wm,Wy,wn,w3,w2,w]/\H'=book ([(b5,.cells (aZ x) 57 (0,0)),(b4,.cells #[.bool false] 4 (0,0))]) l {rec with state:=.busy} (bQ Dk)/\wm.heap[bm]? =some (.cells (dg (fe Z lk)) 34 (0,0))/\bm<wm.heap.size/\(b5<bm/\b4<bm/\Dk+1<bm)/\¬(Gh.no.ext λk=>M k\/V k).X bm|_=>False) zT ⟨rfl,rfl⟩ zT zT zT zT zT zT (pc JZ (pc z3 (pc z9 (pc JZ (pc JZ (pk (pc z3 (pc Pf (pc JZ (pn)))))))))) ?_ ?_
   ·exact zuj
   intro cv L' H' hl hP;obtain⟨v1,rfl⟩:=di hl;obtain⟨bm,wm,rfl,rfl,rfl,jh,J0,pj⟩:=hP;refine call (v:=.bool true) call73 rfl rfl rfl (λW hS=>by
    have h9:=nkf hZ x W.heap.size W (ao _) ((tM.1).toZ hS A1 (ao _) JX (λp hp=>JV p hp)) lk.by_ (fe Z lk) bm 34 (0,0) (hS.old A0 jh pj.2 YC) (RP hZ lk) lk.sr lk.ss (hg.old hS A5 (λk hk=>Em k zM) zCc);rwa[o5]at h9) ?_
   refine B 5 ?_;refine aV (i:=1) rfl sizeOf4 rfl rfl rfl rfl rfl rfl ?_;refine B 4 ?_;refine WX (L':=[Wy,wn,w3,w2,w]) z1 ?_;refine mD ?_;refine Yn (G2:=Gh.no) (Hc2:=[(b4,.cells #[.bool true] 4 (0,0))]) (c:=.ret) aW eW ⟨λ_ h=>h,λ_ h=>.inl h,λ_ h=>.inl h,P4,P4⟩ (.inl ⟨rfl,rfl⟩) rfl ?_;exact⟨rfl,rfl,rfl,by unfold JY;rw[List.any_eq_true];exact⟨x.g,dF.1.1.subset z1,o5⟩⟩
  |false=>
   refine zFh ?_;refine nK 9 [5] [([],some (.agg (aZ x))),([],some _),([1],some _),([2],some (.int .i64 lk.by_)),([],some (.agg (lkC lk))),([4],none),([],some _),([6],some _),([7],some (.agg #[.int .i64 lk.sr,.int .i64 lk.ss]))] (λcv L' H'=>match cv with| []=>L'=[Wy,wn,w3,w2,w]/\H'=book ([(b5,.cells (aZ x) 57 (0,0)),(b4,.cells #[.bool false] 4 (0,0))]) l {rec with state:=.busy} (bQ Dk)| [v1]=>∃(bm:Nat) (wm:World),v1= .slice (some ⟨bm,0,none⟩) 32 32/\L'=[wm,Wy,wn,w3,w2,w]/\H'=book ([(b5,.cells (aZ x) 57 (0,0)),(b4,.cells #[.bool false] 4 (0,0))]) l {rec with state:=.busy} (bQ Dk)/\wm.heap[bm]? =some (.cells (dg (fe Z lk)) 34 (0,0))/\bm<wm.heap.size/\(b5<bm/\b4<bm/\Dk+1<bm)/\¬(Gh.no.ext λk=>M k\/V k).X bm|_=>False) zT ⟨rfl,rfl⟩ zT zT zT zT zT zT (pc JZ (pc z3 (pc z9 (pc JZ (pc JZ (pk (pc z3 (pc Pf (pc JZ (pn)))))))))) ?_ ?_
   ·exact zuj
   intro cv L' H' hl hP;obtain⟨v1,rfl⟩:=di hl;obtain⟨bm,wm,rfl,rfl,rfl,jh,J0,pj⟩:=hP;refine call (v:=.bool false) call73 rfl rfl rfl (λW hS=>by
    have h9:=nkf hZ x W.heap.size W (ao _) ((tM.1).toZ hS A1 (ao _) JX (λp hp=>JV p hp)) lk.by_ (fe Z lk) bm 34 (0,0) (hS.old A0 jh pj.2 YC) (RP hZ lk) lk.sr lk.ss (hg.old hS A5 (λk hk=>Em k zM) zCc);rwa[o5]at h9) ?_
   refine B 5 ?_;refine WX (L':=[Wy,wn,w3,w2,w]) z1 ?_;refine mD ?_;refine Aj (G2:=Gh.no) (Hc2:=[(b4,.cells #[.bool false] 4 (0,0))]) aW eW ⟨λ_ h=>h,λ_ h=>.inl h,λ_ h=>.inl h,P4,P4⟩ (Ak iM mz) ?_;exact⟨rfl,by rw[List.any_append,eN];simp[o5],rfl⟩
 ·rintro gV l Dk rec G' Hc Zf Wd ⟨bV,_⟩ hZf cQ eW ⟨rfl,eN,rfl⟩;replace cQ:=yb cQ;refine B 4 ?_;refine Pj ?_;refine B 3 ?_;refine Aa (b:=b4) (.inl rfl) results35 isAgg4 rfl vk (cs:=#[.bool false]) (ct:=4) (fr:=(0,0)) (by exact .head _) zM rfl (λW H' hS bF=>⟨congrArg Ending.returned (vb (by unfold JY;rw[<-bV,List.any_map];exact eN.symm)),(hS.links w A4).below (λk hk hx=>by rw[bF]at hx;simp[Gh.no,book]at hx;omega)⟩)
 rintro l Dk rec c G' Hc cQ eW ⟨rfl,rfl,rfl,ph⟩;replace cQ:=yb cQ;refine B 3 ?_;refine Aa (b:=b4) (.inl rfl) results35 isAgg4 rfl vk (cs:=#[.bool true]) (ct:=4) (fr:=(0,0)) (by exact .head _) zM rfl (λW H' hS bF=>⟨congrArg Ending.returned (vb ph.symm),(hS.links w A3).below (λk hk hx=>by rw[bF]at hx;simp[Gh.no,book]at hx;omega)⟩)
end Px
