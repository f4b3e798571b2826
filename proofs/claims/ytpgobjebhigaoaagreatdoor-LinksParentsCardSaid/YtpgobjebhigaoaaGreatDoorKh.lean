/- Contracts of functions of the program. No condition beyond those stated. -/
import Derived.Test.YtpgobjebhigaoaaGreatDoorKg
import Derived.Test.YtpgobjebhigaoaaGreatDoorProg
set_option linter.unusedSimpArgs false
set_option linter.unusedVariables false
set_option linter.unusedSectionVars false
set_option linter.unnecessarySimpa false
set_option maxRecDepth 20000
set_option maxHeartbeats 8000000
namespace Px
open Go Go.RowKit Go.Proofs Go.Proofs.Tryz
structure Sc where
 fos:List Fo
 fa:Option Addr
 fc:Nat
 cs:List Cm
 la:Option Addr
 lc:Nat
 lks:List Lk
 ka:Option Addr
 kc:Nat
 fas:List Fa
 xa:Option Addr
 xc:Nat
 pls:List Pl
 pa:Option Addr
 pc:Nat
 ot:Nat->Option Addr×Nat×Nat
def rdA (s:Sc):Array Value:=#[.slice s.fa s.fos.length s.fc,.slice (s.ot 1).1 (s.ot 1).2.1 (s.ot 1).2.2,.slice s.la s.cs.length s.lc,.slice (s.ot 3).1 (s.ot 3).2.1 (s.ot 3).2.2,.slice (s.ot 4).1 (s.ot 4).2.1 (s.ot 4).2.2,.slice s.ka s.lks.length s.kc,.slice s.xa s.fas.length s.xc,.slice (s.ot 7).1 (s.ot 7).2.1 (s.ot 7).2.2]
def kS (s:Sc):Array Value:=#[.slice s.fa s.fos.length s.fc,.slice (s.ot 1).1 (s.ot 1).2.1 (s.ot 1).2.2,.slice s.la s.cs.length s.lc,.slice (s.ot 3).1 (s.ot 3).2.1 (s.ot 3).2.2,.slice (s.ot 4).1 (s.ot 4).2.1 (s.ot 4).2.2,.slice s.ka s.lks.length s.kc,.slice s.xa s.fas.length s.xc,.slice (s.ot 7).1 (s.ot 7).2.1 (s.ot 7).2.2,.slice s.pa s.pls.length s.pc]
structure FK (f:Fa):Prop where
 lnk:iJ f.lnk
 com:iJ f.com
 by_:fl f.by_
 n:fl f.n
structure eu (N:Nat) (w:World) (s:Sc):Prop where
 fo:ag qw 33 N w s.fa s.fos
 cs:ag dI 73 N w s.la s.cs
 cm:∀c∈s.cs,dB N w c
 lk:ag lkC 40 N w s.ka s.lks
 fx:ag oR 68 N w s.xa s.fas
 pl:ag plA 5 N w s.pa s.pls
structure gJ (s:Sc):Prop where
 fo:s.fos.length<=1000
 cl:s.cs.length<=1000
 cg:∀c∈s.cs,cx c
 kl:s.lks.length<=1000
 ko:∀l∈s.lks,cY l
 xl:s.fas.length<=1000
 xo:∀f∈s.fas,FK f
 pl:s.pls.length<=12
variable {C:Cx} {E:Env} {fo:Fo} {M:aB} {Z:Fx} {G:Gh} {H:ab} {d:Int} {D:List Deferred} {lks:List Lk} {pls:List Pl} {L:List World} {N N' b j k:Nat} {r:Rw} {s:Sc} {W W' w':World} {I:World->Prop}
theorem eu.up{w:World}(h:eu N w s)(hN:N<=N')(hw:∀k,k<N->w'.heap[k]? =w.heap[k]?):eu N' w' s:=⟨h.fo.up hN hw,h.cs.up hN hw,λc hc=>(h.cm c hc).up hN hw,h.lk.up hN hw,h.fx.up hN hw,h.pl.up hN hw⟩
noncomputable def Ih (Z:Fx) (ms:List Mb) (d:Int) (mf:Nat->Int) (r s:Int):Bool:=match ms.find? (λm=>decide (m.dev=d))with
 |some m=>kX Z m.ver (dc mf) r s
 |none=>false
theorem SN{ms:List Mb}{mf:Nat->Int}{r s:Int}(h:ms.any (λm=>decide (m.dev=d))=false):false=Ih Z ms d mf r s:=by
 unfold Ih;rw[show ms.find? (λm=>decide (m.dev=d))=none by
  rw[List.find?_eq_none];intro x hx;have:=List.any_eq_false.1 h x hx;simpa using this]
theorem LJ{ms:List Mb}{mf:Nat->Int}{r s:Int}{m:Mb}(hk:ms[k]? =some m)(hm:decide (m.dev=d)=true)(fN:eI (λm=>decide (m.dev=d)) ms k):kX Z m.ver (dc mf) r s=Ih Z ms d mf r s:=by
 unfold Ih;rw[show ms.find? (λm=>decide (m.dev=d))=some m by
  rw[List.find?_eq_some_iff_getElem];obtain⟨hl,he⟩:=gi.1 hk;refine⟨hm,k,hl,he,λj hj=>?_⟩;have:=fN j ms[j] hj (gB zJ);simpa using this]
theorem FL(d:Int)(b:Nat)(x:Mb)(w:World)(aQ:w.heap[b]? =some (.cells #[.int .i64 d] 3 (0,0))):Calls prog 116 #[.agg (mJ x),ptr b 0] w (ay w (.bool (decide (x.dev=d)))):=by
 have aX:¬Gh.no.X b:=λh=>h;have mE:=(aT.1 aQ).1;refine enter (vs:=[_,_]) func116 rfl ntmps116 rfl ?_;refine B 2 ?_;refine yX ?_;intro b2 w2 aU aN dY cR cX;refine B 13 ?_;refine ax results116 rfl A1 ?_;rfl
theorem nvh(hZ:FxOk Z)(g:Gv)(N:Nat)(w:World)(hN:N<=w.heap.size)(hG:aL N w g)(d:Int)(mf:Nat->Int)(bm tm:Nat)(frm:Nat×Nat)(ku:w.heap[bm]? =some (.cells (dg mf) tm frm))(DX:iJ mf)(r s:Int)(hg:Glb w):Calls prog 73 #[.agg (bC g),.int .i64 d,.slice (some ⟨bm,0,none⟩) 32 32,.agg #[.int .i64 r,.int .i64 s]] w (ay w (.bool (Ih Z g.g.ms d mf r s))):=by
 have qo:g.g.ms.length<=1000000:=by have:=hG.mn;omega
 have vj:=(aT.1 ku).1;have eE:=hg.lt;refine enter (vs:=[_,_,_,_]) func73 rfl ntmps73 rfl ?_;refine B 2 ?_;refine yX ?_;intro b4 w4 ew eR pA dO dU;refine yX ?_;intro b5 w5 eo eH oQ iH iI;refine yX ?_;intro b7 w7 Uo Up hz7 gd oN;refine B 6 ?_;refine rr (.slice g.ma g.g.ms.length g.mc) (aa isAgg52 rfl A2 ew eR trivial rfl) ?_;refine B 1 ?_;refine nB (α:=Int) (v:=λi:Int=>.int .i64 i) (Φ:=λ_ i _=>du (λx=>decide (x.dev=d)) g.g.ms i) call115 rfl rfl rfl (λW hS=>Vi (λx=>decide (x.dev=d)) 116 [ptr b5 0] call116 g.g.ms qo N g.ma g.mc W (aR hN (hS.links w A3).size) (hG.ms.up (ao _) (hS.same A3 hN zS zM)) (λj x hx W2 hB=>FL d b5 x W2 (by have h2:=(hS.links w5 A1).size;rw[hB.block b5 zJ];exact hS.old A1 eo eH trivial))) ?_;intro Wi i wi sV sW hi;refine B 4 ?_;rcases hi with⟨rfl,ir⟩|⟨k,x0,rfl,il,zB,fN⟩
 ·refine zXg ?_;refine nl 11 [.det [] _,.det [0] _,.det [1] _,.det [2] undef,.det [2,3] undef,.det [2] undef,.det [2,4,5] undef,.det [2,6] undef,.det [2,7] undef,.det [2] undef,.det [2] undef] zQ (xc zN (xc WD (xc zN (xc zL (xc zL (xc zL (xc zL (xc zL (xc zL (xc zL (xc zL (xn)))))))))))) zQ zQ zQ (λaf=>?_);refine B 6 ?_;exact zYj
 obtain⟨bo,oo,cs0,to,fk,im,fE,hcs,ar⟩:=hG.ms.get (by have:=nE il;omega);have kK:=nE il;refine zXg ?_;refine nl 11 [.det [] _,.det [0] _,.det [1] _,.det [2] _,.det [2,3] _,.det [2] _,.det [2,4,5] _,.det [2,6] _,.det [2,7] _,.det [2] _,.det [2] _] zQ (xc zN (xc SL (xc zN (xc (by exact λaf=>X.val rfl rfl (al underlying57 rfl sizeOf52 rfl) (λ_ _=>rfl)) (xc (by exact λaf=>X.val rfl rfl (RV.re (v':=.slice (some ⟨bo,oo,none⟩) g.g.ms.length g.mc) (aa isAgg52 rfl A3 ew eR trivial rfl) (by rw[<-im];rfl)) (λ_ _=>rfl)) (xc zN (xc (by exact λaf=>X.val rfl rfl (cD underlying52 sizeOf210 rfl rfl zJ zJ) (λ_ _=>rfl)) (xc (by exact λaf=>X.val rfl rfl (al underlying210 rfl sizeOf3 rfl) (λ_ _=>rfl)) (xc (by exact λaf=>X.val rfl rfl (aa (v:=.int .i64 x0.ver) isAgg3 rfl A4 hcs zU trivial (wz ar il rfl 2 zO)) (λ_ _=>rfl)) (xc zN (xc (by exact λaf=>X.val rfl rfl (ae isAgg36 sizeOf36 rfl A1 Uo Up trivial rfl) (λ_ _=>rfl)) (xn)))))))))))) zQ zQ zQ (λaf=>?_);refine call call78 rfl rfl rfl (λW hS=>by have h9:=Qs hZ x0.ver r s (dc mf) bm 0 32 (by rw[nQ];omega) W (cC.dg (hS.old A4 ku zU trivial) DX) (hg.old hS A4 zS trivial);rw[nQ]at h9;exact h9) (v:=.bool (kX Z x0.ver (dc mf) r s)) ?_;refine B 5 ?_;exact zYj
theorem nAk(p:Lk->Bool)(f:Nat)(cap:List Value)(az:dP prog f)(xs:List Lk)(cj:xs.length<=1000000)(N:Nat)(a:Option Addr)(cp:Nat)(w:World)(hN:N<=w.heap.size)(aH:ag lkC 40 N w a xs)(hp:∀(j:Nat) (x:Lk),xs[j]? =some x->∀W,Below w.heap.size w W->Calls prog f (.agg (lkC x)::cap).toArray W (ay W (.bool (p x)))):Calls prog 74 #[.slice a xs.length cp,.func (.func f) #[] cap.toArray] w (cJ w (λi:Int=>.int .i64 i) (λi _=>du p xs i)):=by
 refine enter (vs:=[_,_]) func74 rfl ntmps74 rfl ?_;refine Nw ?_;rintro j ⟨hj,dm⟩;refine B 6 ?_;refine aG ?_ ?_
 ·intro ah;refine B 11 ?_;obtain⟨bo,oo,cs0,to,fk,rfl,fE,hcs,ar⟩:=aH.get zJ;obtain⟨x,hx⟩:=nj xs j zJ;refine B 5 ?_;refine rq (.agg (lkC x)) (ai isAgg38 sizeOf38 rfl A0 hcs zU trivial (nk ar hx rfl)) (va (nr ar hx rfl)) ?_;refine Nx ?_;refine aG ?_ ?_
  ·intro aJ;refine B 12 ?_;refine kH (j:Int) results74 rfl A0 rfl ?_;exact Ny
  exact Kg
 intro ah;refine B 11 ?_;refine kH (-1:Int) results74 rfl A0 rfl ?_;exact Kh
theorem AW(hZ:FxOk Z)(l:Lk)(b:Nat)(x:Lk)(hx:cY x)(w:World)(aQ:w.heap[b]? =some (.cells (lkC l) 84 (0,0)))(hg:Glb w):Calls prog 75 #[.agg (lkC x),ptr b 0] w (ay w (.bool (jS (lV Z x) l.par))):=by
 have aX:¬Gh.no.X b:=λh=>h;have mE:=(aT.1 aQ).1;have eE:=hg.lt;refine enter (vs:=[_,_]) func75 rfl ntmps75 rfl ?_;refine B 2 ?_;refine yX ?_;intro b2 w2 aU aN dY cR cX;refine B 4 ?_;refine ng (E':=[(0,_),(1,_),(2,_),(3,_)]) zR ?_;refine nl 5 [.det [] _,.det [0] (.agg (dg (lV Z x))),.det [] _,.det [2] _,.det [3] _] zQ (xc (by exact λaf=>X.val rfl rfl (ae isAgg38 sizeOf38 rfl A0 aU aN trivial rfl) (λ_ _=>rfl)) (xc (by exact λaf=>nf call13 rfl rfl (λW hS _=>UL hZ x hx W (hg.old hS A1 zS trivial)) (λ_=>rfl)) (xc z9 (xc UI (xc (by exact λaf=>X.val rfl rfl (RV.re (v':=.agg (dg l.par)) (ai isAgg34 sizeOf34 rfl A1 aQ aX trivial (bj rfl)) (rfl)) (λ_ _=>rfl)) (xn)))))) zQ zQ zQ (λaf=>?_);refine rr (.bool (jS (lV Z x) l.par)) (pJ xX zO xY rfl rfl rfl) ?_;refine B 4 ?_;refine ax results75 rfl A1 ?_;rfl
def eM (Z:Fx) (lks:List Lk) (l:Lk):Option Lk:=if l.by_= -1 then lks.find? (λx=>jS (lV Z x) l.par)else none
theorem LK{l:Lk}(h:¬l.by_= -1):eM Z lks l=none:=if_neg h
theorem LL{l:Lk}(h:lks.any (λx=>jS (lV Z x) l.par)=false):eM Z lks l=none:=by
 unfold eM;split
 ·rw[List.find?_eq_none];intro x hx;have:=List.any_eq_false.1 h x hx;simpa using this
 rfl
theorem FM{l:Lk}{x:Lk}(hb:l.by_= -1)(hk:lks[k]? =some x)(hx:jS (lV Z x) l.par=true)(fN:eI (λx=>jS (lV Z x) l.par) lks k):eM Z lks l=some x:=by
 unfold eM;rw[if_pos hb,List.find?_eq_some_iff_getElem];obtain⟨hl,he⟩:=gi.1 hk;refine⟨hx,k,hl,he,λj hj=>?_⟩;have:=fN j lks[j] hj (gB zJ);simpa using this
theorem nkn{l p:Lk}(h:eM Z lks l=some p):p∈lks:=by
 unfold eM at h;split at h
 ·exact List.mem_of_find?_eq_some h
 cases h
theorem Glb.bel{w:World}(h:Glb w)(hB:Below w.heap.size w W):Glb W:=by
 have h4:=h.lt;obtain⟨⟨t,fr,h0⟩,t2,ql,h2⟩:=h;exact⟨⟨t,fr,(hB.block _ zJ).trans h0⟩,t2,ql,(hB.block _ zJ).trans h2⟩
def ack (o:Option Lk):Value:=.tuple #[.agg (lkC (o.getD sF)),.bool o.isSome]
theorem nod(hZ:FxOk Z)(s:Sc)(ho:gJ s)(N:Nat)(w:World)(hN:N<=w.heap.size)(hs:eu N w s)(l:Lk)(hg:Glb w):Calls prog 36 #[.agg (kS s),.agg (lkC l)] w (ay w (ack (eM Z s.lks l))):=by
 have eE:=hg.lt;have afF:=ho.kl;refine enter (vs:=[_,_]) func36 rfl ntmps36 rfl ?_;refine B 2 ?_;refine yX ?_;intro b2 w2 aU aN dY cR cX;refine yX ?_;intro b3 w3 aM aD da cd cP;refine UO ?_;refine yW ?_;intro b4 dO dU;refine B 7 ?_;refine rr (.slice s.ka s.lks.length s.kc) (aa isAgg27 rfl A1 aU aN zI rfl) ?_;refine B 1 ?_;refine nB (α:=Int) (v:=λi:Int=>.int .i64 i) (Φ:=λ_ i _=>du (λx=>jS (lV Z x) l.par) s.lks i) call74 rfl rfl rfl (λW hS=>nAk (λx=>jS (lV Z x) l.par) 75 [ptr b3 0] call75 s.lks zJ N s.ka s.kc W (aR hN (hS.links w A2).size) (hs.lk.up (ao _) (hS.same A2 hN zS uN)) (λj x hx W2 hB=>AW hZ l b3 x (ho.ko x (cb hx)) W2 (by have h2:=(hS.links w3 A0).size;rw[hB.block b3 zJ];exact hS.old A0 aM aD z7) ((hg.old hS A2 zS uN).bel hB))) ?_;intro Wi i wi sV sW hi;refine B 5 ?_;by_cases ox:l.by_= -1
 ·rcases hi with⟨rfl,ir⟩|⟨k,x0,rfl,il,zB,fN⟩
  ·refine B 4 ?_;refine zmh ?_;refine B 2 ?_;refine He ?_;refine B 7 ?_;refine Ha ?_;refine B 5 ?_;exact bH (.inl rfl) results36 (RS.wA (i:=0) rfl isAgg84 sizeOf84 rfl (bj rfl) (RS.t rfl RS.n)) λW hS=>⟨by rw[LL ir];rfl,hS.base A3 uV⟩
  obtain⟨bo,oo,cs0,to,fk,im,fE,hcs,ar⟩:=hs.lk.get (by have:=nE il;omega);have kK:=nE il;refine B 4 ?_;refine zmh ?_;refine Jr ?_;refine B 10 ?_;refine rq (.slice (some ⟨bo,oo,none⟩) s.lks.length s.kc) (aa isAgg27 rfl A2 aU aN z7 rfl) (by rw[<-im];rfl) ?_;refine B 2 ?_;refine rq (.agg (lkC x0)) (ai isAgg38 sizeOf38 rfl A3 hcs zU z7 (nk ar il rfl)) (va (nr ar il rfl)) ?_;refine rv rfl rfl rfl (bY underlying84 zeroValue84 (bA.c sizeOf38 (bA.n)) rfl rfl) ?_;refine Ha ?_;refine B 4 ?_;exact bH (.inl rfl) results36 (RS.wA (i:=0) rfl isAgg84 sizeOf84 rfl (bj rfl) (RS.t rfl RS.n)) λW hS=>⟨by rw[FM ox il zB fN];rfl,hS.base A3 uV⟩
 refine B 4 ?_;refine rq (.bool true) (cq rfl rfl) (vb (by simp[ox])) ?_;refine B 10 ?_;refine Ha ?_;refine B 5 ?_;exact bH (.inl rfl) results36 (RS.wA (i:=0) rfl isAgg84 sizeOf84 rfl (bj rfl) (RS.t rfl RS.n)) λW hS=>⟨by rw[LK ox];rfl,hS.base A3 uV⟩
theorem Rw.sl'{t:Nat}{xs:List Int}{w:World}(hr:r.Fit 1 xs)(hA:r.At aj t xs w):∃a cap,r.val xs.length= .slice a xs.length cap/\ag encI 1 w.heap.size w a xs:=by
 obtain⟨a,c,h1,h2⟩:=r.sl nw hr hA (ao _);exact⟨a,c,h1,h2⟩
theorem Rw.at_own{t:Nat}{xs:List Int}(hS:St G L H W)(hm:∀p∈r.hp aj t xs,p∈H):r.At aj t xs W:=by
 cases r with
 |nil=>trivial
 |row b cap sp=>exact hS.own (b,_) (hm _ ud)
theorem AX:∀{H:ab} {b:Nat},(∀p∈H,p.1<b)->bD H b
 | [],_,_=>True.intro
 |p::H,b,h=>⟨by have:=h p A0;omega,AX λq hq=>h q (.tail _ hq)⟩
def SO (pls:List Pl) (l p:Lk):Bool:=(cG (nq pls) l.fo).any λx=>decide (p.fo=x)
noncomputable def fC (Z:Fx) (pls:List Pl) (l p:Lk):Bool:=nu p&&p.resh&&decide (l.exp<=p.exp)&&(decide (p.fo=l.fo)||SO pls l p)&&kX Z p.ver (dc (eG Z l)) l.sr l.ss
theorem AY(hZ:FxOk Z)(s:Sc)(ho:gJ s)(N:Nat)(w:World)(hN:N<=w.heap.size)(hs:eu N w s)(l p:Lk)(hlk:cY l)(hg:Glb w)(hv:nu p=false):Calls prog 37 #[.agg (kS s),.agg (lkC l),.agg (lkC p)] w (ay w (.bool (fC Z s.pls l p))):=by
 have eE:=hg.lt;refine N7 ?_;refine yV ?_;intro b3 w3 aM aD da cd cP;refine yX ?_;intro b4 w4 ew eR pA dO dU;refine yX ?_;intro b5 w5 eo eH oQ iH iI;refine N8 ?_;refine nl 46 ((.det [] _)::(.det [0] (.bool false))::(.det [1] _)::(.det [2] undef)::(.det [2,3] undef)::(.det [2,4] undef)::(.det [2,5] _)::(.det [6] _)::(.det [7] undef)::(.det [7,8] undef)::(.det [7,9] undef)::(.det [7] undef)::(.det [7,11] undef)::(.det [7,12] undef)::(.det [7,10,13] undef)::(.det [7,14] _)::(.det [15] _)::(.det [16] undef)::(.det [16,17] undef)::(.det [16,18] undef)::(.det [16] undef)::(.det [16,20] undef)::(.det [16,21] undef)::(.det [16,19,22] undef)::(.det [16,23] undef)::(.det [24] undef)::(.det [24,25] undef)::(.det [24] undef)::(.det [24,27] undef)::(.det [24,28] undef)::(.det [24,26,29] undef)::(.det [24] undef)::(.det [24,31] undef)::(.det [24,32] undef)::(.det [24,30,33] undef)::(.det [16,24,34] undef)::(.det [16,35] _)::(.det [36] _)::(.det [37] undef)::(.det [37,38] undef)::(.det [37,39] undef)::(.det [37] undef)::(.det [37,41] undef)::(.det [37] undef)::(.det [37,43] undef)::(.det [37,44] undef)::[]) zQ (xc zhc (xc zfc (xc zN (xc zL (xc zL (xc zL (xc z5 (xc zN (xc zL (xc zL (xc zL (xc zL (xc zL (xc zL (xc zL (xc z5 (xc zN (xc zL (xc zL (xc zL (xc zL (xc zL (xc zL (xc zL (xc zL (xc zL (xc zL (xc zL (xc zL (xc zL (xc zL (xc zL (xc zL (xc zL (xc zL (xc zL (xc z5 (xc zN (xc zL (xc zL (xc zL (xc zL (xc zL (xc zL (xc zL (xc zL (xn))))))))))))))))))))))))))))))))))))))))))))))) zQ zQ zQ (λaf=>?_)
 refine B 6 ?_;refine ax results37 rfl A3 ?_;exact vb (by unfold fC;simp[hv])
theorem AZ(hZ:FxOk Z)(s:Sc)(ho:gJ s)(N:Nat)(w:World)(hN:N<=w.heap.size)(hs:eu N w s)(l p:Lk)(hlk:cY l)(hg:Glb w)(hv:nu p=true)(hr:p.resh=false):Calls prog 37 #[.agg (kS s),.agg (lkC l),.agg (lkC p)] w (ay w (.bool (fC Z s.pls l p))):=by
 have eE:=hg.lt;refine N7 ?_;refine yV ?_;intro b3 w3 aM aD da cd cP;refine yX ?_;intro b4 w4 ew eR pA dO dU;refine yX ?_;intro b5 w5 eo eH oQ iH iI;refine N8 ?_;refine nl 46 ((.det [] _)::(.det [0] (.bool true))::(.det [1] _)::(.det [2] _)::(.det [2,3] _)::(.det [2,4] _)::(.det [2,5] _)::(.det [6] _)::(.det [7] undef)::(.det [7,8] undef)::(.det [7,9] undef)::(.det [7] undef)::(.det [7,11] undef)::(.det [7,12] undef)::(.det [7,10,13] undef)::(.det [7,14] _)::(.det [15] _)::(.det [16] undef)::(.det [16,17] undef)::(.det [16,18] undef)::(.det [16] undef)::(.det [16,20] undef)::(.det [16,21] undef)::(.det [16,19,22] undef)::(.det [16,23] undef)::(.det [24] undef)::(.det [24,25] undef)::(.det [24] undef)::(.det [24,27] undef)::(.det [24,28] undef)::(.det [24,26,29] undef)::(.det [24] undef)::(.det [24,31] undef)::(.det [24,32] undef)::(.det [24,30,33] undef)::(.det [16,24,34] undef)::(.det [16,35] _)::(.det [36] _)::(.det [37] undef)::(.det [37,38] undef)::(.det [37,39] undef)::(.det [37] undef)::(.det [37,41] undef)::(.det [37] undef)::(.det [37,43] undef)::(.det [37,44] undef)::[]) zQ (xc zhc (xc zfc (xc zN (xc z9 (xc (by exact λaf=>X.val rfl rfl (al underlying38 rfl sizeOf4 rfl) (λ_ _=>rfl)) (xc (by exact λaf=>X.val rfl rfl (RV.re (v':=.bool false) (aa isAgg4 rfl A0 eo eH trivial rfl) ((vb hr))) (λ_ _=>rfl)) (xc z4 (xc zN (xc zL (xc zL (xc zL (xc zL (xc zL (xc zL (xc zL (xc z5 (xc zN (xc zL (xc zL (xc zL (xc zL (xc zL (xc zL (xc zL (xc zL (xc zL (xc zL (xc zL (xc zL (xc zL (xc zL (xc zL (xc zL (xc zL (xc zL (xc zL (xc z5 (xc zN (xc zL (xc zL (xc zL (xc zL (xc zL (xc zL (xc zL (xc zL (xn))))))))))))))))))))))))))))))))))))))))))))))) zQ zQ zQ (λaf=>?_)
 refine B 6 ?_;refine ax results37 rfl A3 ?_;exact vb (by unfold fC;simp[hr])
theorem Ba(hZ:FxOk Z)(s:Sc)(ho:gJ s)(N:Nat)(w:World)(hN:N<=w.heap.size)(hs:eu N w s)(l p:Lk)(hlk:cY l)(hg:Glb w)(hv:nu p=true)(hr:p.resh=true)(he:¬l.exp<=p.exp):Calls prog 37 #[.agg (kS s),.agg (lkC l),.agg (lkC p)] w (ay w (.bool (fC Z s.pls l p))):=by
 have eE:=hg.lt;refine N7 ?_;refine yV ?_;intro b3 w3 aM aD da cd cP;refine yX ?_;intro b4 w4 ew eR pA dO dU;refine yX ?_;intro b5 w5 eo eH oQ iH iI;refine N8 ?_;refine nl 46 ((.det [] _)::(.det [0] (.bool true))::(.det [1] _)::(.det [2] _)::(.det [2,3] _)::(.det [2,4] _)::(.det [2,5] _)::(.det [6] _)::(.det [7] _)::(.det [7,8] _)::(.det [7,9] _)::(.det [7] _)::(.det [7,11] _)::(.det [7,12] _)::(.det [7,10,13] _)::(.det [7,14] _)::(.det [15] _)::(.det [16] undef)::(.det [16,17] undef)::(.det [16,18] undef)::(.det [16] undef)::(.det [16,20] undef)::(.det [16,21] undef)::(.det [16,19,22] undef)::(.det [16,23] undef)::(.det [24] undef)::(.det [24,25] undef)::(.det [24] undef)::(.det [24,27] undef)::(.det [24,28] undef)::(.det [24,26,29] undef)::(.det [24] undef)::(.det [24,31] undef)::(.det [24,32] undef)::(.det [24,30,33] undef)::(.det [16,24,34] undef)::(.det [16,35] _)::(.det [36] _)::(.det [37] undef)::(.det [37,38] undef)::(.det [37,39] undef)::(.det [37] undef)::(.det [37,41] undef)::(.det [37] undef)::(.det [37,43] undef)::(.det [37,44] undef)::[]) zQ (xc zhc (xc zfc (xc zN (xc z9 (xc (by exact λaf=>X.val rfl rfl (al underlying38 rfl sizeOf4 rfl) (λ_ _=>rfl)) (xc (by exact λaf=>X.val rfl rfl (RV.re (v':=.bool true) (aa isAgg4 rfl A0 eo eH trivial rfl) ((vb hr))) (λ_ _=>rfl)) (xc z4 (xc zN (xc z9 (xc tW (xc (by exact λaf=>X.val rfl rfl (aa isAgg3 rfl A0 eo eH trivial rfl) (λ_ _=>rfl)) (xc z9 (xc tW (xc (by exact λaf=>X.val rfl rfl (aa isAgg3 rfl A1 ew eR trivial rfl) (λ_ _=>rfl)) (xc WD (xc z4 (xc zN (xc zL (xc zL (xc zL (xc zL (xc zL (xc zL (xc zL (xc zL (xc zL (xc zL (xc zL (xc zL (xc zL (xc zL (xc zL (xc zL (xc zL (xc zL (xc zL (xc z5 (xc zN (xc zL (xc zL (xc zL (xc zL (xc zL (xc zL (xc zL (xc zL (xn))))))))))))))))))))))))))))))))))))))))))))))) zQ zQ zQ (λaf=>?_)
 refine B 6 ?_;refine ax results37 rfl A3 ?_;exact vb (by unfold fC;simp[he])
theorem neo(hZ:FxOk Z)(s:Sc)(ho:gJ s)(N:Nat)(w:World)(hN:N<=w.heap.size)(hs:eu N w s)(l p:Lk)(hlk:cY l)(hg:Glb w)(hv:nu p=true)(hr:p.resh=true)(he:l.exp<=p.exp)(hf:p.fo=l.fo):Calls prog 37 #[.agg (kS s),.agg (lkC l),.agg (lkC p)] w (ay w (.bool (fC Z s.pls l p))):=by
 have eE:=hg.lt;refine N7 ?_;refine yV ?_;intro b3 w3 aM aD da cd cP;refine yX ?_;intro b4 w4 ew eR pA dO dU;refine yX ?_;intro b5 w5 eo eH oQ iH iI;refine N8 ?_;refine nP 46 [42] [([],some _),([0],some (.bool true)),([1],some _),([2],some _),([2,3],some _),([2,4],some _),([2,5],some _),([6],some _),([7],some _),([7,8],some _),([7,9],some _),([7],some _),([7,11],some _),([7,12],some _),([7,10,13],some _),([7,14],some _),([15],some _),([16],some _),([16,17],some _),([16,18],some _),([16],some _),([16,20],some _),([16,21],some _),([16,19,22],some _),([16,23],some _),([24],some undef),([24,25],some undef),([24],some undef),([24,27],some undef),([24,28],some undef),([24,26,29],some undef),([24],some undef),([24,31],some undef),([24,32],some undef),([24,30,33],some undef),([16,24,34],some _),([16,35],some _),([36],some _),([37],some _),([37,38],some _),([37,39],some _),([37],some _),([37,41],none),([37],some _),([37,43],some _),([37,44],some _)] (λcv L' H'=>match cv with| []=>L'=[w5,w4,w3,w]/\H'=[]| [v1]=>∃(ry:Nat) (uD:World),v1= .slice (some ⟨ry,0,none⟩) 32 32/\L'=[uD,w5,w4,w3,w]/\H'=[]/\uD.heap[ry]? =some (.cells (dg (eG Z l)) 34 (0,0))|_=>False) zQ ⟨rfl,rfl⟩ zQ zQ zQ zQ zQ zQ (pc CR (pc CR (pc zT (pc z2 (pc zwc (pc CR (pc CS (pc zT (pc z2 (pc z8 (pc CR (pc z2 (pc z8 (pc CR (pc zud (pc CS (pc zT (pc z2 (pc z8 (pc CR (pc z2 (pc z8 (pc CR (pc (by exact λcv L' H' hd hP=>X.val rfl rfl (RV.re (v':=.bool true) (er rfl rfl) (vb (by simp[hf]))) R2) (pc zT (pc oC (pc oC (pc oC (pc oC (pc oC (pc oC (pc oC (pc oC (pc oC (pc oC (pc CS (pc CS (pc zT (pc z2 (pc z8 (pc CR (pc CR (pk (pc z2 (pc Na (pc CR (pn))))))))))))))))))))))))))))))))))))))))))))))) ?_ ?_
 ·refine sc rfl rfl rfl ?_ ?_
  ·intro cv L' H' hl hP F Q' hk;obtain rfl:=iZ hl;obtain⟨rfl,rfl⟩:=hP;refine nB (α:=Nat) (v:=λb=>.slice (some ⟨b,0,none⟩) 32 32) (Φ:=λW b w1=>W.heap.size<=b/\w1.heap[b]? =some (.cells (dg (eG Z l)) 34 (0,0))) call28 rfl rfl rfl (λW hS=>UK hZ l hlk W (hg.old hS A3 zS trivial)) ?_;rintro Wm ry uD Cu U4 ⟨lO,oD⟩;exact OJ.done (hk _ _ _ ⟨ry,uD,rfl,rfl,rfl,oD⟩)
  exact sn
 intro cv L' H' hl hP;obtain⟨v1,rfl⟩:=cM hl;obtain⟨ry,uD,rfl,rfl,rfl,oD⟩:=hP;refine call (v:=.bool (kX Z p.ver (dc (eG Z l)) l.sr l.ss)) call78 rfl rfl rfl (λW hS=>by have h9:=Qs hZ p.ver l.sr l.ss (dc (eG Z l)) ry 0 32 (by rw[nQ];omega) W (cC.dg (hS.old A0 oD zU trivial) (P5 hZ l)) (hg.old hS A4 zS trivial);rw[nQ]at h9;exact h9) ?_;refine B 5 ?_;refine ax results37 rfl A4 ?_;exact vb (by unfold fC;simp[hv,hr,he,hf])
theorem FN(hZ:FxOk Z)(s:Sc)(ho:gJ s)(N:Nat)(w:World)(hN:N<=w.heap.size)(hs:eu N w s)(l p:Lk)(hlk:cY l)(hg:Glb w)(hv:nu p=true)(hr:p.resh=true)(he:l.exp<=p.exp)(hf:¬p.fo=l.fo)(hu:SO s.pls l p=true):Calls prog 37 #[.agg (kS s),.agg (lkC l),.agg (lkC p)] w (ay w (.bool (fC Z s.pls l p))):=by
 have eE:=hg.lt;refine N7 ?_;refine yV ?_;intro b3 w3 aM aD da cd cP;refine yX ?_;intro b4 w4 ew eR pA dO dU;refine yX ?_;intro b5 w5 eo eH oQ iH iI;refine N8 ?_;refine nP 46 [30,42] [([],some _),([0],some (.bool true)),([1],some _),([2],some _),([2,3],some _),([2,4],some _),([2,5],some _),([6],some _),([7],some _),([7,8],some _),([7,9],some _),([7],some _),([7,11],some _),([7,12],some _),([7,10,13],some _),([7,14],some _),([15],some _),([16],some _),([16,17],some _),([16,18],some _),([16],some _),([16,20],some _),([16,21],some _),([16,19,22],some _),([16,23],some _),([24],some _),([24,25],some _),([24],some _),([24,27],some _),([24,28],some _),([24,26,29],none),([24],some _),([24,31],some _),([24,32],some _),([24,30,33],some _),([16,24,34],some _),([16,35],some _),([36],some _),([37],some _),([37,38],some _),([37,39],some _),([37],some _),([37,41],none),([37],some _),([37,43],some _),([37,44],some _)] (λcv L' H'=>match cv with| []=>L'=[w5,w4,w3,w]/\H'=[]| [v1]=>∃(jy:Rw),v1=jy.val (cG (nq s.pls) l.fo).length/\L'=[w5,w4,w3,w]/\H'=(jy.hp aj 3 (cG (nq s.pls) l.fo)++[])/\jy.Fr Gh.no [w5,w4,w3,w]/\jy.Fit 1 (cG (nq s.pls) l.fo)| [v1,v2]=>∃(jy:Rw) (ry:Nat) (uD:World),v1=jy.val (cG (nq s.pls) l.fo).length/\v2= .slice (some ⟨ry,0,none⟩) 32 32/\L'=[uD,w5,w4,w3,w]/\H'=(jy.hp aj 3 (cG (nq s.pls) l.fo)++[])/\jy.Fr Gh.no [w5,w4,w3,w]/\jy.Fit 1 (cG (nq s.pls) l.fo)/\uD.heap[ry]? =some (.cells (dg (eG Z l)) 34 (0,0))/\bD (jy.hp aj 3 (cG (nq s.pls) l.fo)++[]) ry|_=>False) zQ ⟨rfl,rfl⟩ zQ zQ zQ zQ zQ zQ (pc vF (pc vF (pc zT (pc z2 (pc zwc (pc vF (pc CS (pc zT (pc z2 (pc z8 (pc vF (pc z2 (pc z8 (pc vF (pc zud (pc CS (pc zT (pc z2 (pc z8 (pc vF (pc z2 (pc z8 (pc vF (pc zPc (pc zT (pc (by exact λcv L' H' hd hP=>X.val rfl rfl (al underlying81 rfl sizeOf32 rfl) R2) (pc vF (pc z2 (pc z8 (pc vF (pk (pc z2 (pc z8 (pc vF (pc (λcv L' H' hd hP=>match cv,hd,hP with| [],hd,hP=>(absurd (show false=true from hd) zO)| [v1],hd,hP=>(by obtain⟨jy,rfl,rfl,rfl,gr,cW⟩:=hP;exact nf call76 rfl rfl (λW hS _=>by obtain⟨a9,c9,e9,h9⟩:=jy.sl' (t:=3) cW (Rw.at_own hS (λp hp=>by simp[hp]));have h8:=nTf (cG (nq s.pls) l.fo) (aR (CQ (Ig s.pls).1 l.fo) z0d) W.heap.size a9 c9 W (ao _) h9 p.fo;rw[show((cG (nq s.pls) l.fo).any λx=>decide (p.fo=x))=true from hu,<-e9]at h8;exact h8) (λ_=>rfl))| [v1,v2],hd,hP=>(by obtain⟨jy,ry,uD,rfl,rfl,rfl,rfl,gr,cW,oD,Bb⟩:=hP;exact nf call76 rfl rfl (λW hS _=>by obtain⟨a9,c9,e9,h9⟩:=jy.sl' (t:=3) cW (Rw.at_own hS (λp hp=>by simp[hp]));have h8:=nTf (cG (nq s.pls) l.fo) (aR (CQ (Ig s.pls).1 l.fo) z0d) W.heap.size a9 c9 W (ao _) h9 p.fo;rw[show((cG (nq s.pls) l.fo).any λx=>decide (p.fo=x))=true from hu,<-e9]at h8;exact h8) (λ_=>rfl))|_::_::_::_,_,hP=>hP.elim) (pc (by exact λcv L' H' hd hP=>X.val rfl rfl (uE rfl rfl) R2) (pc CS (pc zT (pc z2 (pc z8 (pc vF (pc vF (pk (pc z2 (pc Na (pc vF (pn))))))))))))))))))))))))))))))))))))))))))))))) ?_ ?_
 ·refine sc rfl rfl rfl ?_ ?_
  ·exact zmj
  refine sc rfl rfl rfl ?_ ?_
  ·intro cv L' H' hl hP F Q' hk;obtain⟨v1,rfl⟩:=cM hl;obtain⟨jy,rfl,rfl,rfl,gr,cW⟩:=hP;refine nB (α:=Nat) (v:=λb=>.slice (some ⟨b,0,none⟩) 32 32) (Φ:=λW b w1=>W.heap.size<=b/\w1.heap[b]? =some (.cells (dg (eG Z l)) 34 (0,0))) call28 rfl rfl rfl (λW hS=>UK hZ l hlk W (hg.old hS A3 zS WE)) ?_;rintro Wm ry uD Cu U4 ⟨lO,oD⟩;exact OJ.done (hk _ _ _ ⟨jy,ry,uD,rfl,rfl,rfl,rfl,gr,cW,oD,AX λp hp=>jT (Cu.lt p hp) lO⟩)
  exact sn
 intro cv L' H' hl hP;obtain⟨v1,v2,rfl⟩:=iL hl;obtain⟨jy,ry,uD,rfl,rfl,rfl,rfl,gr,cW,oD,Bb⟩:=hP;refine call (v:=.bool (kX Z p.ver (dc (eG Z l)) l.sr l.ss)) call78 rfl rfl rfl (λW hS=>by have h9:=Qs hZ p.ver l.sr l.ss (dc (eG Z l)) ry 0 32 (by rw[nQ];omega) W (cC.dg (hS.old A0 oD zU Bb) (P5 hZ l)) (hg.old hS A4 zS WE);rw[nQ]at h9;exact h9) ?_;refine B 5 ?_;exact bH (.inl rfl) results37 (RS.t rfl RS.n) λW hS=>⟨congrArg Ending.returned (vb (by unfold fC;simp[hv,hr,he,hu])),hS.base A4 WE⟩
theorem Bc(hZ:FxOk Z)(s:Sc)(ho:gJ s)(N:Nat)(w:World)(hN:N<=w.heap.size)(hs:eu N w s)(l p:Lk)(hlk:cY l)(hg:Glb w)(hv:nu p=true)(hr:p.resh=true)(he:l.exp<=p.exp)(hf:¬p.fo=l.fo)(hu:SO s.pls l p=false):Calls prog 37 #[.agg (kS s),.agg (lkC l),.agg (lkC p)] w (ay w (.bool (fC Z s.pls l p))):=by
 have eE:=hg.lt;refine N7 ?_;refine yV ?_;intro b3 w3 aM aD da cd cP;refine yX ?_;intro b4 w4 ew eR pA dO dU;refine yX ?_;intro b5 w5 eo eH oQ iH iI;refine N8 ?_;refine nP 46 [30] [([],some _),([0],some (.bool true)),([1],some _),([2],some _),([2,3],some _),([2,4],some _),([2,5],some _),([6],some _),([7],some _),([7,8],some _),([7,9],some _),([7],some _),([7,11],some _),([7,12],some _),([7,10,13],some _),([7,14],some _),([15],some _),([16],some _),([16,17],some _),([16,18],some _),([16],some _),([16,20],some _),([16,21],some _),([16,19,22],some _),([16,23],some _),([24],some _),([24,25],some _),([24],some _),([24,27],some _),([24,28],some _),([24,26,29],none),([24],some _),([24,31],some _),([24,32],some _),([24,30,33],some _),([16,24,34],some _),([16,35],some _),([36],some _),([37],some undef),([37,38],some undef),([37,39],some undef),([37],some undef),([37,41],some undef),([37],some undef),([37,43],some undef),([37,44],some undef)] (λcv L' H'=>match cv with| []=>L'=[w5,w4,w3,w]/\H'=[]| [v1]=>∃(jy:Rw),v1=jy.val (cG (nq s.pls) l.fo).length/\L'=[w5,w4,w3,w]/\H'=(jy.hp aj 3 (cG (nq s.pls) l.fo)++[])/\jy.Fr Gh.no [w5,w4,w3,w]/\jy.Fit 1 (cG (nq s.pls) l.fo)|_=>False) zQ ⟨rfl,rfl⟩ zQ zQ zQ zQ zQ zQ (pc CT (pc CT (pc zT (pc z2 (pc zwc (pc CT (pc CS (pc zT (pc z2 (pc z8 (pc CT (pc z2 (pc z8 (pc CT (pc zud (pc CS (pc zT (pc z2 (pc z8 (pc CT (pc z2 (pc z8 (pc CT (pc zPc (pc zT (pc (by exact λcv L' H' hd hP=>X.val rfl rfl (al underlying81 rfl sizeOf32 rfl) R2) (pc CT (pc z2 (pc z8 (pc CT (pk (pc z2 (pc z8 (pc CT (pc (λcv L' H' hd hP=>match cv,hd,hP with| [],hd,hP=>(absurd (show false=true from hd) zO)| [v1],hd,hP=>(by obtain⟨jy,rfl,rfl,rfl,gr,cW⟩:=hP;exact nf call76 rfl rfl (λW hS _=>by obtain⟨a9,c9,e9,h9⟩:=jy.sl' (t:=3) cW (Rw.at_own hS (λp hp=>by simp[hp]));have h8:=nTf (cG (nq s.pls) l.fo) (aR (CQ (Ig s.pls).1 l.fo) z0d) W.heap.size a9 c9 W (ao _) h9 p.fo;rw[show((cG (nq s.pls) l.fo).any λx=>decide (p.fo=x))=false from hu,<-e9]at h8;exact h8) (λ_=>rfl))|_::_::_,_,hP=>hP.elim) (pc (by exact λcv L' H' hd hP=>X.val rfl rfl (uE rfl rfl) R2) (pc CS (pc zT (pc oC (pc oC (pc oC (pc oC (pc oC (pc oC (pc oC (pc oC (pn))))))))))))))))))))))))))))))))))))))))))))))) ?_ ?_
 ·refine sc rfl rfl rfl ?_ ?_
  ·exact zmj
  exact sn
 intro cv L' H' hl hP;obtain⟨v1,rfl⟩:=cM hl;obtain⟨jy,rfl,rfl,rfl,gr,cW⟩:=hP;refine B 6 ?_;exact bH (.inl rfl) results37 (RS.t rfl RS.n) λW hS=>⟨congrArg Ending.returned (vb (by unfold fC;simp[hf,hu])),hS.base A3 WE⟩
theorem n3e(hZ:FxOk Z)(s:Sc)(ho:gJ s)(N:Nat)(w:World)(hN:N<=w.heap.size)(hs:eu N w s)(l p:Lk)(hlk:cY l)(hg:Glb w):Calls prog 37 #[.agg (kS s),.agg (lkC l),.agg (lkC p)] w (ay w (.bool (fC Z s.pls l p))):=by
 cases hv:nu p with
 |false=>exact AY hZ s ho N w hN hs l p hlk hg hv
 |true=>
  cases hr:p.resh with
  |false=>exact AZ hZ s ho N w hN hs l p hlk hg hv hr
  |true=>
   by_cases he:l.exp<=p.exp
   ·by_cases hf:p.fo=l.fo
    ·exact neo hZ s ho N w hN hs l p hlk hg hv hr he hf
    cases hu:SO s.pls l p with
    |false=>exact Bc hZ s ho N w hN hs l p hlk hg hv hr he hf hu
    |true=>exact FN hZ s ho N w hN hs l p hlk hg hv hr he hf hu
   exact Ba hZ s ho N w hN hs l p hlk hg hv hr he



theorem nlm(hZ:FxOk Z)(cs:List Cm)(hcs:cs.length<=1000)(dt:∀c∈cs,cx c)(NQ NR NX:Nat)(la:Option Addr)(lc:Nat)(ia:Option Addr)(ic:Nat)(ta:Option Addr)(tc:Nat)(fo:Fo)(b1 b2:Nat)(W:World)(LM:H8 Z cs la ia ta ic tc NQ NR NX W)(hR:NR<=b1/\b1<NX/\NR<=b2/\b2<NX)(aQ:W.heap[b1]? =some (.cells (vA Z cs la lc ⟨ia,ic,ta,tc⟩) 92 (0,0)))(aU:W.heap[b2]? =some (.cells (qw fo) 50 (0,0))):uF prog 50 [ptr b1 0,ptr b2 0] (λd:Cd=>[.agg (dw d)]) (λ(p:List Cd) (_:aB) (_:World)=>p.length<=cs.length) (λ(xs:List Cd) (Y:aB) (A:World)=>(my Z cs fo (xs.map p5)/\xs.length<=cs.length)/\∀e∈xs,aL A.heap.size A e.x/\dx Y e.x/\aS NQ e.x) (λ_=>False) (AJ NQ NR NX) W:=by
 intro l M I X0 hM hI hX hy h0;have aX:¬(cF hM (λ_=>False) (hI [] _)).X b1:=by rintro(h|h);(exact(hM _ h).2.2 ⟨hR.2.1,.inr hR.1⟩);(exact h.elim)
 have aN:¬(cF hM (λ_=>False) (hI [] _)).X b2:=by rintro(h|h);(exact(hM _ h).2.2 ⟨hR.2.2.2,.inr hR.2.2.1⟩);(exact h.elim)
 have hNX:=LM.x;have hNQ:=LM.q;have hN3:=LM.n3;refine nL (cF hM (λ_=>False) (hI [] _)) [] (vs:=[_,_,_]) func50 rfl ntmps50 rfl (JI hM (hI [] _) h0 zX (by simp[jk]) zX) ?_;refine B 2 ?_;refine rr (.agg (vA Z cs la lc ⟨ia,ic,ta,tc⟩)) (ai isAgg92 sizeOf92 rfl A0 aQ aX trivial (bj rfl)) ?_;refine rr (.agg (qw fo)) (ai isAgg50 sizeOf50 rfl A0 aU aN trivial (bj rfl)) ?_;refine nB (α:=Cd×Bool) (v:=λq=>.tuple #[.agg (dw q.1),.bool q.2]) (Φ:=λW q w'=>(q.2=true/\AG Z cs fo=some (oB q.1)/\tu Z cs (g0 fo) q.1/\aL w'.heap.size w' q.1.x/\aS W.heap.size q.1.x)\/(q.2=false/\AG Z cs fo=none)) call51 rfl rfl rfl (λW9 hS=>by
  obtain⟨h1,h2,h3,h4⟩:=LM.args (hS.links W A0).size (LM.same hS A0 (λk hk=>hk.elim) True.intro);exact nOn hZ cs hcs dt W9.heap.size la lc W9 (ao _) h1 h2 ia ic ta tc h3 fo h4) ?_
 rintro W9 ⟨d,Sm⟩ w9 kL ui hph;have lG:=ui.size;have hzW:=(kL.links W A0).size;refine B 3 ?_;refine NY ?_;refine yW ?_;intro b4 dO dU;refine Lr ?_;refine B 4 ?_;refine CJ.loop (α:=((((List Cd×Cd)×Bool)×aB)×World)×Nat) (λp=>[(0,yv l),(1,ptr b1 0),(2,ptr b2 0),(4,ptr p.2 0),(5,.bool p.1.1.1.2)]) (λp=>[(p.2,.cells (dw p.1.1.1.1.2) 101 (0,0))]) (λp=>[p.1.2,W]) (λp=>cF hM p.1.1.2 (hI p.1.1.1.1.1 p.1.1.2)) (λp=>(∀k,p.1.1.2 k->W.heap.size<=k)/\W.heap.size<=p.2/\W.heap.size<=p.1.2.heap.size/\p.1.1.1.1.1.length<=cs.length/\((p.1.1.1.2=true/\Fu Z cs fo M p.1.1.1.1.1 p.1.1.1.1.2 p.1.1.2 p.1.2 p.2/\aS NQ p.1.1.1.1.2.x)\/(p.1.1.1.2=false/\my Z cs fo (p.1.1.1.1.1.map p5)))/\∀e∈p.1.1.1.1.1,aL p.1.2.heap.size p.1.2 e.x/\dx (λk=>M k\/p.1.1.2 k) e.x/\mx p.2 e.x/\aS NQ e.x) (λp=>cs.length+1-p.1.1.1.1.1.length) ((((([],d),Sm),λ_=>False),w9),b4) ⟨λ_ h=>h.elim,by dsimp only;omega,by dsimp only;omega,db _,hph.imp (λh=>⟨h.1,Fu.first h.2.1 h.2.2.1 h.2.2.2.1 h.2.2.2.2 (λk hk=>by have:=(hM k hk).1;omega) dG,h.2.2.2.2.mono zJ⟩) (λh=>⟨h.1,h.2⟩),λe he=>by cases he⟩ zR rfl rfl zX ?_;rintro⟨⟨⟨⟨⟨pre,d⟩,Sm⟩,V⟩,wk⟩,b4⟩ ⟨hV,Lq,hwk,hpl,iF,Bd⟩;dsimp only at hV Lq hwk hpl iF Bd ⊢;clear aX aN;have aX:¬(cF hM V (hI pre V)).X b1:=by rintro(h|h);(exact(hM _ h).2.2 ⟨hR.2.1,.inr hR.1⟩);(have:=hV _ h;omega)
 have aN:¬(cF hM V (hI pre V)).X b2:=by rintro(h|h);(exact(hM _ h).2.2 ⟨hR.2.2.2,.inr hR.2.2.1⟩);(have:=hV _ h;omega)
 refine B 2 ?_;rcases iF with⟨rfl,jX,hdn⟩|⟨rfl,cB⟩
 ·refine B 4 ?_;refine Sq ?_;refine Ii (λ_=>False) id Kt (V:=V) (λV=>hI (pre++[d]) V) hX hV rfl rfl rfl rfl (λW1 _ Rf kJ=>hy pre d V W1 (by have:=jX.mu;show(pre++[d]).length<=cs.length;rw[cK,HV];omega) Rf kJ) ?_ ?_
  ·intro V2 Cv sT;have p7:=sT wk A0;have vG:∀k,V2 k->W.heap.size<=k:=λk hk=>by rcases p7 k hk with h|h;(exact hV k h);omega
   have aX:¬(cF hM V2 (hI (pre++[d]) V2)).X b1:=by rintro(h|h);(exact(hM _ h).2.2 ⟨hR.2.1,.inr hR.1⟩);(have:=vG _ h;omega)
   have aN:¬(cF hM V2 (hI (pre++[d]) V2)).X b2:=by rintro(h|h);(exact(hM _ h).2.2 ⟨hR.2.2.2,.inr hR.2.2.1⟩);(have:=vG _ h;omega)
   have Be:dx (λk=>M k\/V2 k) d.x:=jX.out.up jX.lies (λk hk=>hk.elim (λh=>.inl (.inl h)) (λh=>(p7 k h).imp .inr id));have N9:∀e∈pre++[d],dx (λk=>M k\/V2 k) e.x:=λe he=>by
    rcases cQ.1 he with he|he
    ·exact(Bd e he).2.1.up (Bd e he).1 (λk hk=>hk.elim (λh=>.inl (.inl h)) (λh=>(p7 k h).imp .inr id))
    rw[qi.1 he];exact Be
   refine B 14 ?_;refine Sq ?_;refine B 2 ?_;refine nCo (i:=0) (L':=[W]) rfl zW zX (λWr EL=>?_);have fJ:aL Wr.heap.size Wr d.x:=jX.lies.toZ EL A0 (ao _) Be (λp hp=>by rw[qi.1 hp];exact jX.off);have oW:=(EL.links W A1).size;have ja:∀e∈pre++[d],aS NQ e.x:=λe he=>by
    rcases cQ.1 he with he|he
    ·exact(Bd e he).2.2.2
    rw[qi.1 he];exact hdn
   have LN:∀e∈pre++[d],aL Wr.heap.size Wr e.x:=λe he=>by
    rcases cQ.1 he with he|he
    ·exact(Bd e he).1.toZ EL A0 (ao _) (N9 e (cQ.2 (.inl he))) (λp hp=>by rw[qi.1 hp];exact(Bd e he).2.2.1)
    rw[qi.1 he];exact fJ
   refine B 1 ?_;refine NY ?_;refine yW ?_;intro b4 dO dU;refine Lr ?_;refine B 3 ?_;refine rr (.agg (vA Z cs la lc ⟨ia,ic,ta,tc⟩)) (ai isAgg92 sizeOf92 rfl A1 aQ aX zI (bj rfl)) ?_;refine B 1 ?_;refine rr (.agg (bC d.x)) (dd (i:=0) rfl isAgg57 sizeOf57 rfl (bj rfl)) ?_;refine nB (α:=Cd×Bool) (v:=λq=>.tuple #[.agg (dw q.1),.bool q.2]) (Φ:=λW q w'=>(q.2=true/\CL Z cs d.x.g=some (oB q.1)/\mw Z cs d.x.g q.1/\aL w'.heap.size w' q.1.x/\aS W.heap.size q.1.x)\/(q.2=false/\CL Z cs d.x.g=none)) call52 rfl rfl rfl (λW9 hS=>by
    obtain⟨h1,h2,h3,h4⟩:=LM.args (hS.links W A1).size (LM.same hS A1 vG ⟨dO.2.1,True.intro⟩);exact n7l hZ cs hcs dt W9.heap.size la lc W9 (ao _) h1 h2 ia ic ta tc h3 d.x (fJ.toZ hS A0 (ao _) Be (λp hp=>by rw[qi.1 hp];exact fJ.off dG)) h4) ?_
   rintro W9 ⟨d2,ok2⟩ w9 kL ui hph;have lG:=ui.size;have hzW:=(kL.links W A1).size;have rp:=kL.lt (b4,_) A0;try dsimp only at rp
   have hV9:∀k,V2 k->k<W9.heap.size:=λk hk=>kL.xlt k (.inr hk);have hM9:∀k,M k->k<W9.heap.size:=λk hk=>kL.xlt k (.inl hk);have acv:∀e∈pre++[d],aL w9.heap.size w9 e.x:=λe he=>by
    have h9:=(LN e he).toZ kL A0 (ao _) (N9 e he) (λp hp=>by rw[qi.1 hp];exact(LN e he).off dG);exact h9.up ui.size (λk hk=>ui.block k hk)
   refine B 3 ?_;refine Lr ?_;refine B 2 ?_;refine PJ.again (((((pre++[d],d2),ok2),V2),w9),b4) ⟨vG,by dsimp only;omega,by dsimp only;omega,by have:=jX.mu;dsimp only;rw[cK,HV];omega,hph.imp (λh=>⟨h.1,jX.step h.2.1 h.2.2.1.le h.2.2.2.1 h.2.2.2.2 hM9 hV9 rp,h.2.2.2.2.mono zJ⟩) (λh=>⟨h.1,jX.stop h.2⟩),λe he=>⟨acv e he,N9 e he,(LN e he).off dG,ja e he⟩⟩ (by have:=jX.mu;dsimp only;rw[cK,HV];omega) zR rfl rfl zX
  intro V2 Cv sT;have p7:=sT wk A0;have vG:∀k,V2 k->W.heap.size<=k:=λk hk=>by rcases p7 k hk with h|h;(exact hV k h);omega
  refine B 8 ?_;exact SP (Fin:=(λ(xs:List Cd) (Y:aB) (A:World)=>(my Z cs fo (xs.map p5)/\xs.length<=cs.length)/\∀e∈xs,aL A.heap.size A e.x/\dx Y e.x/\aS NQ e.x)) (.inr rfl) results50 A1 vG (by intro k hk hx;simp at hx;omega) (λA SQ hA=>.inr hA)
 refine B 14 ?_;exact SP (Fin:=(λ(xs:List Cd) (Y:aB) (A:World)=>(my Z cs fo (xs.map p5)/\xs.length<=cs.length)/\∀e∈xs,aL A.heap.size A e.x/\dx Y e.x/\aS NQ e.x)) (.inr rfl) results50 A1 hV (by intro k hk hx;simp at hx;omega) (λA SQ hA=>.inl ⟨pre,⟨⟨cB,hpl⟩,λe he=>⟨(Bd e he).1.toZ SQ A0 (ao _) (Bd e he).2.1 (λp hp=>by rw[qi.1 hp];exact(Bd e he).2.2.1),(Bd e he).2.1,(Bd e he).2.2.2⟩⟩,hA⟩)
theorem dx.off{Y:aB}{x:Gv}(h:dx Y x)(hb:Y b):mx b x:=⟨λq e=>(h.1 q e).imp id (λh1 e2=>h1 (e2▸hb)),λq e=>(h.2 q e).imp id (λh1 e2=>h1 (e2▸hb))⟩
theorem dx.none{x:Gv}:dx Gh.no.X x:=⟨λq e=>.inr zU,λq e=>.inr zU⟩
theorem n2i(hZ:FxOk Z)(cs:List Cm)(hcs:cs.length<=1000)(dt:∀c∈cs,cx c)(N:Nat)(la:Option Addr)(lc:Nat)(w:World)(hN:N<=w.heap.size)(aH:ag dI 73 N w la cs)(hC:∀c∈cs,dB N w c)(fo:Fo)(hg:Glb w):Calls prog 11 #[.agg (qw fo),.slice la cs.length lc] w (cJ w (λq:((Option Addr×Nat)×(Option Addr×Nat))×List Cd=>.tuple #[.slice q.1.1.1 q.2.length q.1.1.2,.slice q.1.2.1 q.2.length q.1.2.2]) (λq w1=>(my Z cs fo (q.2.map p5)/\q.2.length<=cs.length)/\ag (λx=>(aj x).toArray) 1 w1.heap.size w1 q.1.1.1 (q.2.map λd=>d.at_)/\ag (λx=>(jQ x).toArray) 36 w1.heap.size w1 q.1.2.1 (q.2.map λd=>d.x)/\(∀p,q.1.1.1=some p->w.heap.size<=p.block)/\(∀p,q.1.2.1=some p->w.heap.size<=p.block)/\∀d∈q.2,aL w1.heap.size w1 d.x/\aS w.heap.size d.x)):=by
 have eE:=hg.lt;refine B1 Gh.no [] (vs:=[_,_]) func11 rfl ntmps11 rfl (uK w) ?_;refine B 2 ?_;refine yX ?_;intro b2 w2 aU aN dY cR cX;refine aZ zeroValue44 rfl rfl ?_;refine yW ?_;intro b4 dO dU;refine aZ zeroValue46 rfl rfl ?_;refine yW ?_;intro b5 iH iI;refine B 4 ?_;refine X8 ?_;refine nP 3 [1] [([],some _),([0],none),([],some _)] (λcv L' H'=>match cv with| []=>L'=[w2,w]/\H'=[(b5,.cells #[.slice none 0 0] 46 (0,0)),(b4,.cells #[.slice none 0 0] 44 (0,0))]| [v1]=>∃(NR:Nat) (ia:Option Addr) (ic:Nat) (ta:Option Addr) (tc:Nat) (wp:World),v1= .agg (vA Z cs la lc ⟨ia,ic,ta,tc⟩)/\L'=[wp,w2,w]/\H'=[(b5,.cells #[.slice none 0 0] 46 (0,0)),(b4,.cells #[.slice none 0 0] 44 (0,0))]/\ly Z cs wp.heap.size wp ⟨ia,ic,ta,tc⟩/\(∀q,ia=some q->NR<=q.block)/\(∀q,ta=some q->NR<=q.block)/\b5<NR/\b4<NR/\w.heap.size<=NR/\NR<=wp.heap.size|_=>False) zQ ⟨rfl,rfl⟩ zQ zQ zQ zQ zQ zQ (pc zT (pk (pc (λcv L' H' hd hP=>match cv,hd,hP with| [],hd,hP=>(by obtain⟨rfl,rfl⟩:=hP;exact X.val rfl rfl (ae isAgg50 sizeOf50 rfl A0 aU aN zI rfl) R2)| [v1],hd,hP=>(by obtain⟨NR,ia,ic,ta,tc,wp,rfl,rfl,rfl,wF,rN,SR,hNR⟩:=hP;exact X.val rfl rfl (ae isAgg50 sizeOf50 rfl A1 aU aN zI rfl) R2)|_::_::_,_,hP=>hP.elim) (pn)))) ?_ ?_
 ·refine sc rfl rfl rfl ?_ ?_
  ·intro cv L' H' hl hP F Q' hk;obtain rfl:=iZ hl;obtain⟨rfl,rfl⟩:=hP;refine nB (α:=Pv) (v:=λp=>.agg (vA Z cs la lc p)) (Φ:=λW p w1=>ly Z cs w1.heap.size w1 p/\(∀q,p.ia=some q->W.heap.size<=q.block)/\∀q,p.ta=some q->W.heap.size<=q.block) call22 rfl rfl rfl (λW hS=>Px.newPool hZ cs hcs dt N la lc W (aR hN (hS.links w A1).size) (aH.up (ao _) (hS.same A1 hN zS ⟨by dsimp only;omega,by dsimp only;omega,True.intro⟩)) (λc hc=>(hC c hc).up (ao _) (hS.same A1 hN zS ⟨by dsimp only;omega,by dsimp only;omega,True.intro⟩)) (hg.old hS A1 zS ⟨by dsimp only;omega,by dsimp only;omega,True.intro⟩)) ?_;rintro Wp ⟨ia,ic,ta,tc⟩ wp vg J3 ⟨wF,rN,SR⟩;try dsimp only at wF rN SR
   have l5:=vg.lt (b5,_) A0;have l4:=vg.lt (b4,_) A1;try dsimp only at l4 l5
   have lw:=(vg.links w A1).size;exact OJ.done (hk _ _ _ ⟨Wp.heap.size,ia,ic,ta,tc,wp,rfl,rfl,rfl,wF,rN,SR,l5,l4,lw,J3.size⟩)
  exact sn
 intro cv L' H' hl hP;obtain⟨v1,rfl⟩:=cM hl;obtain⟨NR,ia,ic,ta,tc,wp,rfl,rfl,rfl,wF,rN,SR,hNR⟩:=hP;refine nB (α:=Nat×Nat) (v:=λq:Nat×Nat=>.func (.func 50) #[] #[ptr q.1 0,ptr q.2 0]) (Φ:=λW q w1=>W.heap.size<=q.1/\W.heap.size<=q.2/\w1.heap[q.1]? =some (.cells (vA Z cs la lc ⟨ia,ic,ta,tc⟩) 92 (0,0))/\w1.heap[q.2]? =some (.cells (qw fo) 50 (0,0))) call23 rfl rfl rfl (λW hS=>nFn Z cs la lc ia ic ta tc fo W) ?_;rintro Wn q wn lp q4 ⟨jb,jc,fw,gg⟩;try dsimp only at jb jc fw gg
 have yY:=(aT.1 fw).1;have yZ:=(aT.1 gg).1;have HH:=q4.size;have afG:=(lp.links wp A0).size;refine B 3 ?_;refine CJ.range3 (f:=50) (cap:=[ptr q.1 0,ptr q.2 0]) (α:=Cd) (enc:=(λd:Cd=>[.agg (dw d)])) (Pre:=(λ(p:List Cd) (_:aB) (_:World)=>p.length<=cs.length)) (Fin:=(λ(xs:List Cd) (Y:aB) (A:World)=>(my Z cs fo (xs.map p5)/\xs.length<=cs.length)/\∀e∈xs,aL A.heap.size A e.x/\dx Y e.x/\aS w.heap.size e.x)) (RO:=AJ w.heap.size NR wn.heap.size) (MI:=λ_=>False) rfl call50 (λW' W2 hS hB=>by have l1:=(hS.links wn A0).size;exact nlm hZ cs hcs dt w.heap.size NR wn.heap.size la lc ia ic ta tc fo q.1 q.2 W2 (H8.mk2 hN aH hC hg wF rN SR hS A3 A1 A0 hB zJ zJ (λp hp=>by simp only[cI,fu,or_false]at hp;rcases hp with rfl|rfl<;>(dsimp only;omega))) zJ Vr Vs) (λ_ _ _ hk=>hk.elim) (λW' hS k hk=>by have h1:=hk.1;have h2:=hk.2;have l1:=(hS.links wn A0).size;exact⟨by omega,by simp only[eh,iB,cI,fu,or_false];omega,λh=>h⟩) (λ_=>rfl) (λpre G' Hc=>G'=Gh.no/\∃r1 r2:Rw,r1.Fr Gh.no [wn,wp,w2,w]/\r1.Fit 1 (pre.map λd=>d.at_)/\r2.Fr Gh.no [wn,wp,w2,w]/\r2.Fit 36 (pre.map λd=>d.x)/\Hc=[(b5,.cells #[r2.val (pre.map λd=>d.x).length] 46 (0,0)),(b4,.cells #[r1.val (pre.map λd=>d.at_).length] 44 (0,0))]++(r1.hp aj 3 (pre.map λd=>d.at_)++(r2.hp jQ 57 (pre.map λd=>d.x)++[]))) (λ_ _ _=>False) ⟨rfl,.nil,.nil,True.intro,rfl,True.intro,rfl,rfl⟩ zO ?_ ?_ ?_
 ·rintro pre x G' Hc l Dk rec W1 M V Wy lN qB eC ⟨rfl,r1,r2,mr,fQ,gm,iw,rfl⟩ dZ gM GM qC bM yq;simp only[ad]at dZ qC;have kR:r1.ge wn.heap.size:=Rw.ge_of mr A0;have dE:r2.ge wn.heap.size:=Rw.ge_of gm A0;have hpl:(pre++[x]).length<=cs.length:=eC;simp only[cK,dQ,mT]at hpl;have SS:∀p∈r1.hp aj 3 (pre.map λd=>d.at_),M p.1\/V p.1:=λp hp=>bM.loc.h p UX;have acw:∀p∈r2.hp jQ 57 (pre.map λd=>d.x),M p.1\/V p.1:=λp hp=>bM.loc.h p (by simp only[cQ];exact .inr (.inr (.inl hp)));refine B 1 ?_;refine NY ?_;refine yW ?_;intro b6 gV lP;refine Lr ?_;refine B 1 ?_;refine PJ.reH (H':=book ([(b6,.cells (dw x) 101 (0,0))]++([(b5,.cells #[r2.val (pre.map λd=>d.x).length] 46 (0,0)),(b4,.cells #[r1.val (pre.map λd=>d.at_).length] 44 (0,0))]++(r1.hp aj 3 (pre.map λd=>d.at_)++(r2.hp jQ 57 (pre.map λd=>d.x)++[])))) l rec (bT Dk)) rfl ?_;refine Vt lN ?_;refine B 1 ?_;refine ng (E':=[(0,_),(1,_),(2,_),(4,_),(5,_),(6,_),(7,_),(8,_),(9,_),(10,_),(11,_)]) zR ?_;refine P2 9 [3,4,8] [([],some _),([],some _),([1],some _),([2],none),([0,3],none),([],some _),([],some _),([6],some _),([7],none)] [[],[0],[]] (λcv L' H'=>match cv with| [none,none,none]=>L'=[Wy,wn,wp,w2,w]/\H'=book ([(b6,.cells (dw x) 101 (0,0)),(b5,.cells #[r2.val (pre.map λd=>d.x).length] 46 (0,0)),(b4,.cells #[r1.val (pre.map λd=>d.at_).length] 44 (0,0))]++(r1.hp aj 3 (pre.map λd=>d.at_)++(r2.hp jQ 57 (pre.map λd=>d.x)++[]))) l {rec with state:=.busy} (bT Dk)| [none,none,some v8]=>∃(jI:Nat),v8= .slice (some ⟨jI,0,none⟩) 1 1/\L'=[Wy,wn,wp,w2,w]/\H'=book ([(jI,.cells (bC x.x) 57 (0,0)),(b6,.cells (dw x) 101 (0,0)),(b5,.cells #[r2.val (pre.map λd=>d.x).length] 46 (0,0)),(b4,.cells #[r1.val (pre.map λd=>d.at_).length] 44 (0,0))]++(r1.hp aj 3 (pre.map λd=>d.at_)++(r2.hp jQ 57 (pre.map λd=>d.x)++[]))) l {rec with state:=.busy} (bT Dk)/\ad [Wy,wn,wp,w2,w] jI| [some v3,none,none]=>∃(dR:Nat),v3= .slice (some ⟨dR,0,none⟩) 1 1/\L'=[Wy,wn,wp,w2,w]/\H'=book ([(dR,.cells #[.int .i64 x.at_] 3 (0,0)),(b6,.cells (dw x) 101 (0,0)),(b5,.cells #[r2.val (pre.map λd=>d.x).length] 46 (0,0)),(b4,.cells #[r1.val (pre.map λd=>d.at_).length] 44 (0,0))]++(r1.hp aj 3 (pre.map λd=>d.at_)++(r2.hp jQ 57 (pre.map λd=>d.x)++[]))) l {rec with state:=.busy} (bT Dk)/\ad [Wy,wn,wp,w2,w] dR| [some v3,none,some v8]=>∃(dR:Nat) (jI:Nat),v3= .slice (some ⟨dR,0,none⟩) 1 1/\v8= .slice (some ⟨jI,0,none⟩) 1 1/\L'=[Wy,wn,wp,w2,w]/\H'=book ([(jI,.cells (bC x.x) 57 (0,0)),(dR,.cells #[.int .i64 x.at_] 3 (0,0)),(b6,.cells (dw x) 101 (0,0)),(b5,.cells #[r2.val (pre.map λd=>d.x).length] 46 (0,0)),(b4,.cells #[r1.val (pre.map λd=>d.at_).length] 44 (0,0))]++(r1.hp aj 3 (pre.map λd=>d.at_)++(r2.hp jQ 57 (pre.map λd=>d.x)++[]))) l {rec with state:=.busy} (bT Dk)/\ad [Wy,wn,wp,w2,w] dR/\ad [Wy,wn,wp,w2,w] jI| [some v3,some v4,none]=>∃(dR:Nat) (ey:Nat) (fy:Nat) (gq:List Value),v3= .slice (some ⟨dR,0,none⟩) 1 1/\v4= .slice (some ⟨ey,0,none⟩) ((pre.map λd=>d.at_)++[x.at_]).length fy/\L'=[Wy,wn,wp,w2,w]/\H'=book ([(dR,.cells #[.int .i64 x.at_] 3 (0,0)),(b6,.cells (dw x) 101 (0,0)),(b5,.cells #[r2.val (pre.map λd=>d.x).length] 46 (0,0)),(b4,.cells #[r1.val (pre.map λd=>d.at_).length] 44 (0,0))]++((Rw.row ey fy gq).hp aj 3 ((pre.map λd=>d.at_)++[x.at_])++(r2.hp jQ 57 (pre.map λd=>d.x)++[]))) l {rec with state:=.busy} (bT Dk)/\ad [Wy,wn,wp,w2,w] dR/\(r1.isAt ey\/ad [Wy,wn,wp,w2,w] ey)/\(Rw.row ey fy gq).Fit 1 ((pre.map λd=>d.at_)++[x.at_])| [some v3,some v4,some v8]=>∃(dR:Nat) (ey:Nat) (fy:Nat) (gq:List Value) (jI:Nat),v3= .slice (some ⟨dR,0,none⟩) 1 1/\v4= .slice (some ⟨ey,0,none⟩) ((pre.map λd=>d.at_)++[x.at_]).length fy/\v8= .slice (some ⟨jI,0,none⟩) 1 1/\L'=[Wy,wn,wp,w2,w]/\H'=book ([(jI,.cells (bC x.x) 57 (0,0)),(dR,.cells #[.int .i64 x.at_] 3 (0,0)),(b6,.cells (dw x) 101 (0,0)),(b5,.cells #[r2.val (pre.map λd=>d.x).length] 46 (0,0)),(b4,.cells #[r1.val (pre.map λd=>d.at_).length] 44 (0,0))]++((Rw.row ey fy gq).hp aj 3 ((pre.map λd=>d.at_)++[x.at_])++(r2.hp jQ 57 (pre.map λd=>d.x)++[]))) l {rec with state:=.busy} (bT Dk)/\ad [Wy,wn,wp,w2,w] dR/\(r1.isAt ey\/ad [Wy,wn,wp,w2,w] ey)/\(Rw.row ey fy gq).Fit 1 ((pre.map λd=>d.at_)++[x.at_])/\ad [Wy,wn,wp,w2,w] jI|_=>False) zQ ⟨rfl,rfl⟩ zQ zQ zQ zQ zQ zQ rfl (qc WG (qc (by exact λcv L' H' _ _ hP=>X.val rfl rfl (al underlying101 rfl sizeOf3 rfl) R2) (qc WG (qk (qk (qc WG (qc (by exact λcv L' H' _ _ hP=>X.val rfl rfl (al underlying101 rfl sizeOf57 rfl) R2) (qc WG (qk (qn)))))))))) ?_ ?_
  ·refine nc rfl rfl rfl rfl ?_ ?_
   ·intro cv L' H' hl hr hP F Q' hk;obtain⟨x3,x4,x8,rfl⟩:=lT hl;rcases x3 with _|v3<;>rcases x4 with _|v4<;>rcases x8 with _|v8<;>try exact False.elim hP
    ·obtain⟨rfl,rfl⟩:=hP;refine Co ?_;intro dR ha ho;exact OJ.done (hk _ _ _ ⟨dR,rfl,rfl,rfl,ha⟩)
    ·obtain⟨jI,rfl,rfl,rfl,pO⟩:=hP;refine Co ?_;intro dR ha ho;refine OJ.perm (List.Perm.swap _ _ _) ?_;exact OJ.done (hk _ _ _ ⟨dR,jI,rfl,rfl,rfl,rfl,ha,pO⟩)
    ·exact aE
    ·exact aE
    ·exact aE
    exact aE
   refine nc rfl rfl rfl rfl ?_ ?_
   ·intro cv L' H' hl hr hP F Q' hk;obtain⟨x3,x4,x8,rfl⟩:=lT hl;rcases x3 with _|v3<;>rcases x4 with _|v4<;>rcases x8 with _|v8<;>try exact False.elim hP
    ·exact aE
    ·exact aE
    ·obtain⟨dR,rfl,rfl,rfl,gU⟩:=hP;refine pM (r:=r1) (xs:=(pre.map λd=>d.at_)) (zs:=[x.at_]) (enc:=aj) (m:=1) (H0:=[(dR,.cells #[.int .i64 x.at_] 3 (0,0)),(b6,.cells (dw x) 101 (0,0)),(b5,.cells #[r2.val (pre.map λd=>d.x).length] 46 (0,0)),(b4,.cells #[r1.val (pre.map λd=>d.at_).length] 44 (0,0))]) (H1:=(r2.hp jQ 57 (pre.map λd=>d.x)++[])++((l,.loop {rec with state:=.busy})::bT Dk)) wW Hl nw rfl rfl rfl rfl (dz.one (z:=x.at_) nw Hm underlying44 (bL.own (i:=0) rfl)) fQ (Rw.Fr_ext SS) zX JK ?_;intro ey fy gq jm fb;exact OJ.done (hk _ _ _ ⟨dR,ey,fy,gq,rfl,rfl,rfl,rfl,gU,jm,fb⟩)
    ·obtain⟨dR,jI,rfl,rfl,rfl,rfl,gU,pO⟩:=hP;refine pM (r:=r1) (xs:=(pre.map λd=>d.at_)) (zs:=[x.at_]) (enc:=aj) (m:=1) (H0:=[(jI,.cells (bC x.x) 57 (0,0)),(dR,.cells #[.int .i64 x.at_] 3 (0,0)),(b6,.cells (dw x) 101 (0,0)),(b5,.cells #[r2.val (pre.map λd=>d.x).length] 46 (0,0)),(b4,.cells #[r1.val (pre.map λd=>d.at_).length] 44 (0,0))]) (H1:=(r2.hp jQ 57 (pre.map λd=>d.x)++[])++((l,.loop {rec with state:=.busy})::bT Dk)) wW Hl nw rfl rfl rfl rfl (dz.one (z:=x.at_) nw Hm underlying44 (bL.own (i:=1) rfl)) fQ (Rw.Fr_ext SS) zX JK ?_;intro ey fy gq jm fb;exact OJ.done (hk _ _ _ ⟨dR,ey,fy,gq,jI,rfl,rfl,rfl,rfl,rfl,gU,jm,fb,pO⟩)
    ·exact aE
    exact aE
   refine nc rfl rfl rfl rfl ?_ ?_
   ·intro cv L' H' hl hr hP F Q' hk;obtain⟨x3,x4,x8,rfl⟩:=lT hl;rcases x3 with _|v3<;>rcases x4 with _|v4<;>rcases x8 with _|v8<;>try exact False.elim hP
    ·obtain⟨rfl,rfl⟩:=hP;refine zNg ?_;intro jI ha ho;exact OJ.done (hk _ _ _ ⟨jI,rfl,rfl,rfl,ha⟩)
    ·exact aE
    ·obtain⟨dR,rfl,rfl,rfl,gU⟩:=hP;refine zNg ?_;intro jI ha ho;exact OJ.done (hk _ _ _ ⟨dR,jI,rfl,rfl,rfl,rfl,gU,ha⟩)
    ·exact aE
    ·obtain⟨dR,ey,fy,gq,rfl,rfl,rfl,rfl,gU,jm,fb⟩:=hP;refine zNg ?_;intro jI ha ho;exact OJ.done (hk _ _ _ ⟨dR,ey,fy,gq,jI,rfl,rfl,rfl,rfl,rfl,gU,jm,fb,ha⟩)
    exact aE
   exact nn
  intro cv L' H' hl hr hP;obtain⟨x3,x4,x8,rfl⟩:=lT hl;rcases x3 with _|v3<;>rcases x4 with _|v4<;>rcases x8 with _|v8
  ·exact aE
  ·exact aE
  ·exact aE
  ·exact aE
  ·exact aE
  ·exact aE
  ·exact aE
  obtain⟨dR,ey,fy,gq,jI,rfl,rfl,rfl,rfl,rfl,gU,jm,fb,pO⟩:=hP;simp only[ad]at gU pO jm;refine pM (r:=r2) (xs:=(pre.map λd=>d.x)) (zs:=[x.x]) (enc:=jQ) (m:=36) (H0:=[(jI,.cells (bC x.x) 57 (0,0)),(dR,.cells #[.int .i64 x.at_] 3 (0,0)),(b6,.cells (dw x) 101 (0,0)),(b5,.cells #[r2.val (pre.map λd=>d.x).length] 46 (0,0)),(b4,.cells #[r1.val (pre.map λd=>d.at_).length] 44 (0,0))]++(Rw.row ey fy gq).hp aj 3 ((pre.map λd=>d.at_)++[x.at_])) (H1:=(l,.loop {rec with state:=.busy})::bT Dk) yr K2 naj rfl rfl rfl rfl (dz.one (z:=x.x) naj E7 underlying46 (bL.own (i:=0) rfl)) iw (Rw.Fr_ext acw) zX JK ?_;intro oM yI yJ qR sO;replace qR:=yb qR;refine bh (i:=4) rfl sizeOf44 rfl rfl rfl rfl rfl rfl ?_;refine bh (i:=3) rfl sizeOf46 rfl rfl rfl rfl rfl rfl ?_;refine B 2 ?_;refine Hp ?_;refine og ?_;refine JP (G2:=Gh.no) (Hc2:=[(b5,.cells #[(Rw.row oM yI yJ).val ((pre.map λd=>d.x)++[x.x]).length] 46 (0,0)),(b4,.cells #[(Rw.row ey fy gq).val ((pre.map λd=>d.at_)++[x.at_]).length] 44 (0,0))]++((Rw.row ey fy gq).hp aj 3 ((pre.map λd=>d.at_)++[x.at_])++((Rw.row oM yI yJ).hp jQ 57 ((pre.map λd=>d.x)++[x.x])++[]))) bM gM ⟨λ_ h=>h,λ_ h=>.inl h,λ_ h=>.inl h,(nko rfl (jm.imp id (λh=>h.1)) (qR.imp id (λh=>h.1))),(by intro p hp;simp only[cI,fu,or_false]at hp;rcases hp with rfl|rfl<;>exact .inl zX)⟩ (JQ lN qB) ?_
  exact⟨rfl,.row ey fy gq,.row oM yI yJ,jm.elim (λh=>Rw.Fr_at mr h) (λh=>.inr h.2),by rw[gP];exact fb,qR.elim (λh=>Rw.Fr_at gm h) (λh=>.inr h.2),by rw[gP];exact sO,by rw[gP,gP];rfl⟩
 ·rintro i6 l Dk rec G' Hc Zf Wd ⟨cB,Ij⟩ hZf dZ gM ⟨rfl,r1,r2,mr,fQ,gm,iw,rfl⟩;replace dZ:=yb dZ;have kR:r1.ge wn.heap.size:=Rw.ge_of mr A0;have dE:r2.ge wn.heap.size:=Rw.ge_of gm A0;refine Qw λWe hSe=>?_;have kI:=Nk hSe;refine B 3 ?_;refine ng (E':=[(0,_),(1,_),(2,_),(4,_),(5,_),(7,_),(8,_),(9,_),(10,_)]) zR ?_;refine RM 3 [2] [([],some (r1.val (i6.map λd=>d.at_).length)),([],some (r2.val (i6.map λd=>d.x).length)),([0],none)] (λcv L' H'=>match cv with| []=>L'=[Wd,wn,wp,w2,w]/\H'=book ([(b5,.cells #[r2.val (i6.map λd=>d.x).length] 46 (0,0)),(b4,.cells #[r1.val (i6.map λd=>d.at_).length] 44 (0,0))]++(r1.hp aj 3 (i6.map λd=>d.at_)++(r2.hp jQ 57 (i6.map λd=>d.x)++[]))) l rec (bT Dk)| [v1]=>v1= .tuple #[]/\L'=[Wd,wn,wp,w2,w]/\H'=book ([(b5,.cells #[r2.val (i6.map λd=>d.x).length] 46 (0,0)),(b4,.cells #[r1.val (i6.map λd=>d.at_).length] 44 (0,0))]++(r1.hp aj 3 (i6.map λd=>d.at_)++(r2.hp jQ 57 (i6.map λd=>d.x)++[]))) l rec (bT Dk)|_=>False) zQ ⟨rfl,rfl⟩ zQ zQ zQ zQ zQ zQ zQ (pc CN (pc CN (pk (pn)))) ?_ ?_
  ·refine ss rfl rfl ?_ ?_
   ·intro cv L' H' hl hP F Q' hk;obtain rfl:=iZ hl;obtain⟨rfl,rfl⟩:=hP;refine bh (i:=1) rfl sizeOf44 rfl rfl rfl (Rw.val_size _ _) rfl (Rw.val_one _ _) ?_;refine OJ.reH (H':=book ([(b5,.cells #[r2.val (i6.map λd=>d.x).length] 46 (0,0)),(b4,.cells #[r1.val (i6.map λd=>d.at_).length] 44 (0,0))]++(r1.hp aj 3 (i6.map λd=>d.at_)++(r2.hp jQ 57 (i6.map λd=>d.x)++[]))) l rec (bT Dk)) (by simp[book];exact Rw.val_cells _ _) ?_;exact OJ.done (hk (.tuple #[]) _ _ ⟨rfl,rfl,rfl⟩)
   exact Wf
  intro cv L' H' hl hP;obtain⟨v1,rfl⟩:=cM hl;obtain⟨rfl,rfl,rfl⟩:=hP;refine bh (i:=0) rfl sizeOf46 rfl rfl rfl (Rw.val_size _ _) rfl (Rw.val_one _ _) ?_;refine B 3 ?_;refine PJ.reH (H':=book ([(b5,.cells #[r2.val (i6.map λd=>d.x).length] 46 (0,0)),(b4,.cells #[r1.val (i6.map λd=>d.at_).length] 44 (0,0))]++(r1.hp aj 3 (i6.map λd=>d.at_)++(r2.hp jQ 57 (i6.map λd=>d.x)++[]))) l rec (bT Dk)) (by simp[book];exact Rw.val_cells _ _) ?_;refine Sy (.inl rfl) results11 isAgg44 isAgg46 rfl rfl wW A1 A0 (kI _ A1).1 (kI _ A0).1 rfl rfl (λW H' hS bO bV=>?_);have K7:r1.At aj 3 (i6.map λd=>d.at_) W:=by
   cases r1 with
   |nil=>trivial
   |row b cap sp=>exact hS.own (b,_) (bV _ (by simp[book,Rw.hp]) (kI _ ud).1)
  have K8:r2.At jQ 57 (i6.map λd=>d.x) W:=by
   cases r2 with
   |nil=>trivial
   |row b cap sp=>exact hS.own (b,_) (bV _ (by simp[book,Rw.hp]) (kI _ ud).1)
  obtain⟨a1,c1,tY,Ff⟩:=Rw.sl nw fQ K7 (ao W.heap.size);obtain⟨a2,c2,yn,hs2⟩:=Rw.sl naj iw K8 (ao W.heap.size);refine⟨(((a1,c1),(a2,c2)),i6),?_,?_,cB,Ff,hs2,Rw.val_new (Rw.ge_mono kR zJ) tY,Rw.val_new (Rw.ge_mono dE zJ) yn,λd hd=>⟨(Ij d hd).1.toZ hS A0 (ao _) dx.none (λp hp=>?_),(Ij d hd).2.2⟩⟩
  ·show Ending.returned (.tuple #[r1.val _,r2.val _])=_;rw[tY,yn];simp
  ·exact(hS.links w A4).below (λk hk hx=>by rcases hx with hx|hx;(exact hx);rw[bO]at hx;simp only[book,gP,eh,iB,cQ,cI,fu,or_false]at hx;rcases hx with((hx|hx)|hx|hx)|hx|hx<;>first|omega|(have:=Rw.mem_ge kR hx;omega)|(have:=Rw.mem_ge dE hx;omega))
  have h9:p.1∈H'.map (·.1):=bW.2 ⟨p,hp,rfl⟩;rw[bO]at h9;obtain⟨p2,rN,e9⟩:=bW.1 h9;rw[<-e9];exact(Ij d hd).2.1.off (hZf p2 rN)
 exact UY
theorem eI.find{α:Type}{p:α->Bool}{xs:List α}{x:α}(fN:eI p xs k)(hk:xs[k]? =some x)(hp:p x=true):xs.find? p=some x:=by
 rw[List.find?_eq_some_iff_getElem];obtain⟨hl,he⟩:=gi.1 hk;refine⟨hp,k,hl,he,λj hj=>?_⟩;have:=fN j xs[j] hj (gB zJ);simpa using this
theorem FO{α:Type}{p:α->Bool}{xs:List α}(h:xs.any p=false):xs.find? p=none:=by
 rw[List.find?_eq_none];intro x hx;have:=List.any_eq_false.1 h x hx;simpa using this
open Classical in
noncomputable def FP (Z:Fx) (cs:List Cm) (fo:Fo):List (Nat×Gp):=if h:∃l,my Z cs fo l then h.choose else[]
theorem FQ{cs:List Cm}{l:List (Nat×Gp)}(h:my Z cs fo l):FP Z cs fo=l:=by
 have h2:∃l,my Z cs fo l:=⟨l,h⟩;unfold FP;rw[dif_pos h2];exact h2.choose_spec.uniq h
noncomputable def vH (Z:Fx) (s:Sc) (d:Int):List Gp:=match s.fos.find? (λf=>decide (f.id=d))with
 |some fo=>(FP Z s.cs fo).map (·.2)
 |none=>[]
theorem SU(h:s.fos.any (λf=>decide (f.id=d))=false):vH Z s d=[]:=by
 unfold vH;rw[FO h]
theorem LO{ds:List Cd}(fN:eI (λf=>decide (f.id=d)) s.fos k)(hk:s.fos[k]? =some fo)(hp:decide (fo.id=d)=true)(hc:my Z s.cs fo (ds.map p5)):vH Z s d=ds.map λd=>d.x.g:=by
 unfold vH;rw[fN.find hk hp];show(FP Z s.cs fo).map (·.2)=_;rw[FQ hc,List.map_map];rfl
theorem St.ro{MI RO V:aB}{hM:∀k,M k->k<W.heap.size/\¬MI k/\¬RO k}{hI:dW (λk=>(k<W.heap.size/\¬MI k)\/V k) I}(hS:St (cF hM V hI) L H W')(hw:W∈L)(hV:∀k,V k->W.heap.size<=k)(ho:Over W.heap.size H)(hk:RO k)(Wg:k<W.heap.size):W'.heap[k]? =W.heap[k]? :=by
 refine(hS.links W hw).block k Wg ?_;rintro((h1|h1)|h1)
 ·exact(hM k h1).2.2 hk
 ·have:=hV k h1;omega
 obtain⟨p,hp,rfl⟩:=bW.1 h1;have:=ho.mem p hp;omega
theorem Glb.up{w:World}(h:Glb w)(hB:∀k,k<5->W.heap[k]? =w.heap[k]?):Glb W:=by
 obtain⟨⟨t,fr,h0⟩,t2,ql,h2⟩:=h;exact⟨⟨t,fr,(hB _ zO).trans h0⟩,t2,ql,(hB _ zO).trans h2⟩
def SV (N b1 b2:Nat):aB:=λk=>k<N\/k=b1\/k=b2
theorem nWl(p:Fo->Bool)(f:Nat)(cap:List Value)(az:dP prog f)(xs:List Fo)(cj:xs.length<=1000000)(N:Nat)(a:Option Addr)(cp:Nat)(w:World)(hN:N<=w.heap.size)(aH:ag qw 33 N w a xs)(hp:∀(j:Nat) (x:Fo),xs[j]? =some x->∀W,Below w.heap.size w W->Calls prog f (.agg (qw x)::cap).toArray W (ay W (.bool (p x)))):Calls prog 84 #[.slice a xs.length cp,.func (.func f) #[] cap.toArray] w (cJ w (λi:Int=>.int .i64 i) (λi _=>du p xs i)):=by
 refine enter (vs:=[_,_]) func84 rfl ntmps84 rfl ?_;refine Nw ?_;rintro j ⟨hj,dm⟩;refine B 6 ?_;refine aG ?_ ?_
 ·intro ah;refine B 11 ?_;obtain⟨bo,oo,cs0,to,fk,rfl,fE,hcs,ar⟩:=aH.get zJ;obtain⟨x,hx⟩:=nj xs j zJ;refine B 5 ?_;refine rq (.agg (qw x)) (ai isAgg50 sizeOf50 rfl A0 hcs zU trivial (nk ar hx rfl)) (va (nr ar hx rfl)) ?_;refine Nx ?_;refine aG ?_ ?_
  ·intro aJ;refine B 12 ?_;refine kH (j:Int) results84 rfl A0 rfl ?_;exact Ny
  exact Kg
 intro ah;refine B 11 ?_;refine kH (-1:Int) results84 rfl A0 rfl ?_;exact Kh
theorem npo(d:Int)(b:Nat)(x:Fo)(w:World)(aQ:w.heap[b]? =some (.cells #[.int .i64 d] 3 (0,0))):Calls prog 85 #[.agg (qw x),ptr b 0] w (ay w (.bool (decide (x.id=d)))):=by
 have aX:¬Gh.no.X b:=λh=>h;have mE:=(aT.1 aQ).1;refine enter (vs:=[_,_]) func85 rfl ntmps85 rfl ?_;refine B 2 ?_;refine yX ?_;intro b2 w2 aU aN dY cR cX;refine B 6 ?_;refine rr (.int .i64 x.id) (aa isAgg3 rfl A0 aU aN trivial rfl) ?_;refine B 6 ?_;refine ax results85 rfl A1 ?_;rfl
theorem nsk(s:Sc)(d:Int)(w:World):Calls prog 41 #[.agg (kS s),.int .i64 d] w (cJ w (λq:Nat×Nat=>.func (.func 83) #[] #[ptr q.1 0,ptr q.2 0]) (λq w1=>w.heap.size<=q.1/\w.heap.size<=q.2/\w1.heap[q.1]? =some (.cells (kS s) 81 (0,0))/\w1.heap[q.2]? =some (.cells #[.int .i64 d] 3 (0,0)))):=by
 refine enter (vs:=[_,_]) func41 rfl ntmps41 rfl ?_;refine B 2 ?_;refine yX ?_;intro b2 w2 aU aN dY cR cX;refine yX ?_;intro b3 w3 aM aD da cd cP;refine B 10 ?_;refine kH (b2,b3) results41 rfl A2 rfl ?_;exact zrj
theorem nkm(hZ:FxOk Z)(s:Sc)(ho:gJ s)(N:Nat)(d:Int)(b1 b2:Nat)(W:World)(hN:N<=W.heap.size)(hNg:5<=N)(hs:eu N W s)(hg:Glb W)(aQ:W.heap[b1]? =some (.cells (kS s) 81 (0,0)))(aU:W.heap[b2]? =some (.cells #[.int .i64 d] 3 (0,0))):uF prog 83 [ptr b1 0,ptr b2 0] (λg:Gv=>[.agg (bC g)]) (λ(p:List Gv) (Y:aB) (A:World)=>(p.map (·.g) <+:vH Z s d/\p.length<=1000)/\∀e∈p,aL A.heap.size A e/\dx Y e) (λ(p:List Gv) (_:aB) (_:World)=>p.map (·.g)=vH Z s d/\p.length<=1000) (λ_=>False) (SV N b1 b2) W:=by
 intro l M I X0 hM hI hX hy h0;have aX:¬(cF hM (λ_=>False) (hI [] _)).X b1:=by rintro(h|h);exact(hM _ h).2.2 (.inr (.inl rfl));exact h.elim
 have aN:¬(cF hM (λ_=>False) (hI [] _)).X b2:=by rintro(h|h);exact(hM _ h).2.2 (.inr (.inr rfl));exact h.elim
 have mE:=(aT.1 aQ).1;have Hy:=(aT.1 aU).1;refine nL (cF hM (λ_=>False) (hI [] _)) [] (vs:=[_,_,_]) func83 rfl ntmps83 rfl (JI hM (hI [] _) h0 zX (by simp[jk]) zX) ?_;refine B 4 ?_;refine rr (.slice s.fa s.fos.length s.fc) (aa isAgg22 rfl A0 aQ aX trivial rfl) ?_;refine B 1 ?_;refine nB (α:=Int) (v:=λi:Int=>.int .i64 i) (Φ:=λ_ i _=>du (λx=>decide (x.id=d)) s.fos i) call84 rfl rfl rfl (λW9 hS=>nWl (λx=>decide (x.id=d)) 85 [ptr b2 0] call85 s.fos (by have:=ho.fo;omega) N s.fa s.fc W9 (aR hN (hS.links W A0).size) (hs.fo.up (ao _) (λk hk=>hS.ro A0 (λ_ h=>h.elim) True.intro (.inl hk) zJ)) (λj x hx W2 hB=>npo d b2 x W2 (by have h2:=(hS.links W A0).size;rw[hB.block b2 zJ];exact hS.old A0 aU aN trivial))) ?_;intro Wi i wi sV sW hi;refine B 5 ?_;rcases hi with⟨rfl,ir⟩|⟨k,x0,rfl,il,zB,fN⟩
 ·refine B 2 ?_;refine He ?_;refine B 5 ?_;exact SP (Fin:=(λ(p:List Gv) (_:aB) (_:World)=>p.map (·.g)=vH Z s d/\p.length<=1000)) (.inl rfl) results83 A1 (λ_ h=>h.elim) (by intro k hk hx;simp at hx;try omega) (λA SQ hA=>.inl ⟨[],⟨by rw[SU ir];rfl,db _⟩,hA⟩)
 obtain⟨bo,oo,cs0,to,fk,im,fE,hcs,ar⟩:=hs.fo.get (by have:=nE il;omega);have kK:=nE il;have hmo:¬(cF hM (λ_=>False) (hI [] _)).X bo:=by rintro(h|h);exact(hM _ h).2.2 (.inl fE);exact h.elim
 refine Jr ?_;refine B 6 ?_;refine ng (E':=[(0,_),(1,_),(2,_),(4,_),(9,_),(10,_),(11,_),(12,_),(13,_),(14,_),(15,_)]) zR ?_;refine P2 14 [9,10,11,12,13] [([],some _),([0],some _),([1],some (.slice (some ⟨bo,oo,none⟩) s.fos.length s.fc)),([],some _),([2,3],some _),([4],some (.agg (qw x0))),([],some _),([6],some _),([7],some (.slice s.la s.cs.length s.lc)),([5,8],none),([9],none),([10],none),([10],none),([11],none)] [[],[0],[0,1],[0,1],[0,1,2]] (λcv L' H'=>match cv with| [none,none,none,none,none]=>L'=[wi,W]/\H'=[]| [some v9,none,none,none,none]=>∃(a1:Option Addr) (c1:Nat) (a2:Option Addr) (c2:Nat) (ds:List Cd) (w9:World),v9= .tuple #[.slice a1 ds.length c1,.slice a2 ds.length c2]/\L'=[w9,wi,W]/\H'=[]/\my Z s.cs x0 (ds.map p5)/\ds.length<=s.cs.length/\ag (λx=>(jQ x).toArray) 36 w9.heap.size w9 a2 (ds.map λd=>d.x)/\(∀d∈ds,aL w9.heap.size w9 d.x/\aS W.heap.size d.x)/\(∀p,a2=some p->W.heap.size<=p.block)/\W.heap.size<=w9.heap.size| [some v9,some v10,none,none,none]=>∃(a1:Option Addr) (c1:Nat) (a2:Option Addr) (c2:Nat) (ds:List Cd) (w9:World),v9= .tuple #[.slice a1 ds.length c1,.slice a2 ds.length c2]/\v10= .tuple #[.slice a1 ds.length c1,.slice a2 ds.length c2]/\L'=[w9,wi,W]/\H'=[]/\my Z s.cs x0 (ds.map p5)/\ds.length<=s.cs.length/\ag (λx=>(jQ x).toArray) 36 w9.heap.size w9 a2 (ds.map λd=>d.x)/\(∀d∈ds,aL w9.heap.size w9 d.x/\aS W.heap.size d.x)/\(∀p,a2=some p->W.heap.size<=p.block)/\W.heap.size<=w9.heap.size| [some v9,some v10,none,some v12,none]=>∃(a1:Option Addr) (c1:Nat) (a2:Option Addr) (c2:Nat) (ds:List Cd) (w9:World),v9= .tuple #[.slice a1 ds.length c1,.slice a2 ds.length c2]/\v10= .tuple #[.slice a1 ds.length c1,.slice a2 ds.length c2]/\v12= .slice a2 ds.length c2/\L'=[w9,wi,W]/\H'=[]/\my Z s.cs x0 (ds.map p5)/\ds.length<=s.cs.length/\ag (λx=>(jQ x).toArray) 36 w9.heap.size w9 a2 (ds.map λd=>d.x)/\(∀d∈ds,aL w9.heap.size w9 d.x/\aS W.heap.size d.x)/\(∀p,a2=some p->W.heap.size<=p.block)/\W.heap.size<=w9.heap.size| [some v9,some v10,some v11,none,none]=>∃(a1:Option Addr) (c1:Nat) (a2:Option Addr) (c2:Nat) (ds:List Cd) (w9:World),v9= .tuple #[.slice a1 ds.length c1,.slice a2 ds.length c2]/\v10= .tuple #[.slice a1 ds.length c1,.slice a2 ds.length c2]/\v11= .slice a1 ds.length c1/\L'=[w9,wi,W]/\H'=[]/\my Z s.cs x0 (ds.map p5)/\ds.length<=s.cs.length/\ag (λx=>(jQ x).toArray) 36 w9.heap.size w9 a2 (ds.map λd=>d.x)/\(∀d∈ds,aL w9.heap.size w9 d.x/\aS W.heap.size d.x)/\(∀p,a2=some p->W.heap.size<=p.block)/\W.heap.size<=w9.heap.size| [some v9,some v10,some v11,none,some jW]=>∃(a1:Option Addr) (c1:Nat) (a2:Option Addr) (c2:Nat) (ds:List Cd) (w9:World),v9= .tuple #[.slice a1 ds.length c1,.slice a2 ds.length c2]/\v10= .tuple #[.slice a1 ds.length c1,.slice a2 ds.length c2]/\v11= .slice a1 ds.length c1/\jW= .slice a1 ds.length c1/\L'=[w9,wi,W]/\H'=[]/\my Z s.cs x0 (ds.map p5)/\ds.length<=s.cs.length/\ag (λx=>(jQ x).toArray) 36 w9.heap.size w9 a2 (ds.map λd=>d.x)/\(∀d∈ds,aL w9.heap.size w9 d.x/\aS W.heap.size d.x)/\(∀p,a2=some p->W.heap.size<=p.block)/\W.heap.size<=w9.heap.size| [some v9,some v10,some v11,some v12,none]=>∃(a1:Option Addr) (c1:Nat) (a2:Option Addr) (c2:Nat) (ds:List Cd) (w9:World),v9= .tuple #[.slice a1 ds.length c1,.slice a2 ds.length c2]/\v10= .tuple #[.slice a1 ds.length c1,.slice a2 ds.length c2]/\v11= .slice a1 ds.length c1/\v12= .slice a2 ds.length c2/\L'=[w9,wi,W]/\H'=[]/\my Z s.cs x0 (ds.map p5)/\ds.length<=s.cs.length/\ag (λx=>(jQ x).toArray) 36 w9.heap.size w9 a2 (ds.map λd=>d.x)/\(∀d∈ds,aL w9.heap.size w9 d.x/\aS W.heap.size d.x)/\(∀p,a2=some p->W.heap.size<=p.block)/\W.heap.size<=w9.heap.size| [some v9,some v10,some v11,some v12,some jW]=>∃(a1:Option Addr) (c1:Nat) (a2:Option Addr) (c2:Nat) (ds:List Cd) (w9:World),v9= .tuple #[.slice a1 ds.length c1,.slice a2 ds.length c2]/\v10= .tuple #[.slice a1 ds.length c1,.slice a2 ds.length c2]/\v11= .slice a1 ds.length c1/\v12= .slice a2 ds.length c2/\jW= .slice a1 ds.length c1/\L'=[w9,wi,W]/\H'=[]/\my Z s.cs x0 (ds.map p5)/\ds.length<=s.cs.length/\ag (λx=>(jQ x).toArray) 36 w9.heap.size w9 a2 (ds.map λd=>d.x)/\(∀d∈ds,aL w9.heap.size w9 d.x/\aS W.heap.size d.x)/\(∀p,a2=some p->W.heap.size<=p.block)/\W.heap.size<=w9.heap.size|_=>False) zQ ⟨rfl,rfl⟩ zQ zQ zQ zQ zQ zQ rfl (qc (by exact λcv L' H' _ _ hP=>X.val rfl rfl (al underlying81 rfl sizeOf31 rfl) R2) (qc (by exact λcv L' H' _ _ hP=>X.val rfl rfl (al underlying31 rfl sizeOf22 rfl) R2) (qc zcF (qc R4 (qc (by exact λcv L' H' _ _ hP=>X.val rfl rfl (cD underlying22 sizeOf50 rfl rfl zJ zJ) R2) (qc zcF (qc (by exact λcv L' H' _ _ hP=>X.val rfl rfl (al underlying81 rfl sizeOf31 rfl) R2) (qc (by exact λcv L' H' _ _ hP=>X.val rfl rfl (al underlying31 rfl sizeOf24 rfl) R2) (qc zcF (qk (qk (qk (qk (qk (qn))))))))))))))) ?_ ?_
 ·refine nc rfl rfl rfl rfl ?_ ?_
  ·intro cv L' H' hl hr hP F Q' hk;obtain⟨x9,lB,lJ,eY,ix,rfl⟩:=gT hl;rcases x9 with _|v9<;>rcases lB with _|v10<;>rcases lJ with _|v11<;>rcases eY with _|v12<;>rcases ix with _|jW<;>try exact False.elim hP
   ·obtain⟨rfl,rfl⟩:=hP;refine nB (α:=((Option Addr×Nat)×(Option Addr×Nat))×List Cd) (v:=λq=>.tuple #[.slice q.1.1.1 q.2.length q.1.1.2,.slice q.1.2.1 q.2.length q.1.2.2]) (Φ:=λWc q w1=>(my Z s.cs x0 (q.2.map p5)/\q.2.length<=s.cs.length)/\ag (λx=>(aj x).toArray) 1 w1.heap.size w1 q.1.1.1 (q.2.map λd:Cd=>d.at_)/\ag (λx=>(jQ x).toArray) 36 w1.heap.size w1 q.1.2.1 (q.2.map λd:Cd=>d.x)/\(∀p,q.1.1.1=some p->Wc.heap.size<=p.block)/\(∀p,q.1.2.1=some p->Wc.heap.size<=p.block)/\∀d∈q.2,aL w1.heap.size w1 d.x/\aS Wc.heap.size d.x) call11 rfl rfl rfl (λW9 hS=>n2i hZ s.cs ho.cl ho.cg N s.la s.lc W9 (aR hN (hS.links W A1).size) (hs.cs.up (ao _) (λk hk=>hS.ro A1 (λ_ h=>h.elim) True.intro (.inl hk) zJ)) (λc hc=>(hs.cm c hc).up (ao _) (λk hk=>hS.ro A1 (λ_ h=>h.elim) True.intro (.inl hk) zJ)) x0 (hg.up (λk hk=>hS.ro A1 (λ_ h=>h.elim) True.intro (.inl zJ) zJ))) ?_;rintro Wc ⟨⟨⟨a1,c1⟩,⟨a2,c2⟩⟩,ds⟩ w9 vh Ex ⟨⟨jb,jc⟩,_,fw,_,h6,h7⟩;try dsimp only at jb jc fw h6 h7
    have sS:=(vh.links W A1).size;have Xy:=Ex.size;have lG:W.heap.size<=w9.heap.size:=by omega
    have gg:∀d∈ds,aL w9.heap.size w9 d.x/\aS W.heap.size d.x:=λd hd=>⟨(h7 d hd).1,(h7 d hd).2.mono sS⟩;have pI:∀p,a2=some p->W.heap.size<=p.block:=λp hp=>aR sS (h6 p hp);exact OJ.done (hk _ _ _ ⟨a1,c1,a2,c2,ds,w9,rfl,rfl,rfl,jb,jc,fw,gg,pI,lG⟩)
   ·exact aE
   ·exact aE
   ·exact aE
   ·exact aE
   ·exact aE
   ·exact aE
   exact aE
  refine nc rfl rfl rfl rfl ?_ ?_
  ·intro cv L' H' hl hr hP F Q' hk;obtain⟨x9,lB,lJ,eY,ix,rfl⟩:=gT hl;rcases x9 with _|v9<;>rcases lB with _|v10<;>rcases lJ with _|v11<;>rcases eY with _|v12<;>rcases ix with _|jW<;>try exact False.elim hP
   ·exact aE
   ·obtain⟨a1,c1,a2,c2,ds,w9,rfl,rfl,rfl,jb,jc,fw,gg,pI,lG⟩:=hP;refine B 1 ?_;exact OJ.done (hk _ _ _ ⟨a1,c1,a2,c2,ds,w9,rfl,rfl,rfl,rfl,jb,jc,fw,gg,pI,lG⟩)
   ·exact aE
   ·exact aE
   ·exact aE
   ·exact aE
   ·exact aE
   exact aE
  refine nc rfl rfl rfl rfl ?_ ?_
  ·intro cv L' H' hl hr hP F Q' hk;obtain⟨x9,lB,lJ,eY,ix,rfl⟩:=gT hl;rcases x9 with _|v9<;>rcases lB with _|v10<;>rcases lJ with _|v11<;>rcases eY with _|v12<;>rcases ix with _|jW<;>try exact False.elim hP
   ·exact aE
   ·exact aE
   ·exact zbj
   ·exact zOi
   ·exact aE
   ·exact aE
   ·exact aE
   exact aE
  refine nc rfl rfl rfl rfl ?_ ?_
  ·intro cv L' H' hl hr hP F Q' hk;obtain⟨x9,lB,lJ,eY,ix,rfl⟩:=gT hl;rcases x9 with _|v9<;>rcases lB with _|v10<;>rcases lJ with _|v11<;>rcases eY with _|v12<;>rcases ix with _|jW<;>try exact False.elim hP
   ·exact aE
   ·exact aE
   ·exact zbj
   ·exact aE
   ·exact zOi
   ·exact z8i
   ·exact aE
   exact aE
  refine nc rfl rfl rfl rfl ?_ ?_
  ·intro cv L' H' hl hr hP F Q' hk;obtain⟨x9,lB,lJ,eY,ix,rfl⟩:=gT hl;rcases x9 with _|v9<;>rcases lB with _|v10<;>rcases lJ with _|v11<;>rcases eY with _|v12<;>rcases ix with _|jW<;>try exact False.elim hP
   ·exact aE
   ·exact aE
   ·exact aE
   ·exact aE
   ·exact zOi
   ·exact aE
   ·exact z8i
   exact aE
  exact nn
 intro cv L' H' hl hr hP;obtain⟨x9,lB,lJ,eY,ix,rfl⟩:=gT hl;rcases x9 with _|v9<;>rcases lB with _|v10<;>rcases lJ with _|v11<;>rcases eY with _|v12<;>rcases ix with _|jW
 ·exact aE
 ·exact aE
 ·exact aE
 ·exact aE
 ·exact aE
 ·exact aE
 ·exact aE
 ·exact aE
 ·exact aE
 ·exact aE
 ·exact aE
 ·exact aE
 ·exact aE
 ·exact aE
 ·exact aE
 ·exact aE
 ·exact aE
 ·exact aE
 ·exact aE
 ·exact aE
 ·exact aE
 ·exact aE
 ·exact aE
 ·exact aE
 ·exact aE
 ·exact aE
 ·exact aE
 ·exact aE
 ·exact aE
 ·exact aE
 ·exact aE
 obtain⟨a1,c1,a2,c2,ds,w9,rfl,rfl,rfl,rfl,rfl,rfl,rfl,jb,jc,fw,gg,pI,lG⟩:=hP;obtain⟨gs,WH⟩:∃gs,gs=ds.map (λd=>d.x):=⟨_,rfl⟩;have Ul:ds.length=gs.length:=by rw[WH,fp]
 have acA:gs.length<=1000:=by have:=ho.cl;omega
 replace fw:ag bC 36 w9.heap.size w9 a2 gs:=by rw[WH];exact fw
 have Ij:∀e∈gs,aL w9.heap.size w9 e/\aS W.heap.size e:=by rw[WH];intro e he;obtain⟨d,hd,rfl⟩:=bW.1 he;exact gg d hd
 have hgr:vH Z s d=gs.map (·.g):=by rw[LO fN il zB jb,WH,List.map_map];rfl
 refine B 11 ?_;refine CJ.loop (α:=Nat×aB) (λp=>[(0,yv l),(29,.slice a2 ds.length c2),(30,.int .i64 (ds.length:Int)),(31,.int .i64 (p.1:Int))]) (λp=>[]) (λp=>[w9,W]) (λp=>cF hM p.2 (hI (gs.take p.1) p.2)) (λp=>p.1<=gs.length/\∀k,p.2 k->w9.heap.size<=k) (λp=>gs.length-p.1) (0,λ_=>False) ⟨db _,λ_ h=>h.elim⟩ zR rfl rfl zX ?_;rintro⟨j,V⟩ ⟨hj,hV⟩;dsimp only at hj hV ⊢;refine B 6 ?_;refine aG ?_ ?_
 ·intro ah;refine B 5 ?_;obtain⟨bo2,oo2,cs2,to2,ql,rfl,afH,acB,SX⟩:=fw.get zJ;obtain⟨x,hx⟩:=nj gs j zJ;have acC:¬(cF hM V (hI (gs.take j) V)).X bo2:=by rintro(h|h);(have h5:=(hM _ h).1;have h6:=pI _ rfl;dsimp only at h6;omega);(have:=hV _ h;omega)
  have Oa:gs.take j++[x]=gs.take (j+1):=(nC hx).symm;have hin:∀e∈gs.take j++[x],e∈gs:=by rw[Oa];exact λe he=>List.mem_of_mem_take he
  have SY:∀e∈gs,dx (λk=>M k\/V k) e:=λe he=>((Ij e he).2.out (λk hk=>(hM k hk).1)).up (Ij e he).1 (λk hk=>hk.elim .inl (λh=>.inr (hV k h)));refine B 2 ?_;refine rq (.agg (bC x)) (ai isAgg57 sizeOf57 rfl A0 acB acC trivial (nk SX hx rfl)) (va (nr SX hx rfl)) ?_;refine rL ?_;refine yW ?_;intro b8 vU vV;refine NM ?_;refine rr (.agg (bC x)) (aO (i:=0) rfl isAgg57 sizeOf57 rfl rfl) ?_;refine Ii (λ_=>False) id Kt (V:=V) (λV=>hI (gs.take j++[x]) V) hX (λk hk=>aR lG (hV k hk)) rfl rfl rfl rfl (λW1 lC Rf kJ=>hy (gs.take j) x V W1 ⟨⟨by rw[hgr,Oa];exact(List.take_prefix _ _).map _,by rw[Oa,jD];have:=ho.cl;omega⟩,λe he=>⟨(Ij e (hin e he)).1.toZ lC A0 (ao _) (SY e (hin e he)) (λp hp=>by rw[qi.1 hp];exact(Ij e (hin e he)).1.off dG),SY e (hin e he)⟩⟩ Rf kJ) ?_ ?_
  ·intro V2 Cv sT;have p7:∀k,V2 k->w9.heap.size<=k:=λk hk=>by rcases sT w9 A0 k hk with h|h;(exact hV k h);exact h
   refine B 11 ?_;refine og ?_;refine PJ.again (j+1,V2) ⟨by dsimp only;omega,p7⟩ dG zR rfl (by dsimp only;rw[nC hx];rfl) zX
  intro V2 Cv sT;have p7:∀k,V2 k->w9.heap.size<=k:=λk hk=>by rcases sT w9 A0 k hk with h|h;(exact hV k h);exact h
  refine B 9 ?_;exact SP (Fin:=(λ(p:List Gv) (_:aB) (_:World)=>p.map (·.g)=vH Z s d/\p.length<=1000)) (.inl rfl) results83 A1 (λk hk=>aR lG (p7 k hk)) (by intro k hk hx;simp at hx;try omega) (λA SQ hA=>.inr hA)
 intro ah;refine B 4 ?_;exact SP (Fin:=(λ(p:List Gv) (_:aB) (_:World)=>p.map (·.g)=vH Z s d/\p.length<=1000)) (.inr rfl) results83 A1 (λk hk=>aR lG (hV k hk)) (by intro k hk hx;simp at hx;try omega) (λA SQ hA=>.inl ⟨gs,⟨by rw[hgr],acA⟩,by rw[show j=gs.length by omega,JU]at hA;exact hA⟩)
noncomputable def Ik (Z:Fx) (s:Sc) (lk:Lk):Bool:=(vH Z s lk.fo).any λg=>Ih Z g.ms lk.by_ (eG Z lk) lk.sr lk.ss
theorem njj(hZ:FxOk Z)(s:Sc)(ho:gJ s)(N:Nat)(w:World)(hN:N<=w.heap.size)(hs:eu N w s)(lk:Lk)(hlk:cY lk)(hg:Glb w):Calls prog 35 #[.agg (kS s),.agg (lkC lk)] w (ay w (.bool (Ik Z s lk))):=by
 have eE:=hg.lt;refine B1 Gh.no [] (vs:=[_,_]) func35 rfl ntmps35 rfl (uK w) ?_;refine B 2 ?_;refine yX ?_;intro b2 w2 aU aN dY cR cX;refine yX ?_;intro b3 w3 aM aD da cd cP;refine aZ zeroValue4 rfl rfl ?_;refine yW ?_;intro b4 dO dU;refine B 5 ?_;refine rr (.agg (kS s)) (ae isAgg81 sizeOf81 rfl A1 aU aN zI rfl) ?_;refine B 2 ?_;refine rr (.int .i64 lk.fo) (aa isAgg3 rfl A0 aM aD zI rfl) ?_;refine nB (α:=Nat×Nat) (v:=λq:Nat×Nat=>.func (.func 83) #[] #[ptr q.1 0,ptr q.2 0]) (Φ:=λW q w1=>W.heap.size<=q.1/\W.heap.size<=q.2/\w1.heap[q.1]? =some (.cells (kS s) 81 (0,0))/\w1.heap[q.2]? =some (.cells #[.int .i64 lk.fo] 3 (0,0))) call41 rfl rfl rfl (λW hS=>nsk s lk.fo W) ?_;rintro Wn q wn lp q4 ⟨jb,jc,fw,gg⟩;try dsimp only at jb jc fw gg
 have yY:=(aT.1 fw).1;have yZ:=(aT.1 gg).1;have HH:=q4.size;have afI:=(lp.links w A2).size;refine B 3 ?_;have lb4:=lp.lt (b4,_) A0;try dsimp only at lb4
 refine CJ.range3 (f:=83) (cap:=[ptr q.1 0,ptr q.2 0]) (α:=Gv) (enc:=(λg:Gv=>[.agg (bC g)])) (Pre:=(λ(p:List Gv) (Y:aB) (A:World)=>(p.map (·.g) <+:vH Z s lk.fo/\p.length<=1000)/\∀e∈p,aL A.heap.size A e/\dx Y e)) (Fin:=(λ(p:List Gv) (_:aB) (_:World)=>p.map (·.g)=vH Z s lk.fo/\p.length<=1000)) (RO:=SV w.heap.size q.1 q.2) (MI:=λ_=>False) rfl call83 (λW' W2 hS hB=>by have l1:=(hS.links wn A0).size;exact nkm hZ s ho w.heap.size lk.fo q.1 q.2 W2 (aR zJ hB.size) eE ((hs.up hN (hS.same A3 hN zS uN)).up (ao _) (λk hk=>hB.block k zJ)) ((hg.old hS A3 zS uN).bel hB) Vr Vs) (λ_ _ _ hk=>hk.elim) (λW' hS k hk=>by have l1:=(hS.links wn A0).size;simp only[eh,iB,cI,fu,or_false];rcases hk with hk|rfl|rfl<;>exact⟨by omega,by omega,λh=>h⟩) (λ_=>rfl) (λpre G' Hc=>G'=Gh.no/\(pre.any λg:Gv=>(Ih Z g.g.ms lk.by_ (eG Z lk) lk.sr lk.ss))=false/\Hc=[(b4,.cells #[.bool false] 4 (0,0))]) (λc G' Hc=>c= .ret/\G'=Gh.no/\Hc=[(b4,.cells #[.bool true] 4 (0,0))]/\Ik Z s lk=true) ⟨rfl,rfl,rfl⟩ zO ?_ ?_ ?_
 ·rintro pre x G' Hc l Dk rec W1 M V Wy lN qB eC ⟨rfl,fN,rfl⟩ dZ gM GM qC bM yq;simp only[ad]at dZ qC;have SJ:∀k,k<w.heap.size->¬(Gh.no.ext λk=>M k\/V k).X k:=λk hk=>bM.z zJ zU Wl zU;clear aN aD;have aN:¬(Gh.no.ext λk=>M k\/V k).X b2:=bM.z zJ zU Wl zU;have aD:¬(Gh.no.ext λk=>M k\/V k).X b3:=bM.z zJ zU Wl zU;have Il:=eC.2 x (cQ.2 (.inr A0));have Oa:dx (Gh.no.ext λk=>M k\/V k).X x:=⟨λq e=>(Il.2.1 q e).imp id (λh1 h2=>h2.elim zU h1),λq e=>(Il.2.2 q e).imp id (λh1 h2=>h2.elim zU h1)⟩;refine B 1 ?_;refine rL ?_;refine yW ?_;intro b5 iH iI;refine NO ?_;refine B 1 ?_;refine PJ.reH (H':=book ([(b5,.cells (bC x) 57 (0,0)),(b4,.cells #[.bool false] 4 (0,0))]) l rec (bT Dk)) rfl ?_;have N9:∀p∈book ([(b5,.cells (bC x) 57 (0,0)),(b4,.cells #[.bool false] 4 (0,0))]) l {rec with state:=.busy} (bT Dk),mx p.1 x:=by
   intro p hp;simp only[book,bT,eP,dK,cI,fu,or_false]at hp;rcases hp with rfl|rfl|rfl|rfl
   ·exact Il.1.off dG
   ·exact Il.2.off (bM.loc.h (b4,_) A0)
   ·exact Il.2.off (.inl (bM.m' _ (.inr gM)))
   exact Il.2.off (.inl (bM.m' _ (.inl rfl)))
  refine Vt lN ?_;refine B 2 ?_;cases nt:(Ih Z x.g.ms lk.by_ (eG Z lk) lk.sr lk.ss)with
  |true=>
   refine z4g ?_;refine nP 9 [5] [([],some (.agg (bC x))),([],some _),([1],some _),([2],some (.int .i64 lk.by_)),([],some (.agg (lkC lk))),([4],none),([],some _),([6],some _),([7],some (.agg #[.int .i64 lk.sr,.int .i64 lk.ss]))] (λcv L' H'=>match cv with| []=>L'=[Wy,wn,w3,w2,w]/\H'=book ([(b5,.cells (bC x) 57 (0,0)),(b4,.cells #[.bool false] 4 (0,0))]) l {rec with state:=.busy} (bT Dk)| [v1]=>∃(bm:Nat) (wm:World),v1= .slice (some ⟨bm,0,none⟩) 32 32/\L'=[wm,Wy,wn,w3,w2,w]/\H'=book ([(b5,.cells (bC x) 57 (0,0)),(b4,.cells #[.bool false] 4 (0,0))]) l {rec with state:=.busy} (bT Dk)/\wm.heap[bm]? =some (.cells (dg (eG Z lk)) 34 (0,0))/\bm<wm.heap.size/\(b5<bm/\b4<bm/\Dk+1<bm)/\¬(Gh.no.ext λk=>M k\/V k).X bm|_=>False) zQ ⟨rfl,rfl⟩ zQ zQ zQ zQ zQ zQ (pc Im (pc z2 (pc z8 (pc Im (pc Im (pk (pc z2 (pc Na (pc Im (pn)))))))))) ?_ ?_
   ·exact zIi
   intro cv L' H' hl hP;obtain⟨v1,rfl⟩:=cM hl;obtain⟨bm,wm,rfl,rfl,rfl,ku,Io,vv⟩:=hP;refine call (v:=.bool true) call73 rfl rfl rfl (λW hS=>by
    have h9:=nvh hZ x W.heap.size W (ao _) ((Il.1).toZ hS A1 (ao _) Oa (λp hp=>N9 p hp)) lk.by_ (eG Z lk) bm 34 (0,0) (hS.old A0 ku vv.2 (by simp only[bD,book,bT,eP,dK,and_true];omega)) (P5 hZ lk) lk.sr lk.ss (hg.old hS A5 (λk hk=>SJ k zJ) zuc);rwa[nt]at h9) ?_
   refine B 5 ?_;refine bh (i:=1) rfl sizeOf4 rfl rfl rfl rfl rfl rfl ?_;refine B 4 ?_;refine Zm (L':=[Wy,wn,w3,w2,w]) zX ?_;refine og ?_;refine Z6 (G2:=Gh.no) (Hc2:=[(b4,.cells #[.bool true] 4 (0,0))]) (c:=.ret) bM gM ⟨λ_ h=>h,λ_ h=>.inl h,λ_ h=>.inl h,N4,N4⟩ (.inl ⟨rfl,rfl⟩) rfl ?_;exact⟨rfl,rfl,rfl,by unfold Ik;rw[List.any_eq_true];exact⟨x.g,eC.1.1.subset zX,nt⟩⟩
  |false=>
   refine z4g ?_;refine nP 9 [5] [([],some (.agg (bC x))),([],some _),([1],some _),([2],some (.int .i64 lk.by_)),([],some (.agg (lkC lk))),([4],none),([],some _),([6],some _),([7],some (.agg #[.int .i64 lk.sr,.int .i64 lk.ss]))] (λcv L' H'=>match cv with| []=>L'=[Wy,wn,w3,w2,w]/\H'=book ([(b5,.cells (bC x) 57 (0,0)),(b4,.cells #[.bool false] 4 (0,0))]) l {rec with state:=.busy} (bT Dk)| [v1]=>∃(bm:Nat) (wm:World),v1= .slice (some ⟨bm,0,none⟩) 32 32/\L'=[wm,Wy,wn,w3,w2,w]/\H'=book ([(b5,.cells (bC x) 57 (0,0)),(b4,.cells #[.bool false] 4 (0,0))]) l {rec with state:=.busy} (bT Dk)/\wm.heap[bm]? =some (.cells (dg (eG Z lk)) 34 (0,0))/\bm<wm.heap.size/\(b5<bm/\b4<bm/\Dk+1<bm)/\¬(Gh.no.ext λk=>M k\/V k).X bm|_=>False) zQ ⟨rfl,rfl⟩ zQ zQ zQ zQ zQ zQ (pc Im (pc z2 (pc z8 (pc Im (pc Im (pk (pc z2 (pc Na (pc Im (pn)))))))))) ?_ ?_
   ·exact zIi
   intro cv L' H' hl hP;obtain⟨v1,rfl⟩:=cM hl;obtain⟨bm,wm,rfl,rfl,rfl,ku,Io,vv⟩:=hP;refine call (v:=.bool false) call73 rfl rfl rfl (λW hS=>by
    have h9:=nvh hZ x W.heap.size W (ao _) ((Il.1).toZ hS A1 (ao _) Oa (λp hp=>N9 p hp)) lk.by_ (eG Z lk) bm 34 (0,0) (hS.old A0 ku vv.2 (by simp only[bD,book,bT,eP,dK,and_true];omega)) (P5 hZ lk) lk.sr lk.ss (hg.old hS A5 (λk hk=>SJ k zJ) zuc);rwa[nt]at h9) ?_
   refine B 5 ?_;refine Zm (L':=[Wy,wn,w3,w2,w]) zX ?_;refine og ?_;refine JP (G2:=Gh.no) (Hc2:=[(b4,.cells #[.bool false] 4 (0,0))]) bM gM ⟨λ_ h=>h,λ_ h=>.inl h,λ_ h=>.inl h,N4,N4⟩ (JQ lN qB) ?_;exact⟨rfl,by rw[List.any_append,fN];simp[nt],rfl⟩
 ·rintro i6 l Dk rec G' Hc Zf Wd ⟨cB,_⟩ hZf dZ gM ⟨rfl,fN,rfl⟩;replace dZ:=yb dZ;refine B 4 ?_;refine Qi ?_;refine B 3 ?_;refine yh (b:=b4) (.inl rfl) results35 isAgg4 rfl wW (cs:=#[.bool false]) (ct:=4) (fr:=(0,0)) (by exact .head _) zJ rfl (λW H' hS bO=>⟨congrArg Ending.returned (vb (by unfold Ik;rw[<-cB,List.any_map];exact fN.symm)),(hS.links w A4).below (λk hk hx=>by rw[bO]at hx;simp[Gh.no,book]at hx;omega)⟩)
 rintro l Dk rec c G' Hc dZ gM ⟨rfl,rfl,rfl,ox⟩;replace dZ:=yb dZ;refine B 3 ?_;refine yh (b:=b4) (.inl rfl) results35 isAgg4 rfl wW (cs:=#[.bool true]) (ct:=4) (fr:=(0,0)) (by exact .head _) zJ rfl (λW H' hS bO=>⟨congrArg Ending.returned (vb ox.symm),(hS.links w A3).below (λk hk hx=>by rw[bO]at hx;simp[Gh.no,book]at hx;omega)⟩)
noncomputable def dp (Z:Fx) (s:Sc):Nat->Lk->Bool
 |0,l=>nu l&&(if l.by_= -1 then false else Ik Z s l)
 |n+1,l=>nu l&&(if l.by_= -1 then(match eM Z s.lks l with
  |some p=>fC Z s.pls l p&&dp Z s n p
  |none=>false)else Ik Z s l)
theorem WI{l:Lk}(hv:nu l=false):∀n,dp Z s n l=false
 |0=>by unfold dp;rw[hv];rfl
 |n+1=>by unfold dp;rw[hv];rfl
theorem nPl{l:Lk}(hv:nu l=true)(hb:¬l.by_= -1):∀n,dp Z s n l=Ik Z s l
 |0=>by unfold dp;rw[hv,if_neg hb];rfl
 |n+1=>by unfold dp;rw[hv,if_neg hb];rfl
theorem nBh{l:Lk}(hb:l.by_= -1)(hp:eM Z s.lks l=none):∀n,dp Z s n l=false
 |0=>by unfold dp;rw[if_pos hb];simp
 |n+1=>by unfold dp;rw[if_pos hb,hp];simp
theorem nel{l:Lk}(hb:l.by_= -1):dp Z s 0 l=false:=by unfold dp;rw[if_pos hb];simp
theorem WJ{l p:Lk}(hv:nu l=true)(hb:l.by_= -1)(hp:eM Z s.lks l=some p)(n:Nat):dp Z s (n+1) l=(fC Z s.pls l p&&dp Z s n p):=by
 rw[dp,hv,if_pos hb,hp];rfl
def SZ (Z:Fx) (s:Sc) (N n:Nat):Prop:=∀(l:Lk) (w:World),cY l->N<=w.heap.size->eu N w s->Glb w->Calls prog 19 #[.agg (kS s),.agg (lkC l),.int .i64 (n:Int)] w (ay w (.bool (dp Z s n l)))
theorem nQj(hZ:FxOk Z)(s:Sc)(ho:gJ s)(N:Nat)(w:World)(hN:N<=w.heap.size)(hs:eu N w s)(l:Lk)(hlk:cY l)(hg:Glb w)(n:Nat)(hn:n<=256)(hv:nu l=false):Calls prog 19 #[.agg (kS s),.agg (lkC l),.int .i64 (n:Int)] w (ay w (.bool (dp Z s n l))):=by
 have eE:=hg.lt;refine JC ?_;refine yV ?_;intro b3 w3 aM aD da cd cP;refine yX ?_;intro b4 w4 ew eR pA dO dU;refine B 6 ?_;refine Qj ?_;refine call call26 rfl rfl rfl (λW hS=>by have h9:=nH l W;rwa[hv]at h9) (v:=.bool false) ?_;refine B 11 ?_;refine ax results19 rfl A2 ?_;exact vb (WI hv n).symm
theorem nBk(hZ:FxOk Z)(s:Sc)(ho:gJ s)(N:Nat)(w:World)(hN:N<=w.heap.size)(hs:eu N w s)(l:Lk)(hlk:cY l)(hg:Glb w)(n:Nat)(hn:n<=256)(hv:nu l=true)(hb:¬l.by_= -1):Calls prog 19 #[.agg (kS s),.agg (lkC l),.int .i64 (n:Int)] w (ay w (.bool (dp Z s n l))):=by
 have eE:=hg.lt;refine JC ?_;refine yV ?_;intro b3 w3 aM aD da cd cP;refine yX ?_;intro b4 w4 ew eR pA dO dU;refine B 6 ?_;refine Qj ?_;refine call call26 rfl rfl rfl (λW hS=>by have h9:=nH l W;rwa[hv]at h9) (v:=.bool true) ?_;refine B 11 ?_;refine rr (.int .i64 l.by_) (aa isAgg3 rfl A0 ew eR trivial rfl) ?_;refine zph ?_;refine B 5 ?_;refine rr (.agg (kS s)) (ae isAgg81 sizeOf81 rfl A1 aM aD trivial rfl) ?_;refine Qj ?_;refine call (v:=.bool (Ik Z s l)) call35 rfl rfl rfl (λW hS=>njj hZ s ho N W (aR hN (hS.links w A2).size) (hs.up (ao _) (hS.same A2 hN zS trivial)) l hlk (hg.old hS A2 zS trivial)) ?_;refine B 5 ?_;refine ax results19 rfl A2 ?_;exact vb (nPl hv hb n).symm
theorem nKi(hZ:FxOk Z)(s:Sc)(ho:gJ s)(N:Nat)(w:World)(hN:N<=w.heap.size)(hs:eu N w s)(l:Lk)(hlk:cY l)(hg:Glb w)(n:Nat)(hn:n<=256)(hv:nu l=true)(hb:l.by_= -1)(hp:eM Z s.lks l=none):Calls prog 19 #[.agg (kS s),.agg (lkC l),.int .i64 (n:Int)] w (ay w (.bool (dp Z s n l))):=by
 have eE:=hg.lt;refine JC ?_;refine yV ?_;intro b3 w3 aM aD da cd cP;refine yX ?_;intro b4 w4 ew eR pA dO dU;refine B 6 ?_;refine z8d ?_;refine call (v:=.tuple #[.agg (lkC sF),.bool false]) call36 rfl rfl rfl (λW hS=>by have h9:=nod hZ s ho N W (aR hN (hS.links w A2).size) (hs.up (ao _) (hS.same A2 hN zS trivial)) l (hg.old hS A2 zS trivial);rwa[hp]at h9) ?_;refine B 3 ?_;refine UO ?_;refine yW ?_;intro b7 gd oN;refine Ha ?_;refine B 27 ?_;refine WK ?_;exact vb (nBh hb hp n).symm
theorem nPn(hZ:FxOk Z)(s:Sc)(ho:gJ s)(N:Nat)(w:World)(hN:N<=w.heap.size)(hs:eu N w s)(l:Lk)(hlk:cY l)(hg:Glb w)(n:Nat)(hn:n<=256)(hv:nu l=true)(hb:l.by_= -1)(p:Lk)(hp:eM Z s.lks l=some p)(h0:n=0):Calls prog 19 #[.agg (kS s),.agg (lkC l),.int .i64 (n:Int)] w (ay w (.bool (dp Z s n l))):=by
 have eE:=hg.lt;refine JC ?_;refine yV ?_;intro b3 w3 aM aD da cd cP;refine yX ?_;intro b4 w4 ew eR pA dO dU;refine z2h ?_;refine yW ?_;intro b7 gd oN;refine Ha ?_;refine B 8 ?_;refine Jc ?_;refine B 18 ?_;refine WK ?_;exact vb (by subst h0;exact(nel hb).symm)
theorem noo(hZ:FxOk Z)(s:Sc)(ho:gJ s)(N:Nat)(w:World)(hN:N<=w.heap.size)(hs:eu N w s)(l:Lk)(hlk:cY l)(hg:Glb w)(n:Nat)(hn:n<=256)(hv:nu l=true)(hb:l.by_= -1)(p:Lk)(hp:eM Z s.lks l=some p)(m:Nat)(h0:n=m+1)(hc:fC Z s.pls l p=false):Calls prog 19 #[.agg (kS s),.agg (lkC l),.int .i64 (n:Int)] w (ay w (.bool (dp Z s n l))):=by
 have eE:=hg.lt;refine JC ?_;refine yV ?_;intro b3 w3 aM aD da cd cP;refine yX ?_;intro b4 w4 ew eR pA dO dU;refine z2h ?_;refine yW ?_;intro b7 gd oN;refine Ha ?_;refine B 8 ?_;refine O0 ?_;refine B 2 ?_;refine zmf ?_;refine call (v:=.bool false) call37 rfl rfl rfl (λW hS=>by have h9:=n3e hZ s ho N W (aR hN (hS.links w A2).size) (hs.up (ao _) (hS.same A2 hN zS uV)) l p hlk (hg.old hS A2 zS uV);rwa[hc]at h9) ?_;refine B 12 ?_;refine WK ?_;exact vb (by subst h0;rw[WJ hv hb hp,hc];rfl)
theorem ntn(hZ:FxOk Z)(s:Sc)(ho:gJ s)(N:Nat)(w:World)(hN:N<=w.heap.size)(hs:eu N w s)(l:Lk)(hlk:cY l)(hg:Glb w)(n:Nat)(hn:n<=256)(hv:nu l=true)(hb:l.by_= -1)(p:Lk)(hp:eM Z s.lks l=some p)(m:Nat)(h0:n=m+1)(hc:fC Z s.pls l p=true)(ih:SZ Z s N m):Calls prog 19 #[.agg (kS s),.agg (lkC l),.int .i64 (n:Int)] w (ay w (.bool (dp Z s n l))):=by
 have eE:=hg.lt;refine JC ?_;refine yV ?_;intro b3 w3 aM aD da cd cP;refine yX ?_;intro b4 w4 ew eR pA dO dU;refine z2h ?_;refine yW ?_;intro b7 gd oN;refine Ha ?_;refine B 8 ?_;refine O0 ?_;refine B 2 ?_;refine zmf ?_;refine call (v:=.bool true) call37 rfl rfl rfl (λW hS=>by have h9:=n3e hZ s ho N W (aR hN (hS.links w A2).size) (hs.up (ao _) (hS.same A2 hN zS uV)) l p hlk (hg.old hS A2 zS uV);rwa[hc]at h9) ?_;refine B 2 ?_;refine rr (.agg (kS s)) (ae isAgg81 sizeOf81 rfl A1 aM aD zI rfl) ?_;refine rr (.agg (lkC p)) (aO (i:=0) rfl isAgg84 sizeOf84 rfl rfl) ?_;refine B 1 ?_;refine rq (.int .i64 (m:Int)) (gz rfl rfl zJ zJ) ((vi zJ)) ?_;refine call (v:=.bool (dp Z s m p)) call19 rfl rfl rfl (λW hS=>ih p W (ho.ko p (nkn hp)) (aR hN (hS.links w A2).size) (hs.up (ao _) (hS.same A2 hN zS uV)) (hg.old hS A2 zS uV)) ?_;refine B 5 ?_;refine WK ?_;exact vb (by subst h0;rw[WJ hv hb hp,hc];rfl)
theorem nlj(hZ:FxOk Z)(s:Sc)(ho:gJ s)(N:Nat):∀n,n<=256->SZ Z s N n:=by
 intro n;induction n with
 |zero=>
  intro hn l w hlk hN hs hg;cases hv:nu l with
  |false=>exact nQj hZ s ho N w hN hs l hlk hg 0 hn hv
  |true=>
   by_cases hb:l.by_= -1
   ·cases hp:eM Z s.lks l with
    |none=>exact nKi hZ s ho N w hN hs l hlk hg 0 hn hv hb hp
    |some p=>exact nPn hZ s ho N w hN hs l hlk hg 0 hn hv hb p hp rfl
   exact nBk hZ s ho N w hN hs l hlk hg 0 hn hv hb
 |succ m ih=>
  intro hn l w hlk hN hs hg;cases hv:nu l with
  |false=>exact nQj hZ s ho N w hN hs l hlk hg (m+1) hn hv
  |true=>
   by_cases hb:l.by_= -1
   ·cases hp:eM Z s.lks l with
    |none=>exact nKi hZ s ho N w hN hs l hlk hg (m+1) hn hv hb hp
    |some p=>
     cases hc:fC Z s.pls l p with
     |false=>exact noo hZ s ho N w hN hs l hlk hg (m+1) hn hv hb p hp m rfl hc
     |true=>exact ntn hZ s ho N w hN hs l hlk hg (m+1) hn hv hb p hp m rfl hc (ih zJ)
   exact nBk hZ s ho N w hN hs l hlk hg (m+1) hn hv hb
theorem nTn{c:Code}{Q:aC}(L':List World)(ha:∀w∈L',∀p∈H,w.heap.size<=p.1)(hs:∀w∈L',w∈L)(k:∀W,St G L H W->CJ C c Q E D G (W::L') []):CJ C c Q E D G L H:=
 λa W hN hD hF hS=>by
  have hl:∀w∈L',aF (λk=>G.X k\/k∈([]:ab).map (·.1)) w W:=λw hw=>(hS.links w (hs w hw)).mono λj hj hx=>by
   rcases hx with hx|hx
   ·exact .inl hx
   obtain⟨p,hp,rfl⟩:=bW.1 hx;have:=ha w hw p hp;omega
  exact k W hS a W hN hD hF (St.snap ⟨hS.ghost,hS.vlt,hS.xlt,hl,(λp hp=>by cases hp),(by simp[jk]),(λp hp=>by cases hp)⟩)


theorem nzc(hZ:FxOk Z)(s:Sc)(ho:gJ s)(N:Nat)(w:World)(hN:N<=w.heap.size)(hs:eu N w s)(lk:Lk)(hlk:cY lk)(hg:Glb w):Calls prog 9 #[.agg (rdA s),.slice s.pa s.pls.length s.pc,.agg (lkC lk)] w (ay w (.bool (dp Z s 256 lk))):=by
 have eE:=hg.lt;refine enter (vs:=[_,_,_]) func9 rfl ntmps9 rfl ?_;refine B 2 ?_;refine yX ?_;intro b3 w3 aM aD da cd cP;refine yX ?_;intro b5 w5 eo eH oQ iH iI;refine B 5 ?_;refine WL ?_;refine B 1 ?_;refine rr (.agg (kS s)) (bY underlying81 zeroValue81 (bA.c sizeOf31 (bA.c sizeOf32 (bA.n))) rfl rfl) ?_;refine rv rfl rfl rfl (ae isAgg38 sizeOf38 rfl A0 eo eH trivial rfl) ?_;refine rr (.agg (lkC lk)) (bY underlying84 zeroValue84 (bA.c sizeOf38 (bA.n)) rfl rfl) ?_;refine call (v:=.bool (dp Z s 256 lk)) call19 rfl rfl rfl (λW hS=>nlj hZ s ho N 256 (ao _) lk W hlk (aR hN (hS.links w A2).size) (hs.up (ao _) (hS.same A2 hN zS trivial)) (hg.old hS A2 zS trivial)) ?_;refine B 4 ?_;refine ax results9 rfl A2 ?_;rfl

def oE (c:Cm):Bool:=c.bxs.all (λx=>decide (x.w.body.length<=200))&&c.wes.all (λx=>decide (x.w.body.length<=200))&&decide (c.chs.length<=10)&&decide (c.path.length<=12)&&decide (c.bxs.length<=40)&&decide (c.wes.length<=10)
theorem nEh{α:Type}{f:α->Bool}{xs:List α}{x:α}(h:(xs.take j).all f=true)(hx:xs[j]? =some x)(hf:f x=true):(xs.take (j+1)).all f=true:=by rw[nC hx,List.all_append,h];simp[hf]
theorem nhj{α:Type}{f:α->Bool}{xs:List α}(h:(xs.take j).all f=true)(hj:¬j<xs.length):xs.all f=true:=by rw[iV zJ]at h;exact h
theorem nVb{α:Type}{f:α->Bool}{xs:List α}{x:α}(hx:xs[j]? =some x)(hf:f x=false):xs.all f=false:=by
 rw[Bool.eq_false_iff];intro h;have:=o4.1 h x (cb hx);rw[hf]at this;cases this
theorem n4i(l:List Ch)(a:Option Addr)(c:Nat)(w:World):Calls prog 72 #[.slice a l.length c] w (ay w (.bool (decide (l.length<=10)))):=by
 refine enter (vs:=[_]) func72 rfl ntmps72 rfl ?_;refine B 14 ?_;refine ax results72 rfl A0 ?_;exact vb (by rw[vW];simp;omega)
theorem FR(c:Cm)(N:Nat)(w:World)(hN:N<=w.heap.size)(hC:dB N w c)(jf:c.bxs.length<=9223372036854775807)(hwl:c.wes.length<=9223372036854775807):Calls prog 34 #[.agg (dI c)] w (ay w (.bool (oE c))):=by
 refine enter (vs:=[_]) func34 rfl ntmps34 rfl ?_;refine B 2 ?_;refine yX ?_;intro b1 w1 aQ aX gb eO gZ;refine B 10 ?_;refine CJ.loop (α:=Nat) (λj=>[(1,ptr b1 0),(3,.int .i64 (j:Int))]) (λj=>[]) (λj=>[w1,w]) (λj=>Gh.no) (λj=>j<=c.bxs.length/\(c.bxs.take j).all (λx:Bx=>decide (x.w.body.length<=200))=true) (λj=>c.bxs.length-j) 0 ⟨db _,rfl⟩ ⟨rfl,rfl,trivial⟩ rfl rfl zX ?_;rintro j ⟨hj,V4⟩;refine B 10 ?_;refine aG ?_ ?_
 ·intro ah;refine B 5 ?_;obtain⟨b0,o0,cs0,t0,fk,im,lO,hcs,ar⟩:=hC.bxs.get zJ;obtain⟨y,hy⟩:=nj c.bxs j zJ;refine B 2 ?_;refine rq (.slice (some ⟨b0,o0,none⟩) c.bxs.length c.bc) (aa isAgg96 rfl A0 aQ aX trivial rfl) (congrArg (λq=>Value.slice q c.bxs.length c.bc) im) ?_;refine B 4 ?_;refine rv rfl rfl rfl (aa (v:=.slice y.w.ba y.w.body.length y.w.bc) isAgg64 rfl A1 hcs zU trivial (by have:=wz ar hy rfl 3 zO;simpa[rJ]using this)) ?_;refine B 4 ?_;refine aG ?_ ?_
  ·intro aJ;refine B 11 ?_;exact Ob
  intro aJ;refine B 8 ?_;refine PJ.again (j+1) ⟨by omega,nEh V4 hy (decide_eq_true zJ)⟩ zJ ⟨rfl,rfl,trivial⟩ rfl rfl zX
 intro ah;refine B 7 ?_;have pb:=nhj V4 zJ;refine B 5 ?_;refine CJ.loop (α:=Nat) (λj=>[(1,ptr b1 0),(4,.int .i64 (j:Int))]) (λj=>[]) (λj=>[w1,w]) (λj=>Gh.no) (λj=>j<=c.wes.length/\(c.wes.take j).all (λx:We=>decide (x.w.body.length<=200))=true) (λj=>c.wes.length-j) 0 ⟨db _,rfl⟩ ⟨rfl,rfl,trivial⟩ rfl rfl zX ?_;rintro j ⟨hj,hwx⟩;refine B 10 ?_;refine aG ?_ ?_
 ·intro cO;refine B 5 ?_;obtain⟨b0,o0,cs0,t0,fk,im,lO,hcs,ar⟩:=hC.wes.get zJ;obtain⟨y,hy⟩:=nj c.wes j zJ;refine B 2 ?_;refine rq (.slice (some ⟨b0,o0,none⟩) c.wes.length c.wc) (aa isAgg97 rfl A0 aQ aX trivial rfl) (congrArg (λq=>Value.slice q c.wes.length c.wc) im) ?_;refine B 4 ?_;refine rv rfl rfl rfl (aa (v:=.slice y.w.ba y.w.body.length y.w.bc) isAgg64 rfl A1 hcs zU trivial (by have:=wz ar hy rfl 2 zO;simpa[ra]using this)) ?_;refine B 4 ?_;refine aG ?_ ?_
  ·intro gL;refine B 11 ?_;exact Ob
  intro gL;refine B 8 ?_;refine PJ.again (j+1) ⟨by omega,nEh hwx hy (decide_eq_true zJ)⟩ zJ ⟨rfl,rfl,trivial⟩ rfl rfl zX
 intro cO;refine B 6 ?_;have haw:=nhj hwx zJ;refine B 3 ?_;refine call call72 rfl rfl rfl (λW hS=>n4i c.chs c.ca c.cc W) ?_;refine B 1 ?_;refine nh (t:=40) rfl (λgv=>?_) (λgv=>?_)
 ·replace gv:=ya gv;refine B 6 ?_;refine nh (t:=46) rfl (λje=>?_) (λje=>?_)
  ·replace je:=ya je;refine B 6 ?_;refine nh (t:=52) rfl (λiU=>?_) (λiU=>?_)
   ·replace iU:=ya iU;refine B 9 ?_;exact Ob
   replace iU:=ya iU;refine B 9 ?_;exact Ob
  replace je:=ya je;refine B 15 ?_;exact Ob
 replace gv:=ya gv;refine B 21 ?_;exact Ob
def vJ (cs:List Cm):Bool:=decide (cs.length<=7)&&cs.all oE
structure Bf (c:Cm):Prop where
 b:c.bxs.length<=9223372036854775807
 w:c.wes.length<=9223372036854775807
theorem FT(cs:List Cm)(Io:∀c∈cs,Bf c)(N:Nat)(la:Option Addr)(lc:Nat)(w:World)(hN:N<=w.heap.size)(aH:ag dI 73 N w la cs)(hC:∀c∈cs,dB N w c):Calls prog 18 #[.slice la cs.length lc] w (ay w (.bool (vJ cs))):=by
 refine enter (vs:=[_]) func18 rfl ntmps18 rfl ?_;refine B 13 ?_;refine aG ?_ ?_
 ·intro ah;refine B 7 ?_;exact zYi
 intro ah;refine B 9 ?_;refine CJ.loop (α:=Nat) (λj=>[(0,.slice la cs.length lc),(3,.int .i64 (j:Int))]) (λj=>[]) (λj=>[w]) (λj=>Gh.no) (λj=>j<=cs.length/\(cs.take j).all oE=true) (λj=>cs.length-j) 0 ⟨db _,rfl⟩ ⟨rfl,rfl,trivial⟩ rfl rfl zX ?_;rintro j ⟨hj,HR⟩;refine B 9 ?_;refine aG ?_ ?_
 ·intro aJ;refine B 5 ?_;obtain⟨bl,ol,csl,tl,frl,rfl,jf,ts,lA⟩:=aH.get zJ;obtain⟨c,hc⟩:=nj cs j zJ;have hcm:=cb hc;refine B 4 ?_;refine rq (.agg (dI c)) (ai isAgg99 sizeOf99 rfl A0 ts zU trivial (nk lA hc rfl)) (va (nr lA hc rfl)) ?_;refine call call34 rfl rfl rfl (λW hS=>FR c N W (aR hN (hS.links w A0).size) ((hC c hcm).up (ao _) (hS.same A0 hN zS trivial)) (Io c hcm).b (Io c hcm).w) ?_;refine B 3 ?_;refine aG ?_ ?_
  ·intro cO;refine B 11 ?_;exact zYi
  intro cO;refine B 8 ?_;refine PJ.again (j+1) ⟨by omega,nEh HR hc (by simpa using ‹_›)⟩ zJ ⟨rfl,rfl,trivial⟩ rfl rfl zX
 intro aJ;refine B 6 ?_;have bP:=nhj HR zJ;refine B 5 ?_;exact zYi
def oF (s:Sc):Bool:=decide (s.fos.length<=4)&&vJ s.cs&&decide (s.lks.length<=6)&&decide (s.fas.length<=8)&&decide (s.pls.length<=10)
theorem n2g(s:Sc)(Io:∀c∈s.cs,Bf c)(N:Nat)(w:World)(hN:N<=w.heap.size)(hs:eu N w s):Calls prog 7 #[.agg (rdA s),.slice s.pa s.pls.length s.pc] w (ay w (.bool (oF s))):=by
 refine enter (vs:=[_,_]) func7 rfl ntmps7 rfl ?_;refine B 2 ?_;refine yX ?_;intro b2 w2 aU aN dY cR cX;refine B 6 ?_;refine rr (.slice s.fa s.fos.length s.fc) (aa isAgg22 rfl A0 aU aN trivial rfl) ?_;refine B 3 ?_;refine nh (t:=9) rfl (λah=>?_) (λah=>?_)
 ·replace ah:=ya ah;refine B 1 ?_;refine rr (.slice s.la s.cs.length s.lc) (aa isAgg24 rfl A0 aU aN trivial rfl) ?_;refine call call18 rfl rfl rfl (λW hS=>FT s.cs Io N s.la s.lc W (aR hN (hS.links w A1).size) (hs.cs.up (ao _) (hS.same A1 hN zS trivial)) (λc hc=>(hs.cm c hc).up (ao _) (hS.same A1 hN zS trivial))) ?_;refine B 2 ?_;refine nh (t:=14) rfl (λaJ=>?_) (λaJ=>?_)
  ·replace aJ:=ya aJ;refine B 1 ?_;refine rr (.slice s.ka s.lks.length s.kc) (aa isAgg27 rfl A0 aU aN trivial rfl) ?_;refine B 4 ?_;refine nh (t:=20) rfl (λcO=>?_) (λcO=>?_)
   ·replace cO:=ya cO;refine B 1 ?_;refine rr (.slice s.xa s.fas.length s.xc) (aa isAgg28 rfl A0 aU aN trivial rfl) ?_;refine B 4 ?_;refine nh (t:=26) rfl (λgL=>?_) (λgL=>?_)
    ·replace gL:=ya gL;refine B 8 ?_;exact S0
    replace gL:=ya gL;refine B 8 ?_;exact S0
   replace cO:=ya cO;refine B 14 ?_;exact S0
  replace aJ:=ya aJ;refine B 20 ?_;exact S0
 replace ah:=ya ah;refine B 25 ?_;exact S0
theorem LP(xs:List Int)(cj:xs.length<=1000000)(n:Int)(N:Nat)(a:Option Addr)(c:Nat)(w:World)(hN:N<=w.heap.size)(aH:ag encI 1 N w a xs):Calls prog 12 #[.slice a xs.length c,.int .i64 n] w (ay w (.bool (xs.any λx=>decide (x=n)))):=by
 refine enter (vs:=[_,_]) func12 rfl ntmps12 rfl ?_;refine B 12 ?_;refine CJ.loop (α:=Nat) (λj=>[(0,.slice a xs.length c),(1,.int .i64 n),(5,.int .i64 (j:Int))]) (λj=>[]) (λj=>[w]) (λj=>Gh.no) (λj=>j<=xs.length/\eI (λx=>decide (x=n)) xs j) (λj=>xs.length-j) 0 ⟨db _,λi x hi=>absurd hi zJ⟩ zR rfl rfl zX ?_;rintro j ⟨hj,dm⟩;refine B 9 ?_;refine aG ?_ ?_
 ·intro ah;refine B 5 ?_;obtain⟨bo,oo,cs0,to,fk,rfl,fE,hcs,ar⟩:=aH.get zJ;obtain⟨x,hx⟩:=nj xs j zJ;refine B 4 ?_;refine rv rfl rfl rfl (aa (v:=.int .i64 x) isAgg3 rfl A0 hcs zU trivial (wz ar hx rfl 0 zO)) ?_;refine B 4 ?_;refine aG ?_ ?_
  ·intro aJ;exact zKj
  intro aJ;refine B 8 ?_;exact WM
 intro ah;exact zKj
def eN (pls:List Pl) (f:Int):List Int:=if(fh pls f).any (λx=>decide (x=f))=true then fh pls f else f::fh pls f
theorem nXl(pls:List Pl)(f:Int):(eN pls f).length<=pls.length+1:=by
 have:=nMl pls f;unfold eN;split
 ·omega
 simp only[dQ];omega
theorem FU{f x:Int}:x∈eN pls f↔x=f\/x∈fh pls f:=by
 unfold eN;split
 ·rename_i h;obtain⟨y,hy,e⟩:=List.any_eq_true.1 h;have e2:y=f:=by simpa using e
  subst e2;exact⟨.inr,λh=>h.elim (λh=>by rw[h];exact hy) id⟩
 rw[cI]
theorem nsi(pls:List Pl)(hpl:pls.length<=12)(pa:Option Addr)(pc:Nat)(lk:Lk)(N:Nat)(w:World)(hN:N<=w.heap.size)(aH:ag plA 5 N w pa pls):Calls prog 10 #[.slice pa pls.length pc,.agg (lkC lk)] w (cJ w (λq:Option Addr×Nat=>.slice q.1 (eN pls lk.fo).length q.2) (λq w1=>ag encI 1 w1.heap.size w1 q.1 (eN pls lk.fo)/\∀p,q.1=some p->w.heap.size<=p.block)):=by
 refine enter (vs:=[_,_]) func10 rfl ntmps10 rfl ?_;refine B 2 ?_;refine yX ?_;intro b3 w3 aM aD da cd cP;refine B 7 ?_;refine rr (.int .i64 lk.fo) (aa isAgg3 rfl A0 aM aD trivial rfl) ?_;refine n0 (enc:=aj) (m:=1) (t:=3) (xs:=(fh pls lk.fo)) (v:=id) (first:=[]) (cap:=[]) rfl call21 rfl rfl rfl nw (λW hS=>nbk pls hpl N pa pc W (aR hN (hS.links w A1).size) (aH.up (ao _) (hS.same A1 hN zS trivial)) lk.fo) ?_;intro W5 a5 c5 w5 Cf G7 Bg S1;replace Bg:ag encI 1 w5.heap.size w5 a5 (fh pls lk.fo):=Bg;have jf:=nMl pls lk.fo;have oQ:=(Cf.links w A1).size;have afJ:=G7.size;refine B 10 ?_;refine CJ.loop (α:=Nat) (λj=>[(3,ptr b3 0),(5,.slice a5 (fh pls lk.fo).length c5),(6,.int .i64 (j:Int))]) (λj=>[]) (λj=>[w5,w3,w]) (λj=>Gh.no) (λj=>j<=(fh pls lk.fo).length/\eI (λx=>decide (x=lk.fo)) (fh pls lk.fo) j) (λj=>(fh pls lk.fo).length-j) 0 ⟨db _,λi x hi=>absurd hi zJ⟩ zR rfl rfl zX ?_;rintro j ⟨hj,dm⟩;refine B 9 ?_;refine aG ?_ ?_
 ·intro ah;refine B 5 ?_;obtain⟨bo,oo,cs0,to,fk,rfl,fE,hcs,ar⟩:=Bg.get zJ;obtain⟨x,hx⟩:=nj (fh pls lk.fo) j zJ;refine ng (E':=[(3,_),(5,_),(6,_),(11,_),(12,_),(13,_),(14,_)]) zR ?_;refine nl 6 [.det [] _,.det [] _,.det [0,1] _,.det [2] _,.det [] _,.det [4] _] zQ (xc zN (xc zN (xc (by exact λaf=>X.val rfl rfl (cD underlying44 sizeOf3 rfl rfl zJ zJ) (λ_ _=>rfl)) (xc (by exact λaf=>X.val rfl rfl (aa (v:=.int .i64 x) isAgg3 rfl A0 hcs zU trivial (wz ar hx rfl 0 zO)) (λ_ _=>rfl)) (xc tW (xc (by exact λaf=>X.val rfl rfl (RV.re (v':=.int .i64 lk.fo) (aa isAgg3 rfl A1 aM aD trivial rfl) (rfl)) (λ_ _=>rfl)) (xn))))))) zQ zQ zQ (λaf=>?_);refine B 3 ?_;refine aG ?_ ?_
  ·intro aJ;refine B 1 ?_;have hwy:eN pls lk.fo=(fh pls lk.fo):=by unfold eN;rw[if_pos (n0g hx mH)]
   refine B 11 ?_;refine bH (.inl rfl) results10 (RS.t rfl RS.n) λW hS=>⟨(_,c5),congrArg Ending.returned (by rw[hwy];rfl),hS.base A2 trivial,by rw[hwy];exact Bg.up (hS.links w5 A0).size (hS.same A0 (ao _) zS trivial),λp hp=>aR oQ (S1 p hp)⟩
  intro aJ;refine B 8 ?_;exact WM
 intro ah;refine B 8 ?_;refine rr (.int .i64 lk.fo) (aa isAgg3 rfl A1 aM aD trivial rfl) ?_;refine Co ?_;refine yW ?_;intro iM xF Jj;refine B 1 ?_;refine VD (xs:=[lk.fo]) (zs:=(fh pls lk.fo)) (enc:=aj) (m:=1) (H0:=[]) (H1:=[]) (sp:=[]) (by rfl) Hl nw rfl rfl rfl rfl (dz.sl nw Hm underlying44 A0 Bg (λb hb=>⟨λh=>h,by simp only[bD,and_true];omega⟩)) ⟨ao _,rfl⟩ (.inr zW) Cp ?_;intro b29 S2 acN S3 LQ;replace S3:=yb S3;have Oc:eN pls lk.fo=[lk.fo]++(fh pls lk.fo):=by unfold eN;rw[if_neg (by rw[Nv dm zJ];decide)];rfl
 refine B 4 ?_;refine bH (.inl rfl) results10 (RS.t rfl RS.n) λW hS=>⟨((some ⟨b29,0,none⟩:Option Addr),S2),?_,hS.base A2 (by simp only[Over,dK,and_true];omega),?_,?_⟩
 ·exact congrArg Ending.returned (by rw[Oc];rfl)
 ·obtain⟨a9,c9,e9,h9⟩:=Rw.sl' (r:=.row b29 S2 acN) (t:=3) LQ (hS.own (b29,_) A0);cases e9;rw[Oc];exact h9
 intro p hp;cases hp;dsimp only;omega
structure ChI (x:Ch):Prop where
 kind:fl x.kind
 dev:fl x.dev
 pub:fl x.pub
 ver:fl x.ver
 cut:fl x.cut
structure BxI (x:Bx):Prop where
 node:fl x.node
 level:fl x.level
 u:fl x.w.u
structure WeI (x:We):Prop where
 dev:fl x.dev
 u:fl x.w.u
structure FV (c:Cm):Prop where
 folder:fl c.folder
 epoch:fl c.epoch
 par:iJ c.par
 author:fl c.author
 chs:∀x∈c.chs,ChI x
 path:∀x∈c.path,fl x
 bxs:∀x∈c.bxs,BxI x
 wes:∀x∈c.wes,WeI x
 conf:iJ c.conf
 sr:fl c.sr
 ss:fl c.ss
 lim:Bf c
theorem WN(n:Nat)(hn:n<=100):∀ls:List (List V),(∀l∈ls,l.all mY=true/\l.length<=n/\V.fineL l)->V.fineL (ls.map V.list)/\V.depthL (ls.map V.list)<=1
 | [],_=>by simp[V.fineL,V.depthL]
 |l::ls,h=>by
  obtain⟨h1,h2⟩:=WN n hn ls (λx hx=>h x (.tail _ hx));obtain⟨g1,g2,g3⟩:=h l A0;obtain⟨_,g4⟩:=UG l g1 g3;simp only[eh,V.fineL,V.fine,V.depthL,V.depth,g4];exact⟨⟨⟨by omega,by omega,g3⟩,h1⟩,by omega⟩
theorem n0k:∀l:List Int,(∀x∈l,fl x)->V.fineL (l.map V.int)/\V.depthL (l.map V.int)=0
 | [],_=>by simp[V.fineL,V.depthL]
 |y::l,h=>by
  obtain⟨h1,h2⟩:=n0k l (λx hx=>h x (.tail _ hx));simp only[eh,V.fineL,V.fine,V.depthL,V.depth,h2];exact⟨⟨h y A0,h1⟩,by omega⟩
theorem WO{l:List V}(h:V.fineL l)(hl:l.length<=1000000000)(hd:V.depthL l<=1000000000):V.fine (.list l):=by simp only[V.fine];exact⟨hl,hd,h⟩
theorem Bh{c:Cm}(h:oE c=true):(∀x∈c.bxs,x.w.body.length<=200)/\(∀x∈c.wes,x.w.body.length<=200)/\c.chs.length<=10/\c.path.length<=12/\c.bxs.length<=40/\c.wes.length<=10:=by
 simpa[oE,and_assoc]using h
theorem FX{c:Cm}(h:FV c)(hf:oE c=true):cx c:=by
 obtain⟨f1,f2,f3,f4,f5,f6⟩:=Bh hf;refine⟨⟨h.par,h.conf,f3,f4,f5,f6,f1,f2⟩,?_⟩;have a1:=WN 100 zO (c.chs.map wC) (λl hl=>by
  obtain⟨x,hx,rfl⟩:=bW.1 hl;have g:=h.chs x hx;refine⟨by simp[wC,mY],by simp[wC],?_⟩;simp only[wC,V.fineL,V.fine];exact⟨g.kind,g.dev,g.pub,g.ver,g.cut,trivial⟩)
 have a2:=n0k c.path h.path;have a3:=WN 100 zO (c.bxs.map pV) (λl hl=>by
  obtain⟨x,hx,rfl⟩:=bW.1 hl;have g:=h.bxs x hx;have g2:=f1 x hx;refine⟨by simp[pV,mY],by simp[pV],?_⟩;simp only[pV,V.fineL,V.fine];exact⟨g.node,g.level,g.u,by rw[Vy];omega,trivial⟩)
 have a4:=WN 100 zO (c.wes.map pW) (λl hl=>by
  obtain⟨x,hx,rfl⟩:=bW.1 hl;have g:=h.wes x hx;have g2:=f2 x hx;refine⟨by simp[pW,mY],by simp[pW],?_⟩;simp only[pW,V.fineL,V.fine];exact⟨g.dev,g.u,by rw[Vy];omega,trivial⟩)
 simp only[lq,V.fineL];refine⟨by simp only[V.fine];exact h.folder,by simp only[V.fine];exact h.epoch,by simp only[V.fine];rw[Vy,nQ];omega,by simp only[V.fine];exact h.author,WO a1.1 (by simp only[fp];omega) zJ,WO a2.1 (by simp only[fp];omega) zJ,WO a3.1 (by simp only[fp];omega) zJ,WO a4.1 (by simp only[fp];omega) zJ,by simp only[V.fine];rw[Vy,nQ];omega,by simp only[V.fine];exact h.sr,by simp only[V.fine];exact h.ss,trivial⟩
structure rz (s:Sc):Prop where
 cm:∀c∈s.cs,FV c
 lk:∀l∈s.lks,cY l
 fa:∀f∈s.fas,FK f
theorem LR(h:oF s=true):s.fos.length<=4/\s.cs.length<=7/\(∀c∈s.cs,oE c=true)/\s.lks.length<=6/\s.fas.length<=8/\s.pls.length<=10:=by
 simpa[oF,vJ,and_assoc,o4]using h
theorem rz.ok(h:rz s)(hf:oF s=true):gJ s:=by
 obtain⟨h1,h2,h3,h4,h5,h6⟩:=LR hf;exact⟨by omega,by omega,λc hc=>FX (h.cm c hc) (h3 c hc),by omega,h.lk,by omega,h.fa,by omega⟩
end Px
