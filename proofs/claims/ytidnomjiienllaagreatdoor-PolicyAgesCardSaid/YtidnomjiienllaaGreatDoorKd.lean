/- Contracts of functions of the program, each walked once. No condition beyond those that each theorem states. -/
import Derived.Test.YtidnomjiienllaaGreatDoorKc
import Derived.Test.YtidnomjiienllaaGreatDoorProg
import Derived.Test.YtidnomjiienllaaGreatDoorLa
set_option linter.unusedSimpArgs false
set_option linter.unusedVariables false
set_option linter.unusedSectionVars false
set_option maxRecDepth 20000
set_option maxHeartbeats 8000000
namespace Px
open Go Go.RowKit Go.Proofs Go.Proofs.Tryz
section
variable {C:Cx} {Q:Post} {E E0:Env} {D:List Deferred} {G:Gh} {L:List World} {H:Heap}
def midQ (C:Cx) (E:Env) (D:List Deferred) (G:Gh) (L:List World) (H:Heap):Post:=λe a W=>e= .normal/\a.tmps.size=C.N/\a.defers=D/\Fits E a/\St G L H W
theorem CJ.mid{c:Code}{t:Nat}{v:Value}(h0:Sub E0 E)(h:CJ C c (midQ C ((t,v)::E0) D G L H) E D G L H)(k:PJ C Q .normal ((t,v)::E0) D G L H):CJ C c Q E D G L H:=by
 intro a W hN hD hF hS;refine wpIn_mono (h a W hN hD hF hS) ?_;rintro e a' W' ⟨rfl,h1,h2,h3,h4⟩;exact k a' W' h1 h2 h3 h4
theorem PJ.mid{E':Env}(hE:Sub E' E):PJ C (midQ C E' D G L H) .normal E D G L H:=λa W hN hD hF hS=>⟨rfl,hN,hD,hE.fits hF,hS⟩
end
def chOk (x:Ch):Prop:=((x.kind=1/\(GOk x.pub/\GOk x.ver)/\x.cut=0)\/(x.kind=2/\x.pub=0/\x.ver=0/\(0<=x.cut/\x.cut<=1048576))\/(x.kind=3/\(GOk x.pub/\GOk x.ver)/\(0<=x.cut/\x.cut<=1048576)))/\DvOk x.dev
def seenC (kv:List (Int×Bool)) (x:Ch):List (Int×Bool):=kput kv x.dev true
def npf (l:List Ch):List (Int×Bool):=l.foldl seenC []
variable {cs:Array Value} {C:Cx} {E:Env} {G:Gh} {F H:Heap} {au:Int} {xs:List Int} {ns:List Nd} {sp:List Value} {L:List World} {N N' T b i j:Nat} {fr:Nat×Nat} {f:Nat->Int} {x:Operand} {a:Option Addr} {W w' w1:World}
theorem nli{l:List Ch}{x:Ch}(hx:l[j]? =some x):npf (l.take (j+1))=kput (npf (l.take j)) x.dev true:=by rw[np hx];simp[npf,seenC,awp]
def FmOk (l:List Ch) (i:Nat) (x:Ch):Prop:=chOk x/\(kget (npf (l.take i)) x.dev).getD false=false
def FmTo (l:List Ch) (j:Nat):Prop:=∀i x,i<j->l[i]? =some x->FmOk l i x
theorem FmTo.next{l:List Ch}{x:Ch}(h:FmTo l j)(hx:l[j]? =some x)(hk:FmOk l j x):FmTo l (j+1):=by
 exact z4j
def fmdP (l:List Ch):Prop:=FmTo l l.length/\l.length<=64
open Classical in
noncomputable def fmdB (l:List Ch):Bool:=decide (fmdP l)
theorem nue{l:List Ch}:fmdB l=true↔fmdP l:=by unfold fmdB;simp
theorem nbc{l:List Ch}{x:Ch}(hx:l[j]? =some x)(h:¬FmOk l j x):Value.bool false= .bool (fmdB l):=congrArg Value.bool (by
 cases e:fmdB l with
 |false=>rfl
 |true=>exact absurd ((nue.1 e).1 j x (nz hx) hx) h)
theorem nBg{l:List Ch}(h:FmTo l j)(hj:¬j<l.length):Value.bool (decide ((l.length:Int)<=64))= .bool (fmdB l):=congrArg Value.bool (by
 have h1:FmTo l l.length:=λi x hi hx=>h i x zG hx;cases e:fmdB l with
 |false=>exact decide_eq_false (λh2=>absurd (nue.2 ⟨h1,by omega⟩) (by rw[e];decide))
 |true=>have:=(nue.1 e).2;exact decide_eq_true zG)
theorem nzc(l:List Ch)(hxl:l.length<=1000000)(N:Nat)(a:Option Addr)(cp:Nat)(w:World)(hN:N<=w.heap.size)(hsl:SlAt chA 5 N w a l):Calls prog 163 #[.slice a l.length cp] w (Ret w (.bool (fmdB l))):=by
 refine enter (vs:=[_]) func163 rfl ntmps163 rfl ?_;refine B 7 ?_;refine mkMV Value.bool rfl rfl ?_;intro b9 ha9 ho9;replace ha9:=yb ha9;replace ho9:=yc ho9;refine B 12 ?_;refine CJ.loop (α:=Mp×Nat) (λp=>[(0,.slice a l.length cp),(3,.map (some b9)),(10,.slice a l.length cp),(11,.int .i64 (l.length:Int)),(12,.int .i64 (p.2:Int))]) (λp=>[(b9,p.1.obj Value.bool (npf (l.take p.2)))]) (λp=>[w]) (λp=>Gh.no) (λp=>p.2<=l.length/\p.1.Ok (npf (l.take p.2))/\FmTo l p.2) (λp=>l.length-p.2) (⟨[],0⟩,0) ⟨a3o _,Mp.nil,λi x hi=>absurd hi zG⟩ zR rfl rfl zS ?_;rintro⟨m,j⟩ ⟨hj,hm,hto⟩;dsimp only at hj hm hto ⊢;refine B 6 ?_;refine zCD ?_ ?_
 ·intro hc1;refine B 5 ?_;obtain⟨bo,oo,cs0,to,fr0,rfl,hbo,hcs,hel0⟩:=hsl.get zG;obtain⟨x,hx⟩:=nj l j zG;obtain⟨e1,he1⟩:∃e,(if GOk x.pub then(0:Int)else 40)=e:=⟨_,rfl⟩;obtain⟨e2,he2⟩:∃e,(if GOk x.ver then(0:Int)else 40)=e:=⟨_,rfl⟩;have hek1:=nUh x.pub;rw[he1]at hek1;have hek2:=nUh x.ver;rw[he2]at hek2;refine B 2 ?_;refine rv rfl rfl rfl (RV.re (v':=.agg (chA x)) (ldRA_r isAgg229 sizeOf229 rfl A0 hcs zO zEb (nk hel0 hx rfl)) (congrArg Value.agg (nl hel0 hx rfl))) ?_;refine zbg ?_;intro b5 ha5 ho5;replace ha5:=yb ha5;replace ho5:=yc ho5;refine zdf ?_;refine B 3 ?_;refine CJ.mid (t:=6) (v:=.bool (decide (e1=0/\e2=0))) (E0:=[(0,_),(3,_),(5,_),(10,_),(11,_),(12,_),(13,_),(14,_),(15,_)]) zR ?_ ?_
  ·refine B 3 ?_;refine call call98 rfl rfl rfl (λW hS=>by rw[<-he1];exact nD _ W) (v:=.int .i64 e1) ?_;refine B 2 ?_;refine nf (t:=20) rfl (λhc2=>?_) (λhc2=>?_)
   ·replace hc2:=ya hc2;refine B 2 ?_;refine call call98 rfl rfl rfl (λW hS=>by rw[<-he2];exact nD _ W) (v:=.int .i64 e2) ?_;refine B 4 ?_;exact zTj
   replace hc2:=ya hc2;refine B 7 ?_;exact zTj
  refine B 2 ?_;refine CJ.mid (t:=7) (v:=.bool (decide (0<=x.cut/\x.cut<=1048576))) (E0:=[(0,_),(3,_),(5,_),(6,_),(10,_),(11,_),(12,_),(13,_),(14,_),(15,_)]) zR ?_ ?_
  ·refine B 5 ?_;refine nf (t:=29) rfl (λhc3=>?_) (λhc3=>?_)
   ·exact zkj
   exact zkj
  refine B 13 ?_;refine CJ.mid (t:=8) (v:=.bool (decide ((x.kind=1/\(e1=0/\e2=0)/\x.cut=0)\/(x.kind=2/\x.pub=0/\x.ver=0/\(0<=x.cut/\x.cut<=1048576))\/(x.kind=3/\(e1=0/\e2=0)/\(0<=x.cut/\x.cut<=1048576))))) (E0:=[(0,_),(3,_),(5,_),(6,_),(7,_),(10,_),(11,_),(12,_),(13,_),(14,_),(15,_),(34,_),(35,_)]) zR ?_ ?_
  ·refine B 7 ?_;refine zCD ?_ ?_
   ·intro hc4;refine B 3 ?_;refine nf (t:=39) rfl (λhc5=>?_) (λhc5=>?_)
    ·replace hc5:=ya hc5;refine B 7 ?_;exact zei
    replace hc5:=ya hc5;refine B 7 ?_;exact zei
   intro hc4;refine B 6 ?_;refine zCD ?_ ?_
   ·intro hc6;refine B 5 ?_;refine nf (t:=49) rfl (λhc7=>?_) (λhc7=>?_)
    ·replace hc7:=ya hc7;refine B 5 ?_;refine nf (t:=54) rfl (λhc8=>?_) (λhc8=>?_)
     ·replace hc8:=ya hc8;exact zhk
     replace hc8:=ya hc8;exact zhk
    replace hc7:=ya hc7;refine B 10 ?_;exact zei
   intro hc6;refine B 6 ?_;refine zCD ?_ ?_
   ·intro hc9;refine B 3 ?_;refine nf (t:=60) rfl (λhc10=>?_) (λhc10=>?_)
    ·replace hc10:=ya hc10;exact zhk
    replace hc10:=ya hc10;exact zhk
   intro hc9;refine B 2 ?_;exact zei
  refine B 7 ?_;refine nf (t:=65) rfl (λhc11=>?_) (λhc11=>?_)
  ·replace hc11:=ya hc11;refine B 26 ?_;exact zmi
  replace hc11:=ya hc11;refine B 2 ?_;refine call call162 rfl rfl rfl (λW hS=>nnd _ W) ?_;refine B 3 ?_;refine nf (t:=71) rfl (λhc12=>?_) (λhc12=>?_)
  ·replace hc12:=ya hc12;refine B 20 ?_;exact zmi
  replace hc12:=ya hc12;refine B 3 ?_;refine rv rfl rfl rfl (RV.re (v':=.bool ((kget (npf (l.take j)) x.dev).getD false)) (mget1_r (ev:=Value.bool) underlying280 underlying3 zeroValue4 hm (Lies.own (i:=1) rfl) rfl rfl) (nJi _)) ?_;refine B 3 ?_;refine zCD ?_ ?_
  ·intro hc13;refine B 12 ?_;exact zmi
  intro hc13;refine B 6 ?_;refine nxf (i:=1) (ev:=Value.bool) (v:=true) rfl hm underlying280 underlying3 rfl rfl rfl rfl ?_;intro m3 hm3;refine zpg ?_;refine PJ.again (m3,j+1) ⟨by dsimp only;omega,by rw[nli hx];exact hm3,hto.next hx ⟨⟨by rw[<-hek1,<-hek2];assumption,by assumption⟩,by assumption⟩⟩ z2 zR (by rw[nli hx];rfl) rfl zS
 intro hc1;refine B 14 ?_;exact zmi
theorem neqB_r{U:Nat}{y:Operand}{a b:Bool}(hU:C.P.underlying T=some .bool)(hx:ev E x=some (.bool a))(hy:ev E y=some (.bool b)):RV C G L H E (.binOp .neq T x y U) (.bool (a != b)):=λd ty pos aft g ac W hF _=>by
 have h1:(Op.equalIn (9999+1) T (.bool a) (.bool b)).run C.P W= .ok (a==b) W:=by
  generalize 9999=n;simp[Op.equalIn,run_underlying hU]
 have h2:(binOp .neq T (.bool a) (.bool b)).run C.P W= .ok (.bool (a != b)) W:=by
  have e:binOp .neq T (.bool a) (.bool b)=(do pure (.bool (!(<-Op.equalIn (9999+1) T (.bool a) (.bool b))))):=rfl;rw[e,Sem.run_bind,h1];rfl
 have h3:(eqGuard .neq T x y (.bool a) (.bool b)).run C.P W= .ok () W:=by simp[eqGuard]
 simp only[execOp,hF.ev hx,hF.ev hy,Sem.run_bind,h3,h2,Result.andThen];rfl
def badC (g:Gp) (own:Bool) (au:Int) (x:Ch):Bool:=(mbIs g.ms x.dev==decide (x.kind=1))||(own&&decide (x.dev=au))
def posB (g:Gp) (au:Int) (l:List Ch):Bool:= !((mbIs g.ms au != decide (0<g.epoch))||(decide (g.epoch=0)&&(decide (l.length=0)|| !decide ((l[0]?.map (·.dev))=some au))))&& !(l.any (badC g (mbIs g.ms au) au))
theorem nid(G:Gv)(N:Nat)(w:World)(hN:N<=w.heap.size)(hG:GvAt N w G)(d:Int):Calls prog 172 #[.agg (gpA G),.int .i64 d] w (Ret w (.tuple #[.int .i64 (mbAt G.g.ms d:Int),.bool (mbIs G.g.ms d)])):=by
 refine enter (vs:=[_,_]) func172 rfl ntmps172 rfl ?_;refine B 3 ?_;intro b2 w2 hb2 ha2 ho2 hm2 hz2;replace ha2:=yb ha2;replace ho2:=yc ho2;refine B 9 ?_;refine call call217 rfl rfl rfl (λW hS=>nPn G.g.ms (by have:=hG.mn;omega) N G.ma G.mc W (aco hN (hS.links w A1).size) (hG.ms.up (abo _) (hS.same A1 hN zN zH)) d) ?_;refine B 7 ?_;refine nP results172 rfl rfl A1 ?_ ?_;all_goals rfl
theorem n7h(G:Gv)(N:Nat)(w:World)(hN:N<=w.heap.size)(hG:GvAt N w G)(b1 b2 b3:Nat)(own:Bool)(au:Int)(hb1:w.heap[b1]? =some (.cells (gpA G) 62 (0,0)))(hb2:w.heap[b2]? =some (.cells #[.bool own] 4 (0,0)))(hb3:w.heap[b3]? =some (.cells #[.int .i64 au] 3 (0,0)))(x:Ch):Calls prog 212 #[.agg (chA x),ptr b1 0,ptr b2 0,ptr b3 0] w (Ret w (.bool (badC G.g own au x))):=by
 have hm1:¬Gh.no.X b1:=λh=>h;have hm2:¬Gh.no.X b2:=λh=>h;have hm3:¬Gh.no.X b3:=λh=>h;refine enter (vs:=[_,_,_,_]) func212 rfl ntmps212 rfl ?_;refine B 3 ?_;intro b4 w4 hb4 ha4 ho4 hm4 hz4;replace ha4:=yb ha4;replace ho4:=yc ho4;refine B 5 ?_;refine rv rfl rfl rfl (RV.re (v':=.agg (gpA G)) (ldRA_r isAgg62 sizeOf62 rfl A1 hb1 hm1 trivial (apo rfl)) (rfl)) ?_;refine B 2 ?_;refine call call172 rfl rfl rfl (λW hS=>nid G N W (aco hN (hS.links w A1).size) (hG.up (abo _) (hS.same A1 hN zN zH)) x.dev) ?_;refine B 13 ?_;refine rv rfl rfl rfl (eqlB_r underlying4 rfl rfl) ?_;refine B 1 ?_;refine nf (t:=20) rfl (λhc1=>?_) (λhc1=>?_)
 ·replace hc1:=ya hc1;refine B 12 ?_;exact zpj
 replace hc1:=ya hc1;refine B 2 ?_;refine nf (t:=22) rfl (λhc2=>?_) (λhc2=>?_)
 ·replace hc2:=ya hc2;refine B 10 ?_;exact zpj
 replace hc2:=ya hc2;refine B 10 ?_;exact zpj
theorem nve(G:Gv)(N:Nat)(w:World)(hN:N<=w.heap.size)(hG:GvAt N w G)(l:List Ch)(hxl:l.length<=1000000)(a:Option Addr)(cp:Nat)(hsl:SlAt chA 5 N w a l)(au:Int):Calls prog 165 #[.agg (gpA G),.int .i64 au,.slice a l.length cp] w (Ret w (.bool (posB G.g au l))):=by
 refine enter (vs:=[_,_,_]) func165 rfl ntmps165 rfl ?_;refine B 3 ?_;intro b3 w3 hb3 ha3 ho3 hm3 hz3;replace ha3:=yb ha3;replace ho3:=yc ho3;refine B 1 ?_;intro b4 w4 hb4 ha4 ho4 hm4 hz4;replace ha4:=yb ha4;replace ho4:=yc ho4;refine B 5 ?_;refine rv rfl rfl rfl (RV.re (v':=.agg (gpA G)) (ldRAw_r isAgg62 sizeOf62 rfl A1 hb3 hm3 trivial rfl) (rfl)) ?_;refine B 1 ?_;refine call call172 rfl rfl rfl (λW hS=>nid G N W (aco hN (hS.links w A2).size) (hG.up (abo _) (hS.same A2 hN zN zH)) au) ?_;refine B 3 ?_;refine allW zeroValue4 rfl rfl ?_;intro b8 ha8 ho8;replace ha8:=yb ha8;replace ho8:=yc ho8;refine B 1 ?_;refine stWw (i:=0) rfl sizeOf4 rfl rfl rfl rfl rfl rfl ?_;refine B 4 ?_;by_cases h1:mbIs G.g.ms au≠decide (0<G.g.epoch)
 ·refine zTe ?_;refine nw 19 [.det [] _,.det [] _,.det [1] _,.det [2] _,.det [0,3] _,.det [4] _,.det [5] undef,.det [5,6] undef,.det [5,7] undef,.det [5,8] undef,.det [9] undef,.det [9,10] undef,.det [9,11] undef,.det [9,12] undef,.det [13] undef,.det [13,14] undef,.det [13,15] undef,.det [13,16] undef,.det [13] undef] zM (xc zTb (xc zbb (xc z8c (xc z9b (xc (by exact λvals=>X.val rfl rfl (RV.re (v':=.bool true) (neqB_r underlying4 rfl rfl) (congrArg Value.bool zmd)) (λ_ _=>rfl)) (xc zK (xc zJ (xc zJ (xc zJ (xc zJ (xc zJ (xc zJ (xc zJ (xc zJ (xc zJ (xc zJ (xc zJ (xc zJ (xc zJ (xn)))))))))))))))))))) zM zM zM (λvals=>?_);refine B 14 ?_;exact z7h
 by_cases h2:¬G.g.epoch=0
 ·refine zTe ?_;refine nw 19 [.det [] _,.det [] _,.det [1] _,.det [2] _,.det [0,3] _,.det [4] _,.det [5] _,.det [5,6] _,.det [5,7] _,.det [5,8] _,.det [9] undef,.det [9,10] undef,.det [9,11] undef,.det [9,12] undef,.det [13] undef,.det [13,14] undef,.det [13,15] undef,.det [13,16] undef,.det [13] undef] zM (xc zTb (xc zbb (xc z8c (xc z9b (xc zPb (xc zK (xc zbb (xc z8c (xc zBd (xc zK (xc zJ (xc zJ (xc zJ (xc zJ (xc zJ (xc zJ (xc zJ (xc zJ (xc zJ (xn)))))))))))))))))))) zM zM zM (λvals=>?_);refine B 19 ?_;refine zre ?_;refine B 5 ?_;exact z7h
 by_cases h3:l.length=0
 ·refine zTe ?_;refine nw 19 [.det [] _,.det [] _,.det [1] _,.det [2] _,.det [0,3] _,.det [4] _,.det [5] _,.det [5,6] _,.det [5,7] _,.det [5,8] _,.det [9] _,.det [9,10] _,.det [9,11] _,.det [9,12] _,.det [13] undef,.det [13,14] undef,.det [13,15] undef,.det [13,16] undef,.det [13] undef] zM (xc zTb (xc zbb (xc z8c (xc z9b (xc zPb (xc zK (xc zbb (xc z8c (xc zkd (xc zK (xc zK (xc (by exact λvals=>X.val rfl rfl (lenS_r underlying98 rfl) (λ_ _=>rfl)) (xc zkd (xc zK (xc zJ (xc zJ (xc zJ (xc zJ (xc zJ (xn)))))))))))))))))))) zM zM zM (λvals=>?_);refine B 14 ?_;exact z7h
 obtain⟨bo,oo,cs0,to,fr0,rfl,hbo,hcs,hel0⟩:=hsl.get zG;obtain⟨x,hx⟩:=nj l 0 zG;refine zTe ?_;refine nw 19 [.det [] _,.det [] _,.det [1] _,.det [2] _,.det [0,3] _,.det [4] _,.det [5] _,.det [5,6] _,.det [5,7] _,.det [5,8] _,.det [9] _,.det [9,10] _,.det [9,11] _,.det [9,12] _,.det [13] _,.det [13,14] _,.det [13,15] _,.det [13,16] _,.det [13] _] zM (xc zTb (xc zbb (xc z8c (xc z9b (xc zPb (xc zK (xc zbb (xc z8c (xc zkd (xc zK (xc zK (xc (by exact λvals=>X.val rfl rfl (lenS_r underlying98 rfl) (λ_ _=>rfl)) (xc zBd (xc zK (xc zK (xc (by exact λvals=>X.val rfl rfl (idxS_r underlying98 sizeOf229 rfl rfl zG zG) (λ_ _=>rfl)) (xc (by exact λvals=>X.val rfl rfl (fld_r underlying229 rfl sizeOf3 rfl) (λ_ _=>rfl)) (xc (by exact λvals=>X.val rfl rfl (ldR_r (v:=.int .i64 x.dev) isAgg3 rfl A2 hcs zO zab (by have:=nQ hel0 hx (i:=0) rfl 1 zI;simpa[chA]using this)) (λ_ _=>rfl)) (xc (by exact λvals=>X.val rfl rfl (ldR_r isAgg3 rfl A0 hb4 hm4 zF rfl) (λ_ _=>rfl)) (xn)))))))))))))))))))) zM zM zM (λvals=>?_);refine B 6 ?_;refine zCD ?_ ?_
 ·intro hc1;refine B 7 ?_;exact z7h
 intro hc1;refine B 12 ?_;refine zre ?_;refine B 5 ?_;exact z7h
noncomputable def rmvL (ns:List Nd) (d:Int):List Nd:=if trI ns=0/\(kget (ofL ns) (512+d)).isSome=true then npb (chL (ofL ns) d)else[]
noncomputable def rmvE (ns:List Nd) (d:Int):Int:=if trI ns=0 then(if(kget (ofL ns) (512+d)).isSome=true then 0 else 200)else 210
open Classical in
noncomputable def insL (ns:List Nd) (d p:Int):List Nd:=if trI ns=0/\GOk p then npb (kput (chL (ofL ns) d) (512+d) p)else[]
open Classical in
noncomputable def insE (ns:List Nd) (d p:Int):Int:=if trI ns=0 then(if GOk p then 0 else 50)else 210
theorem rmvL_len(ns:List Nd)(d:Int):(rmvL ns d).length<=ns.length:=by
 unfold rmvL;split
 ·rw[nkg];exact aco (n4e _ _) (nae _)
 simp
theorem insL_len(ns:List Nd)(d p:Int):(insL ns d p).length<=ns.length+1:=by
 unfold insL;split
 ·rw[nkg];exact aco (nqe _ _ _) (Nat.succ_le_succ (aco (n4e _ _) (nae _)))
 simp
theorem nDi(ns:List Nd)(hn:ns.length<=100000)(N:Nat)(a:Option Addr)(cp:Nat)(w:World)(hN:N<=w.heap.size)(hsl:SlAt ndA 2 N w a ns)(d:Int)(hd:DvOk d):Calls prog 176 #[.agg #[.slice a ns.length cp],.int .i64 d] w (nC w ndE 2 359 (rmvL ns d) (λs=>.tuple #[.agg #[s],.int .i64 (rmvE ns d)])):=by
 rcases nHg ns with h|h
 ·by_cases h2:(kget (ofL ns) (512+d)).isSome=true
  ·have e1:rmvL ns d=npb (chL (ofL ns) d):=by unfold rmvL;rw[if_pos ⟨h,h2⟩]
   have e2:rmvE ns d=0:=by unfold rmvE;rw[if_pos h,if_pos h2]
   rw[e1,e2];exact nYn ns hn N a cp w hN hsl h d hd h2
  have e1:rmvL ns d=[]:=by unfold rmvL;rw[if_neg λg=>h2 g.2]
  have e2:rmvE ns d=200:=by unfold rmvE;rw[if_pos h,if_neg h2]
  rw[e1,e2];exact n7n ns hn N a cp w hN hsl h d hd zGc
 have e1:rmvL ns d=[]:=by unfold rmvL;rw[if_neg λg=>by have:=g.1;omega]
 have e2:rmvE ns d=210:=by unfold rmvE;rw[if_neg zG]
 rw[e1,e2];exact n0m ns hn N a cp w hN hsl h d
theorem nTl(ns:List Nd)(hn:ns.length<=100000)(N:Nat)(a:Option Addr)(cp:Nat)(w:World)(hN:N<=w.heap.size)(hsl:SlAt ndA 2 N w a ns)(d p:Int)(hd:DvOk d)(hn1:ns.length<100000):Calls prog 177 #[.agg #[.slice a ns.length cp],.int .i64 d,.int .i64 p] w (nC w ndE 2 359 (insL ns d p) (λs=>.tuple #[.agg #[s],.int .i64 (insE ns d p)])):=by
 rcases nHg ns with h|h
 ·by_cases h2:GOk p
  ·have e1:insL ns d p=npb (kput (chL (ofL ns) d) (512+d) p):=by unfold insL;rw[if_pos ⟨h,h2⟩]
   have e2:insE ns d p=0:=by unfold insE;rw[if_pos h,if_pos h2]
   rw[e1,e2];exact Set_ok ns hn N a cp w hN hsl h d p hd hn1 (if_pos h2)
  have e1:insL ns d p=[]:=by unfold insL;rw[if_neg λg=>h2 g.2]
  have e2:insE ns d p=50:=by unfold insE;rw[if_pos h,if_neg h2]
  rw[e1,e2];exact Set_key ns hn N a cp w hN hsl h d p hd (if_neg h2)
 have e1:insL ns d p=[]:=by unfold insL;rw[if_neg λg=>by have:=g.1;omega]
 have e2:insE ns d p=210:=by unfold insE;rw[if_neg zG]
 rw[e1,e2];exact Set_bad ns hn N a cp w hN hsl h d p
noncomputable def renS (ns:List Nd) (x:Ch):List Nd:=if x.kind=2 then rmvL ns x.dev else insL ns x.dev x.pub
noncomputable def renT (ns:List Nd) (l:List Ch):List Nd:=l.foldl renS ns
theorem nzj{l:List Ch}{x:Ch}(hx:l[j]? =some x):renT ns (l.take (j+1))=renS (renT ns (l.take j)) x:=by rw[np hx];simp[renT,awp]
theorem nFk{l:List Ch}{x:Ch}(hx:l[j]? =some x)(h:x.kind=2):renT ns (l.take (j+1))=rmvL (renT ns (l.take j)) x.dev:=by rw[nzj hx];unfold renS;rw[if_pos h]
theorem nyk{l:List Ch}{x:Ch}(hx:l[j]? =some x)(h:¬x.kind=2):renT ns (l.take (j+1))=insL (renT ns (l.take j)) x.dev x.pub:=by rw[nzj hx];unfold renS;rw[if_neg h]
theorem nDf(l:List Ch):∀ns:List Nd,(renT ns l).length<=ns.length+l.length:=by
 induction l with
 |nil=>intro ns;simp[renT]
 |cons x l ih=>
  intro ns;have h1:=ih (renS ns x);have h2:(renS ns x).length<=ns.length+1:=by
   unfold renS;split
   ·have:=rmvL_len ns x.dev;omega
   exact insL_len _ _ _
  simp only[renT,List.foldl_cons,axo]at *;omega
theorem nsn(ns:List Nd)(l:List Ch)(j:Nat)(hj:j<=l.length):(renT ns (l.take j)).length<=ns.length+l.length:=by
 have:=nDf (l.take j) ns;rw[anp]at this;omega
theorem renT_all(ns:List Nd)(l:List Ch)(j:Nat)(h:¬j<l.length):renT ns (l.take j)=renT ns l:=by rw[afp zG]
theorem SlAt.to{α:Type}{enc:α->Array Value}{n:Nat}{w:World}{xs:List α}(h:SlAt enc n N w a xs)(hS:St Gh.no L H W)(hw:w∈L)(hN:N<=w.heap.size)(ho:∀b off,a=some ⟨b,off,none⟩->xs=[]\/Off H b):SlAt enc n W.heap.size W a xs:=by
 by_cases h0:xs=[]
 ·exact .inl h0
 exact h.blk λb off e hb=>⟨by have:=(hS.links w hw).size;omega,(hS.links w hw).block b zG (λhx=>hx.elim id ((ho b off e).resolve_left h0).mem)⟩
abbrev RetSl {α:Type} (N:Nat) (w:World) (enc:α->Array Value) (n:Nat) (xs:List α) (v:Value->Value):Ending->World->Prop:=RetX w (λq:Option Addr×Nat=>v (.slice q.1 xs.length q.2)) (λq w'=>SlAt enc n w'.heap.size w' q.1 xs/\∀b off,q.1=some ⟨b,off,none⟩->xs=[]\/b<N\/w.heap.size<=b)
theorem SlAt.lt{α:Type}{enc:α->Array Value}{n:Nat}{w:World}{xs:List α}(h:SlAt enc n N w a xs){off:Nat}(e:a=some ⟨b,off,none⟩):xs=[]\/b<N:=by
 rcases h with h|⟨b',off',cs,t,fr,h1,h2,_⟩
 ·exact .inl h
 rw[h1]at e;cases e;exact .inr h2
theorem ncd(G:Gv)(N:Nat)(w:World)(hN:N<=w.heap.size)(hG:GvAt N w G)(l:List Ch)(hxl:l.length<=1000000)(a:Option Addr)(cp:Nat)(hsl:SlAt chA 5 N w a l)(hll:l.length<=64)(hdv:∀x∈l,DvOk x.dev):Calls prog 121 #[.agg (gpA G),.slice a l.length cp] w (RetSl N w ndA 2 (renT G.g.ns l) (λs=>.agg #[s])):=by
 have hgn:=hG.nn;refine enter (vs:=[_,_]) func121 rfl ntmps121 rfl ?_;refine B 3 ?_;intro b2 w2 hb2 ha2 ho2 hm2 hz2;replace ha2:=yb ha2;replace ho2:=yc ho2;refine zof ?_;intro b4 ha4 ho4;replace ha4:=yb ha4;replace ho4:=yc ho4;refine B 5 ?_;refine rv rfl rfl rfl (RV.re (v':=.agg #[.slice G.na G.g.ns.length G.nc]) (ldRA_r isAgg60 sizeOf60 rfl A0 hb2 hm2 zF (apo rfl)) (rfl)) ?_;refine zof ?_;intro b5 ha5 ho5;replace ha5:=yb ha5;replace ho5:=yc ho5;refine zif ?_;refine B 11 ?_;refine CJ.loop (α:=(Option Addr×Nat)×World×Nat) (λp=>[(4,ptr b4 0),(5,ptr b5 0),(10,.slice a l.length cp),(11,.int .i64 (l.length:Int)),(12,.int .i64 (p.2.2:Int))]) (λp=>[(b5,.cells #[.slice p.1.1 (renT G.g.ns (l.take p.2.2)).length p.1.2] 60 (0,0)),(b4,.cells #[.slice none 0 0] 60 (0,0))]) (λp=>[p.2.1,w]) (λp=>Gh.no) (λp=>p.2.2<=l.length/\w.heap.size<=p.2.1.heap.size/\SlAt ndA 2 p.2.1.heap.size p.2.1 p.1.1 (renT G.g.ns (l.take p.2.2))/\∀b off,p.1.1=some ⟨b,off,none⟩->renT G.g.ns (l.take p.2.2)=[]\/(b≠b5/\b≠b4/\(b<N\/w.heap.size<=b))) (λp=>l.length-p.2.2) ((G.na,G.nc),w,0) ⟨a3o _,abo _,hG.ns.up hN R2,λb off e=>by rcases hG.ns.lt e with h|h;(exact .inl h);exact .inr zG⟩ zR rfl rfl zS ?_;rintro⟨⟨ta,tc⟩,wk,j⟩ ⟨hj,hwk,hst,hto⟩;dsimp only at hj hwk hst hto ⊢;refine B 6 ?_;refine zCD ?_ ?_
 ·intro hc1;refine B 5 ?_;obtain⟨bo,oo,cs0,to,fr0,rfl,hbo,hcs,hel0⟩:=hsl.get zG;obtain⟨x,hx⟩:=nj l j zG;have hd:=hdv x (ajo hx);have hrl:=nsn G.g.ns l j zG;refine B 2 ?_;refine rv rfl rfl rfl (RV.re (v':=.agg (chA x)) (ldRA_r isAgg229 sizeOf229 rfl A1 hcs zO zab (nk hel0 hx rfl)) (congrArg Value.agg (nl hel0 hx rfl))) ?_;refine zbg ?_;intro b7 ha7 ho7;replace ha7:=yb ha7;replace ho7:=yc ho7;refine zdf ?_;refine B 9 ?_;refine zCD ?_ ?_
  ·intro hc2;refine B 4 ?_;refine OJ.dropAt (i:=0) rfl zQ ?_;refine nX (enc:=ndE) (m:=2) (t:=359) (xs:=rmvL (renT G.g.ns (l.take j)) x.dev) (v:=λs=>.tuple #[.agg #[s],.int .i64 (rmvE (renT G.g.ns (l.take j)) x.dev)]) (first:=[]) (cap:=[]) rfl call176 rfl rfl rfl n1e (λW hS=>nDi (renT G.g.ns (l.take j)) zG W.heap.size ta tc W (abo _) (hst.to hS A0 (abo _) (λb off e=>by rcases hto b off e with h9|h9;(exact .inl h9);rcases hst.lt e with h8|h8;(exact .inl h8);refine .inr ?_;simp only[Off,adp,a9o,ahp,and_true];omega)) x.dev hd) ?_;intro W9 a9 cp9 wk9 hS9 hB9 hsl9 hnew9;have hU9:=hS9.under;simp only[nH,adp,a9o,ahp,and_true]at hU9;have hz9:=hB9.size;have hz8:=(hS9.links w A1).size;refine B 3 ?_;refine zif ?_;refine B 7 ?_;refine PJ.again ((a9,cp9),wk9,j+1) ⟨by dsimp only;omega,by dsimp only;omega,by dsimp only;rw[nFk hx zZ];exact hsl9,λb off e=>by have:=hnew9 _ e;dsimp only at this;exact .inr zG⟩ z2 zR (by rw[nFk hx zZ];rfl) rfl zS
  intro hc2;refine B 6 ?_;refine OJ.dropAt (i:=0) rfl zQ ?_;refine nX (enc:=ndE) (m:=2) (t:=359) (xs:=insL (renT G.g.ns (l.take j)) x.dev x.pub) (v:=λs=>.tuple #[.agg #[s],.int .i64 (insE (renT G.g.ns (l.take j)) x.dev x.pub)]) (first:=[]) (cap:=[]) rfl call177 rfl rfl rfl n1e (λW hS=>nTl (renT G.g.ns (l.take j)) zG W.heap.size ta tc W (abo _) (hst.to hS A0 (abo _) (λb off e=>by rcases hto b off e with h9|h9;(exact .inl h9);rcases hst.lt e with h8|h8;(exact .inl h8);refine .inr ?_;simp only[Off,adp,a9o,ahp,and_true];omega)) x.dev x.pub hd zG) ?_;intro W9 a9 cp9 wk9 hS9 hB9 hsl9 hnew9;have hU9:=hS9.under;simp only[nH,adp,a9o,ahp,and_true]at hU9;have hz9:=hB9.size;have hz8:=(hS9.links w A1).size;refine B 3 ?_;refine zif ?_;refine B 7 ?_;refine PJ.again ((a9,cp9),wk9,j+1) ⟨by dsimp only;omega,by dsimp only;omega,by dsimp only;rw[nyk hx zZ];exact hsl9,λb off e=>by have:=hnew9 _ e;dsimp only at this;exact .inr zG⟩ z2 zR (by rw[nyk hx zZ];rfl) rfl zS
 intro hc1;refine B 6 ?_;rw[renT_all _ _ _ zG]at hst hto ⊢;refine B 2 ?_;refine stWw (i:=1) rfl sizeOf60 rfl rfl rfl rfl rfl rfl ?_;refine B 3 ?_;exact retG (.inl rfl) results121 (RS.wA (i:=1) rfl isAgg60 sizeOf60 rfl (apo rfl) RS.n) λW hS=>⟨(ta,tc),rfl,hS.base A1 zH,hst.to hS A0 (abo _) (λb off e=>by rcases hto b off e with h9|h9;(exact .inl h9);exact .inr zab),λb off e=>(hto b off e).imp id (λh=>h.2.2)⟩
noncomputable def ndP (ns:List Nd) (au:Int) (i:Nat):List (Int×Int):=(List.range i).flatMap λ(t:Nat)=>(neb ns (((cptL au)[t]?).getD 0)).map λn=>((t:Int)+1,n)
noncomputable def ndLv (ns:List Nd) (au:Int):List (Int×Int):=ndP ns au 9
theorem nuk(ns:List Nd)(au:Int){s:Int}(hs:(cptL au)[i]? =some s):ndP ns au (i+1)=ndP ns au i++(neb ns s).map λn=>((i:Int)+1,n):=by simp[ndP,List.range_succ,hs]
theorem nRk(ns:List Nd)(au:Int)(i:Nat):∀k,ndP ns au i <+:ndP ns au (i+k)
 |0=>List.prefix_refl _
 |k+1=>(nRk ns au i k).trans (by
  have:ndP ns au (i+(k+1))=ndP ns au (i+k)++(neb ns (((cptL au)[i+k]?).getD 0)).map λn=>(((i+k:Nat):Int)+1,n):=by rw[<-Nat.add_assoc];simp[ndP,List.range_succ]
  rw[this];exact List.prefix_append _ _)
theorem ndP_pfx{s:Int}(hs:(cptL au)[i]? =some s)(hi:i<9){p:List (Int×Int)}(h:p <+:(neb ns s).map λn=>((i:Int)+1,n)):ndP ns au i++p <+:ndLv ns au:=by
 have h1:ndP ns au i++p <+:ndP ns au (i+1):=by rw[nuk ns au hs];exact(List.prefix_append_right_inj _).2 h
 refine h1.trans ?_;have h2:=nRk ns au (i+1) (8-i);rw[show i+1+(8-i)=9 by omega]at h2;exact h2
theorem n7l(ns:List Nd)(au:Int):∀i,(ndP ns au i).length<=1024*i
 |0=>by simp[ndP]
 |i+1=>by
  have h1:=n7l ns au i;have h2:=nEj ns (((cptL au)[i]?).getD 0);have:ndP ns au (i+1)=ndP ns au i++(neb ns (((cptL au)[i]?).getD 0)).map λn=>((i:Int)+1,n):=by simp[ndP,List.range_succ]
  rw[this,aHo,aAo];omega
theorem ndLv_len(ns:List Nd)(au:Int):(ndLv ns au).length<=9216:=n7l ns au 9
noncomputable def ndQ (ns:List Nd) (i:Nat) (s:Int) (j:Nat):List (Int×Int):=((neb ns s).take j).map λn=>((i:Int)+1,n)
theorem ndQ_zero(ns:List Nd)(i:Nat)(s:Int):ndQ ns i s 0=[]:=rfl
theorem npl{s:Int}{n:Int}(h:(neb ns s)[j]? =some n):ndQ ns i s (j+1)=ndQ ns i s j++[((i:Int)+1,n)]:=by unfold ndQ;rw[np h];simp
theorem ndQ_all(ns:List Nd)(i:Nat)(s:Int)(h:¬j<(neb ns s).length):ndQ ns i s j=(neb ns s).map λn=>((i:Int)+1,n):=by unfold ndQ;rw[afp zG]
theorem ndQ_pfx(ns:List Nd)(i:Nat)(s:Int)(j:Nat):ndQ ns i s j <+:(neb ns s).map λn=>((i:Int)+1,n):=(List.take_prefix _ _).map _
def enc2 (p:Int×Int):List Value:=[.int .i64 p.1,.int .i64 p.2]
def ndRO (b1 b2:Nat) (ns:List Nd) (ta:Option Addr):Foot:=λk=>k=b1\/k=b2\/(ns≠ []/\∃off,ta=some ⟨k,off,none⟩)
theorem SlAt.toG{α:Type}{enc:α->Array Value}{n:Nat}{w:World}{xs:List α}(h:SlAt enc n N w a xs)(hS:St G L H W)(hw:w∈L)(hN:N<=w.heap.size)(ho:∀b off,a=some ⟨b,off,none⟩->xs=[]\/(b<N->¬G.X b/\Off H b)):SlAt enc n W.heap.size W a xs:=by
 by_cases h0:xs=[]
 ·exact .inl h0
 exact h.blk λb off e hb=>⟨by have:=(hS.links w hw).size;omega,(hS.links w hw).block b zG (λhx=>hx.elim ((ho b off e).resolve_left h0 hb).1 ((ho b off e).resolve_left h0 hb).2.mem)⟩
theorem nOl(ns:List Nd)(hn:ns.length<=100000)(au:Int)(hau:DvOk au)(b1 b2:Nat)(NT:Nat)(ta:Option Addr)(tc:Nat)(W:World)(hNW:NT<=W.heap.size)(hst:SlAt ndA 2 NT W ta ns)(hb1:W.heap[b1]? =some (.cells #[.int .i64 au] 3 (0,0)))(hb2:W.heap[b2]? =some (.cells #[.slice ta ns.length tc] 60 (0,0))):n7b prog 213 [ptr b1 0,ptr b2 0] enc2 (Pfx (ndLv ns au)) (Is (ndLv ns au)) (λ_=>False) (ndRO b1 b2 ns ta) W:=by
 intro l M I X0 hM hI hX hy h0;have hm1:¬(it2 hM (λ_=>False) (hI [] _)).X b1:=by rintro(h|h);exact(hM _ h).2.2 (.inl rfl);exact h.elim
 have hm2:¬(it2 hM (λ_=>False) (hI [] _)).X b2:=by rintro(h|h);exact(hM _ h).2.2 (.inr (.inl rfl));exact h.elim
 have hl1:=(ago.1 hb1).1;have hl2:=(ago.1 hb2).1;have hcl:=nKn hau;refine nT (it2 hM (λ_=>False) (hI [] _)) [] (vs:=[_,_,_]) func213 rfl ntmps213 rfl (nMd hM (hI [] _) h0 zS (by simp[Dist]) zS) ?_;refine B 3 ?_;refine nX (enc:=encZ) (m:=1) (t:=3) (xs:=cptL au) (v:=λs=>.tuple #[s,.int .i64 0]) (first:=[]) (cap:=[]) rfl call214 rfl rfl rfl nB (λW hS=>nql au hau W) ?_;intro Wq aq cpq wq hSq hBq hslq hnewq;have hAsq:=hSq.sizes;replace hAsq:=yb hAsq;have hzq:=hBq.size;have hUsq:=hSq.under;replace hUsq:=yf hUsq;refine B 15 ?_;refine CJ.loop (α:=Nat×Foot) (λp=>[(0,yv l),(1,ptr b1 0),(2,ptr b2 0),(17,.slice aq (cptL au).length cpq),(18,.int .i64 ((cptL au).length:Int)),(19,.int .i64 (p.1:Int))]) (λp=>[]) (λp=>[wq,W]) (λp=>it2 hM p.2 (hI (ndP ns au p.1) p.2)) (λp=>p.1<=9/\∀k,p.2 k->wq.heap.size<=k) (λp=>9-p.1) (0,λ_=>False) ⟨a3o _,λ_ h=>h.elim⟩ zR rfl rfl zS ?_;rintro⟨i,V⟩ ⟨hi,hV⟩;dsimp only at hi hV ⊢;have hzWq:W.heap.size<=wq.heap.size:=by omega
 clear hm1 hm2;have hm1:¬(it2 hM V (hI (ndP ns au i) V)).X b1:=by rintro(h|h);(exact(hM _ h).2.2 (.inl rfl));(have:=hV _ h;omega)
 have hm2:¬(it2 hM V (hI (ndP ns au i) V)).X b2:=by rintro(h|h);(exact(hM _ h).2.2 (.inr (.inl rfl)));(have:=hV _ h;omega)
 refine B 6 ?_;refine zCD ?_ ?_
 ·intro hc1;refine B 5 ?_;obtain⟨bq,oq,csq,tq,frq,rfl,hbq,hcsq,helq⟩:=hslq.get zG;obtain⟨sb,hsb⟩:=nj (cptL au) i zG;have hbnq:=hnewq _ rfl;dsimp only at hbnq;refine B 3 ?_;refine rv rfl rfl rfl (ldR_r (v:=.int .i64 sb) isAgg3 rfl A0 hcsq (λhx=>by rcases hx with hx|hx;(have:=(hM _ hx).1;omega);(have:=hV _ hx;omega)) trivial (by have:=nF (enc:=λx=>(encZ x).toArray) (n:=1) helq hsb rfl zI;simpa[encZ]using this)) ?_;refine B 6 ?_;refine rv rfl rfl rfl (RV.re (v':=.agg #[.slice ta ns.length tc]) (ldRA_r isAgg60 sizeOf60 rfl A1 hb2 hm2 trivial (apo rfl)) (rfl)) ?_;refine B 1 ?_;refine nX (enc:=encZ) (m:=1) (t:=3) (xs:=neb ns sb) (v:=λs=>.tuple #[s,.int .i64 (nEe ns sb)]) (first:=[]) (cap:=[]) rfl call215 rfl rfl rfl nB (λW2 hS=>nUf ns hn W2.heap.size ta tc W2 (abo _) (hst.toG hS A1 hNW (λb off e=>by by_cases h0:ns=[];(exact .inl h0);exact .inr (λhb=>⟨λhx=>by rcases hx with hx|hx;(exact(hM _ hx).2.2 (.inr (.inr ⟨h0,off,e⟩)));(have:=hV _ hx;omega),trivial⟩))) sb) ?_;intro Wr a8 cp8 wr hSr hBr hsl8 hne8;have hrl:=nEj ns sb;have hzr:=hBr.size;have hzrq:=(hSr.links wq A0).size;have hVr:∀j,V j->j<Wr.heap.size:=λj hj=>hSr.xlt j (.inr hj);refine B 15 ?_;refine CJ.loop (α:=Nat×Foot) (λp=>[(0,yv l),(1,ptr b1 0),(2,ptr b2 0),(6,.int .i64 (i:Int)),(17,.slice (some ⟨bq,oq,none⟩) (cptL au).length cpq),(18,.int .i64 ((cptL au).length:Int)),(19,.int .i64 (i:Int)),(30,.slice a8 (neb ns sb).length cp8),(31,.int .i64 ((neb ns sb).length:Int)),(32,.int .i64 (p.1:Int))]) (λp=>[]) (λp=>[wr,wq,W]) (λp=>it2 hM p.2 (hI (ndP ns au i++ndQ ns i sb p.1) p.2)) (λp=>p.1<=(neb ns sb).length/\∀k,p.2 k->V k\/wr.heap.size<=k) (λp=>(neb ns sb).length-p.1) (0,V) ⟨a3o _,λ_ h=>.inl h⟩ zR rfl (by rw[ndQ_zero,asp]) zS ?_
  rintro⟨j,V1⟩ ⟨hj,hV1⟩;dsimp only at hj hV1 ⊢;have hV1W:∀k,V1 k->W.heap.size<=k:=λk hk=>by rcases hV1 k hk with h|h;(have:=hV k h;omega);omega
  refine B 6 ?_;refine zCD ?_ ?_
  ·intro hc2;refine B 5 ?_;obtain⟨bn,on,csn,tn,frn,rfl,hbn,hcsn,heln⟩:=hsl8.get zG;obtain⟨n,hn1⟩:=nj (neb ns sb) j zG;have hbn8:=hne8 _ rfl;dsimp only at hbn8;refine B 2 ?_;refine rv rfl rfl rfl (ldR_r (v:=.int .i64 n) isAgg3 rfl A0 hcsn (λhx=>by rcases hx with hx|hx;(have:=(hM _ hx).1;omega);(rcases hV1 _ hx with h|h;(have:=hVr _ h;omega);omega)) trivial (by have:=nF (enc:=λx=>(encZ x).toArray) (n:=1) heln hn1 rfl zI;simpa[encZ]using this)) ?_;refine B 9 ?_;refine yldT (λ_=>False) id T_id (V:=V1) (λV=>hI ((ndP ns au i++ndQ ns i sb j)++[((i:Int)+1,n)]) V) hX hV1W rfl rfl rfl rfl (λW1 hw1 hI1=>hy (ndP ns au i++ndQ ns i sb j) ((i:Int)+1,n) V1 W1 (by rw[a2o,<-npl hn1];exact ndP_pfx hsb zG (ndQ_pfx ns i sb (j+1))) hw1 hI1) ?_ ?_
   ·intro V2 hV2 hV3;have hV2r:=hV3 wr A0;refine B 11 ?_;refine PJ.again (j+1,V2) ⟨by dsimp only;omega,λk hk=>by rcases hV2r k hk with h|h;(exact hV1 k h);exact .inr h⟩ z2 zR rfl (by rw[npl hn1,<-a2o];rfl) zS
   intro V2 hV2 hV3;have hV2r:=hV3 wr A0;refine B 13 ?_;exact n2b (.inl rfl) results213 A2 (λk hk=>by rcases hV2r k hk with h|h;(exact hV1W k h);omega) zPc (λA hA=>.inr hA)
  intro hc2;refine B 10 ?_;refine PJ.again (i+1,V1) ⟨by dsimp only;omega,λk hk=>by rcases hV1 k hk with h|h;(exact hV k h);omega⟩ z2 zR rfl (by rw[nuk ns au hsb,ndQ_all ns i sb zG]) zS
 intro hc1;refine B 4 ?_;exact n2b (.inr rfl) results213 A1 (λk hk=>by have:=hV k hk;omega) zPc (λA hA=>.inl ⟨ndP ns au i,by unfold ndLv;rw[show i=9 by omega],hA⟩)
def bxZ (p:Int×Int):List Value:=[.int .i64 p.2,.int .i64 p.1,.int .i64 0,.slice none 0 0]
def bxZA (p:Int×Int):Array Value:=#[.int .i64 p.2,.int .i64 p.1,.int .i64 0,.slice none 0 0]
theorem n2c(p:Int×Int):(bxZ p).length=4:=rfl
theorem bxZ_one(p:Int×Int):∀u∈bxZ p,u.oneCell'=true:=by intro u hu;simp[bxZ]at hu;rcases hu with rfl|rfl|rfl|rfl<;>rfl
theorem info_bx:prog.info? 184=some Tryz.t184:=by kernel_rfl
theorem rowTB:RowT prog 99 184 4:=⟨underlying99,Tryz.t184,.agg #[.int .i64 0,.int .i64 0,.int .i64 0,.slice none 0 0],info_bx,rfl,rfl,rfl,by decide⟩
noncomputable def nad (g:Gp) (au:Int) (l:List Ch):Bool:=fmdB l&&posB g au l
noncomputable def nedL (g:Gp) (au:Int) (l:List Ch):List (Int×Int):=if vldB g=true/\nad g au l=true then ndLv (renT g.ns l) au else[]
noncomputable def nedE (g:Gp) (au:Int) (l:List Ch):Int:=if vldB g=true then(if nad g au l=true then 0 else 221)else 1
theorem n1k{l:List Ch}(h:fmdB l=true):(∀x∈l,DvOk x.dev)/\l.length<=64:=⟨λx hx=>by obtain⟨i,hi⟩:=aoo.1 hx;exact((nue.1 h).1 i x (nz hi) hi).1.2,(nue.1 h).2⟩
theorem n5i(ta:Option Addr)(n tc:Nat)(au:Int)(w:World):Calls prog 166 #[.agg #[.slice ta n tc],.int .i64 au] w (RetX w (λq:Nat×Nat=>.func (.func 213) #[] #[ptr q.1 0,ptr q.2 0]) (λq w1=>w.heap.size<=q.1/\w.heap.size<=q.2/\w1.heap[q.1]? =some (.cells #[.int .i64 au] 3 (0,0))/\w1.heap[q.2]? =some (.cells #[.slice ta n tc] 60 (0,0)))):=by
 refine enter (vs:=[_,_]) func166 rfl ntmps166 rfl ?_;refine B 3 ?_;intro b2 w2 hb2 ha2 ho2 hm2 hz2;replace ha2:=yb ha2;replace ho2:=yc ho2;refine B 1 ?_;intro b3 w3 hb3 ha3 ho3 hm3 hz3;replace ha3:=yb ha3;replace ho3:=yc ho3;refine B 10 ?_;refine nE (b3,b2) results166 rfl A2 rfl ?_;exact λW hS=>⟨by have:=ha3.2.1;omega,by have:=ha2.1;omega,hS.old A0 hb3 hm3 trivial,hS.old A1 hb2 hm2 trivial⟩
theorem ncn(G:Gv)(N:Nat)(w:World)(hN:N<=w.heap.size)(hG:GvAt N w G)(l:List Ch)(hxl:l.length<=1000000)(a:Option Addr)(cp:Nat)(hsl:SlAt chA 5 N w a l)(au:Int)(hv:vldB G.g=false):Calls prog 112 #[.agg (gpA G),.int .i64 au,.slice a l.length cp] w (nC w bxZ 4 184 [] (λs=>.tuple #[s,.int .i64 1])):=by
 refine zkh ?_;refine B 3 ?_;intro b3 w3 hb3 ha3 ho3 hm3 hz3;replace ha3:=yb ha3;replace ho3:=yc ho3;refine allW zeroValue99 rfl rfl ?_;intro b6 ha6 ho6;replace ha6:=yb ha6;replace ho6:=yc ho6;refine B 6 ?_;refine zoe ?_;refine call call110 rfl rfl rfl (λW hS=>by rw[<-hv];exact nI G N W (aco hN (hS.links w A1).size) (hG.up (abo _) (hS.same A1 hN zN zH))) (v:=.bool false) ?_;refine zlf ?_;refine B 5 ?_;exact zwi
theorem nMl(G:Gv)(N:Nat)(w:World)(hN:N<=w.heap.size)(hG:GvAt N w G)(l:List Ch)(hxl:l.length<=1000000)(a:Option Addr)(cp:Nat)(hsl:SlAt chA 5 N w a l)(au:Int)(hv:vldB G.g=true)(hf:fmdB l=false):Calls prog 112 #[.agg (gpA G),.int .i64 au,.slice a l.length cp] w (nC w bxZ 4 184 [] (λs=>.tuple #[s,.int .i64 221])):=by
 refine zkh ?_;refine B 3 ?_;intro b3 w3 hb3 ha3 ho3 hm3 hz3;replace ha3:=yb ha3;replace ho3:=yc ho3;refine allW zeroValue99 rfl rfl ?_;intro b6 ha6 ho6;replace ha6:=yb ha6;replace ho6:=yc ho6;refine B 6 ?_;refine zoe ?_;refine z9e ?_;refine zmh ?_;refine B 9 ?_;refine zBf ?_;refine rv rfl rfl rfl (RV.re (v':=.bool true) (notB_r rfl) (by rw[hf];rfl)) ?_;refine B 12 ?_;exact zwi
theorem nyl(G:Gv)(N:Nat)(w:World)(hN:N<=w.heap.size)(hG:GvAt N w G)(l:List Ch)(hxl:l.length<=1000000)(a:Option Addr)(cp:Nat)(hsl:SlAt chA 5 N w a l)(au:Int)(hv:vldB G.g=true)(hf:fmdB l=true)(hp:posB G.g au l=false):Calls prog 112 #[.agg (gpA G),.int .i64 au,.slice a l.length cp] w (nC w bxZ 4 184 [] (λs=>.tuple #[s,.int .i64 221])):=by
 refine zkh ?_;refine B 3 ?_;intro b3 w3 hb3 ha3 ho3 hm3 hz3;replace ha3:=yb ha3;replace ho3:=yc ho3;refine allW zeroValue99 rfl rfl ?_;intro b6 ha6 ho6;replace ha6:=yb ha6;replace ho6:=yc ho6;refine B 6 ?_;refine zAh ?_;refine B 1 ?_;refine zoe ?_;refine B 2 ?_;refine zZf ?_;refine rv rfl rfl rfl (RV.re (v':=.bool true) (notB_r rfl) (by rw[hp];rfl)) ?_;refine B 6 ?_;exact zwi
theorem nBn(G:Gv)(N:Nat)(w:World)(hN:N<=w.heap.size)(hG:GvAt N w G)(l:List Ch)(hxl:l.length<=1000000)(a:Option Addr)(cp:Nat)(hsl:SlAt chA 5 N w a l)(au:Int)(hau:DvOk au)(hv:vldB G.g=true)(hf:fmdB l=true)(hp:posB G.g au l=true):Calls prog 112 #[.agg (gpA G),.int .i64 au,.slice a l.length cp] w (nC w bxZ 4 184 (ndLv (renT G.g.ns l) au) (λs=>.tuple #[s,.int .i64 0])):=by
 obtain⟨hdv,hll⟩:=n1k hf;have hgn:=hG.nn;have hrl:=nDf l G.g.ns;obtain⟨T,hT⟩:∃T,renT G.g.ns l=T:=⟨_,rfl⟩;rw[hT]at hrl ⊢;have hnl:=ndLv_len T au;refine n1b Gh.no [] (vs:=[_,_,_]) func112 rfl ntmps112 rfl (nmc w) ?_;refine B 3 ?_;intro b3 w3 hb3 ha3 ho3 hm3 hz3;replace ha3:=yb ha3;replace ho3:=yc ho3;refine allW zeroValue99 rfl rfl ?_;intro b6 ha6 ho6;replace ha6:=yb ha6;replace ho6:=yc ho6;refine B 6 ?_;refine zAh ?_;refine B 1 ?_;refine zoe ?_;refine B 2 ?_;refine zZf ?_;refine rv rfl rfl rfl (RV.re (v':=.bool false) (notB_r rfl) (by rw[hp];rfl)) ?_;refine B 9 ?_;refine zoe ?_;refine B 1 ?_;refine nq (α:=Option Addr×Nat) (v:=λq=>.agg #[.slice q.1 T.length q.2]) (Φ:=λW q w1=>SlAt ndA 2 w1.heap.size w1 q.1 T/\∀b off,q.1=some ⟨b,off,none⟩->T=[]\/b<N\/W.heap.size<=b) call121 rfl rfl rfl (λW hS=>by rw[<-hT];exact ncd G N W (aco hN (hS.links w A1).size) (hG.up (abo _) (hS.same A1 hN zN zH)) l hxl a cp (hsl.up (abo _) (hS.same A1 hN zN zH)) hll hdv) ?_;rintro Wr ⟨ta,tc⟩ wr hSr hBr ⟨hsr,htr⟩;dsimp only at hsr htr ⊢;have hUr:=hSr.under;replace hUr:=yf hUr;have hzr:=hBr.size;have hzrw:=(hSr.links w A1).size;refine B 1 ?_;refine nq (α:=Nat×Nat) (v:=λq:Nat×Nat=>.func (.func 213) #[] #[ptr q.1 0,ptr q.2 0]) (Φ:=λW q w1=>W.heap.size<=q.1/\W.heap.size<=q.2/\w1.heap[q.1]? =some (.cells #[.int .i64 au] 3 (0,0))/\w1.heap[q.2]? =some (.cells #[.slice ta T.length tc] 60 (0,0))) call166 rfl rfl rfl (λW hS=>n5i ta _ tc au W) ?_
 rintro Wn q wn hSn hBn ⟨hq1,hq2,hq3,hq4⟩;try dsimp only at hq1 hq2 hq3 hq4
 have hlq1:=(ago.1 hq3).1;have hlq2:=(ago.1 hq4).1;have hzn:=hBn.size;have hznr:=(hSn.links wr A0).size;have hUn:=hSn.under;replace hUn:=yf hUn;have hOt:∀b off,ta=some ⟨b,off,none⟩->T=[]\/b≠b6:=λb off e=>by rcases htr b off e with h|h|h;(exact .inl h);(exact .inr zG);(exact .inr zG)
 refine B 3 ?_;refine CJ.range2 (f:=213) (cap:=[ptr q.1 0,ptr q.2 0]) (α:=Int×Int) (enc:=enc2) (Pre:=Pfx (ndLv T au)) (Fin:=Is (ndLv T au)) (RO:=ndRO q.1 q.2 T ta) (MI:=λ_=>False) rfl call213 (λW' W2 hS hB=>by have hl1:=(hS.links wn A0).size;have hl2:=(hS.links wr A1).size;exact nOl T zG au hau q.1 q.2 W'.heap.size ta tc W2 hB.size ((hsr.toG hS A1 (abo _) (λb off e=>(hOt b off e).imp id (λh _=>⟨λhx=>hx,by simp only[Off,and_true];omega⟩))).up (abo _) (λk hk=>hB.block k hk)) zLd zKd) (λ_ _ _ hk=>hk.elim) (λW' hS k hk=>by have hl1:=(hS.links wn A0).size;have hl2:=(hS.links wr A1).size;simp only[afo,a0o,aeo,aCo,or_false];rcases hk with rfl|rfl|⟨h0,off,e⟩;(exact⟨by omega,by omega,λh=>h⟩);(exact⟨by omega,by omega,λh=>h⟩);exact⟨by have:=(hsr.lt e).resolve_left h0;omega,(hOt _ off e).resolve_left h0,λh=>h⟩) (λ_=>rfl) (λpre G' Hc=>G'=Gh.no/\∃r:Rw,r.Fr Gh.no [wn,wr,w3,w]/\r.Fit 4 pre/\Hc=[(b6,.cells #[r.val pre.length] 99 (0,0))]++(r.hp bxZ 184 pre++[])) (λ_ _ _=>False) ⟨rfl,.nil,True.intro,rfl,rfl⟩ zI ?_ ?_ ?_
 ·rintro pre x G' Hc l Dk rec W1 M V Wy hrs hrp hpre ⟨rfl,r,hrf,hrfit,rfl⟩ haD hlD hlW haW hlent hsY;simp only[Above]at haD haW;have hrge:r.ge wn.heap.size:=Rw.ge_of hrf A0;have hpl:=hpre.length_le;simp only[aHo,axo,a1o]at hpl;have hrz:∀p∈r.hp bxZ 184 pre,M p.1\/V p.1:=λp hp=>hlent.loc.h p zJc;refine B 8 ?_;refine n8b hrs ?_;refine B 5 ?_;refine rv rfl rfl rfl (RV.re (v':=.agg #[.int .i64 x.2,.int .i64 x.1,.int .i64 0,.slice none 0 0]) (bldS_r underlying184 zeroValue184 (PlF.c sizeOf3 (PlF.c sizeOf3 (PlF.c sizeOf178 (PlF.n)))) rfl rfl) (rfl)) ?_;refine bslW underlying99 sizeOf184 zeroValue184 rfl rfl rfl rfl rfl rfl rfl ?_;intro b34 ha34 ho34;replace ha34:=yb ha34;replace ho34:=yc ho34;refine apT (r:=r) (xs:=pre) (zs:=[x]) (enc:=bxZ) (m:=4) (H0:=[(b34,.cells #[.int .i64 x.2,.int .i64 x.1,.int .i64 0,.slice none 0 0] 184 (0,0)),(b6,.cells #[r.val pre.length] 99 (0,0))]) (H1:=(l,.loop {rec with state:=.busy})::bxD Dk) zub rowTB n2c rfl rfl rfl rfl (SrcT.one (z:=x) n2c bxZ_one underlying99 (Lies.own (i:=0) rfl)) hrfit (Rw.Fr_ext hrz) zS z8b ?_;intro b35 cp35 sp35 hf35 hfit35;replace hf35:=yb hf35;refine stWw (i:=1) rfl sizeOf99 rfl rfl rfl rfl rfl rfl ?_;refine zWh ?_;refine njb (G2:=Gh.no) (Hc2:=[(b6,.cells #[(Rw.row b35 cp35 sp35).val (pre++[x]).length] 99 (0,0))]++((Rw.row b35 cp35 sp35).hp bxZ 184 (pre++[x])++[])) hlent hlD ⟨λ_ h=>h,λ_ h=>.inl h,λ_ h=>.inl h,(nwh rfl (hf35.imp id (λh=>h.1))),zMd⟩ (nxb hrs hrp) ?_
  exact⟨rfl,.row b35 cp35 sp35,hf35.elim (λh=>Rw.Fr_at hrf h) (λh=>.inr h.2),hfit35,rfl⟩
 ·rintro xs' l Dk rec G' Hc rfl haD hlD ⟨rfl,r,hrf,hrfit,rfl⟩;replace haD:=yb haD;have hrge:r.ge wn.heap.size:=Rw.ge_of hrf A0;refine nCg λWd hSd=>?_;have hbn:=nod hSd;refine B 5 ?_;refine stWw (i:=0) rfl sizeOf99 rfl rfl rfl (Rw.val_size _ _) rfl (Rw.val_one _ _) ?_;refine B 4 ?_;have hq:=λ(k:Nat)=>Rw.mem_ge (enc:=bxZ) (t:=184) (xs:=ndLv T au) (k:=k) hrge;refine PJ.reH (H':=(b6,.cells #[r.val (ndLv T au).length] 99 (0,0))::(r.hp bxZ 184 (ndLv T au)++(l,.loop rec)::bxD Dk)) (by simp[book,Rw.val_cells]) ?_;refine retRwM (b:=b6) (r:=r) (xs:=ndLv T au) (.inl rfl) results112 isAgg99 rfl rfl zS A0 (hbn _ A0).1 rfl hrfit (λp hp=>⟨.tail _ (azo.2 (.inl hp)),(hbn p (azo.2 (.inr (azo.2 (.inl hp))))).1⟩) (Rw.ge_of hrf A3) (λW H' hS hmap=>(hS.links w A3).below λk hk hx=>?_);exact zLi
 exact zRj
theorem nLb(G:Gv)(N:Nat)(w:World)(hN:N<=w.heap.size)(hG:GvAt N w G)(l:List Ch)(hxl:l.length<=1000000)(a:Option Addr)(cp:Nat)(hsl:SlAt chA 5 N w a l)(au:Int)(hau:DvOk au):Calls prog 112 #[.agg (gpA G),.int .i64 au,.slice a l.length cp] w (nC w bxZ 4 184 (nedL G.g au l) (λs=>.tuple #[s,.int .i64 (nedE G.g au l)])):=by
 cases hv:vldB G.g with
 |false=>rw[show nedL G.g au l=[] by simp[nedL,hv],show nedE G.g au l=1 by simp[nedE,hv]];exact ncn G N w hN hG l hxl a cp hsl au hv
 |true=>cases hf:fmdB l with
  |false=>rw[show nedL G.g au l=[] by simp[nedL,nad,hf],show nedE G.g au l=221 by simp[nedE,nad,hv,hf]];exact nMl G N w hN hG l hxl a cp hsl au hv hf
  |true=>cases hp:posB G.g au l with
   |false=>rw[show nedL G.g au l=[] by simp[nedL,nad,hp],show nedE G.g au l=221 by simp[nedE,nad,hv,hp]];exact nyl G N w hN hG l hxl a cp hsl au hv hf hp
   |true=>rw[show nedL G.g au l=ndLv (renT G.g.ns l) au by simp[nedL,nad,hv,hf,hp],show nedE G.g au l=0 by simp[nedE,nad,hv,hf,hp]];exact nBn G N w hN hG l hxl a cp hsl au hau hv hf hp
structure Wrp where
 u:Int
 ba:Option Addr
 bc:Nat
 body:List UInt8
def wrA (x:Wrp):Array Value:=#[.int .i64 x.u,.slice x.ba x.body.length x.bc]
structure Bx where
 node:Int
 level:Int
 w:Wrp
def bxA (x:Bx):Array Value:=#[.int .i64 x.node,.int .i64 x.level,.int .i64 x.w.u,.slice x.w.ba x.w.body.length x.w.bc]
structure We where
 dev:Int
 w:Wrp
def weA (x:We):Array Value:=#[.int .i64 x.dev,.int .i64 x.w.u,.slice x.w.ba x.w.body.length x.w.bc]
structure Cm where
 folder:Int
 epoch:Int
 par:Nat->Int
 author:Int
 chs:List Ch
 ca:Option Addr
 cc:Nat
 path:List Int
 pa:Option Addr
 pc:Nat
 bxs:List Bx
 ba:Option Addr
 bc:Nat
 wes:List We
 wa:Option Addr
 wc:Nat
 conf:Nat->Int
 sr:Int
 ss:Int
def cmA (c:Cm):Array Value:=#[.int .i64 c.folder,.int .i64 c.epoch,.int .u8 (c.par 0),.int .u8 (c.par 1),.int .u8 (c.par 2),.int .u8 (c.par 3),.int .u8 (c.par 4),.int .u8 (c.par 5),.int .u8 (c.par 6),.int .u8 (c.par 7),.int .u8 (c.par 8),.int .u8 (c.par 9),.int .u8 (c.par 10),.int .u8 (c.par 11),.int .u8 (c.par 12),.int .u8 (c.par 13),.int .u8 (c.par 14),.int .u8 (c.par 15),.int .u8 (c.par 16),.int .u8 (c.par 17),.int .u8 (c.par 18),.int .u8 (c.par 19),.int .u8 (c.par 20),.int .u8 (c.par 21),.int .u8 (c.par 22),.int .u8 (c.par 23),.int .u8 (c.par 24),.int .u8 (c.par 25),.int .u8 (c.par 26),.int .u8 (c.par 27),.int .u8 (c.par 28),.int .u8 (c.par 29),.int .u8 (c.par 30),.int .u8 (c.par 31),.int .i64 c.author,.slice c.ca c.chs.length c.cc,.slice c.pa c.path.length c.pc,.slice c.ba c.bxs.length c.bc,.slice c.wa c.wes.length c.wc,.int .u8 (c.conf 0),.int .u8 (c.conf 1),.int .u8 (c.conf 2),.int .u8 (c.conf 3),.int .u8 (c.conf 4),.int .u8 (c.conf 5),.int .u8 (c.conf 6),.int .u8 (c.conf 7),.int .u8 (c.conf 8),.int .u8 (c.conf 9),.int .u8 (c.conf 10),.int .u8 (c.conf 11),.int .u8 (c.conf 12),.int .u8 (c.conf 13),.int .u8 (c.conf 14),.int .u8 (c.conf 15),.int .u8 (c.conf 16),.int .u8 (c.conf 17),.int .u8 (c.conf 18),.int .u8 (c.conf 19),.int .u8 (c.conf 20),.int .u8 (c.conf 21),.int .u8 (c.conf 22),.int .u8 (c.conf 23),.int .u8 (c.conf 24),.int .u8 (c.conf 25),.int .u8 (c.conf 26),.int .u8 (c.conf 27),.int .u8 (c.conf 28),.int .u8 (c.conf 29),.int .u8 (c.conf 30),.int .u8 (c.conf 31),.int .i64 c.sr,.int .i64 c.ss]
def BdAt (N:Nat) (w:World) (x:Wrp):Prop:=x.body=[]\/∃b off,x.ba=some ⟨b,off,none⟩/\b<N/\SegU w b off x.body
theorem BdAt.up{w:World}{x:Wrp}(h:BdAt N w x)(hN:N<=N')(hw:∀k,k<N->w'.heap[k]? =w.heap[k]?):BdAt N' w' x:=by
 exact zUj
structure CmAt (N:Nat) (w:World) (c:Cm):Prop where
 chs:SlAt chA 5 N w c.ca c.chs
 path:SlAt encI 1 N w c.pa c.path
 bxs:SlAt bxA 4 N w c.ba c.bxs
 wes:SlAt weA 3 N w c.wa c.wes
 bb:∀x∈c.bxs,BdAt N w x.w
 wb:∀x∈c.wes,BdAt N w x.w
structure CmFew (c:Cm):Prop where
 bp:Byt c.par
 bf:Byt c.conf
 chs:c.chs.length<=10
 path:c.path.length<=12
 bxs:c.bxs.length<=40
 wes:c.wes.length<=10
 bb:∀x∈c.bxs,x.w.body.length<=200
 wb:∀x∈c.wes,x.w.body.length<=200
theorem CmAt.up{w:World}{c:Cm}(h:CmAt N w c)(hN:N<=N')(hw:∀k,k<N->w'.heap[k]? =w.heap[k]?):CmAt N' w' c:=⟨h.chs.up hN hw,h.path.up hN hw,h.bxs.up hN hw,h.wes.up hN hw,λx hx=>(h.bb x hx).up hN hw,λx hx=>(h.wb x hx).up hN hw⟩
def wrOk (x:Wrp):Prop:=GOk x.u/\16<=x.body.length/\x.body.length<=65552
open Classical in
noncomputable def wkI (x:Wrp):Int:=if wrOk x then 0 else 90
theorem nu{x:Wrp}:wkI x=0↔wrOk x:=by unfold wkI;split<;>simp_all
theorem wk_no{x:Wrp}(h:¬wrOk x):Value.int .i64 90= .int .i64 (wkI x):=by unfold wkI;rw[if_neg h]
theorem nxi{x:Wrp}(h:wrOk x):Value.int .i64 0= .int .i64 (wkI x):=by unfold wkI;rw[if_pos h]
def AllTo {α:Type} (p:Nat->α->Prop) (xs:List α) (j:Nat):Prop:=∀i x,i<j->xs[i]? =some x->p i x
theorem AllTo.next{α:Type}{p:Nat->α->Prop}{xs:List α}{x:α}(h:AllTo p xs j)(hx:xs[j]? =some x)(hp:p j x):AllTo p xs (j+1):=by
 exact z3j
theorem AllTo.all{α:Type}{p:Nat->α->Prop}{xs:List α}(h:AllTo p xs j)(hj:¬j<xs.length):∀i x,xs[i]? =some x->p i x:=λi x hx=>h i x (by have:=nz hx;omega) hx
def bxOk (x:Bx):Prop:=(1<=x.node/\x.node<1024/\1<=x.level/\x.level<=9)/\wrOk x.w
def weOk (l:List We) (i:Nat) (x:We):Prop:=DvOk x.dev/\(∀y,0<i->l[i-1]? =some y->y.dev<x.dev)/\wrOk x.w
structure CkP (c:Cm):Prop where
 fo:FdOk c.folder
 e1:1<=c.epoch
 e2:c.epoch<=1099511627776
 au:DvOk c.author
 ch:fmdB c.chs=true
 pl:c.path.length=10
 bl:c.bxs.length<=1024
 wl:c.wes.length<=512
 path:∀(i:Nat) x,c.path[i]? =some x->GOk x
 box:∀(i:Nat) x,c.bxs[i]? =some x->bxOk x
 wel:∀i x,c.wes[i]? =some x->weOk c.wes i x
open Classical in
noncomputable def ckI (c:Cm):Int:=if CkP c then 0 else 220
theorem nxd{c:Cm}:ckI c=0↔CkP c:=by unfold ckI;split<;>simp_all
theorem ckI_two(c:Cm):ckI c=0\/ckI c=220:=by unfold ckI;split<;>simp
theorem nb{c:Cm}(h:¬CkP c):Value.int .i64 220= .int .i64 (ckI c):=by unfold ckI;rw[if_neg h]
theorem nib{c:Cm}(h:CkP c):Value.int .i64 0= .int .i64 (ckI c):=by unfold ckI;rw[if_pos h]
theorem nIf(x:Wrp)(w:World):Calls prog 164 #[.agg (wrA x)] w (Ret w (.int .i64 (wkI x))):=by
 obtain⟨e,he⟩:∃e,(if GOk x.u then(0:Int)else 40)=e:=⟨_,rfl⟩;have hek:=nUh x.u;rw[he]at hek;refine enter (vs:=[_]) func164 rfl ntmps164 rfl ?_;refine B 3 ?_;intro b1 w1 hb1 ha1 ho1 hm1 hz1;replace ha1:=yb ha1;replace ho1:=yc ho1;refine B 16 ?_;refine zzf ?_;refine B 2 ?_;refine nf (t:=11) rfl (λhc1=>?_) (λhc1=>?_)
 ·replace hc1:=ya hc1;refine B 17 ?_;exact zzi
 replace hc1:=ya hc1;refine B 4 ?_;refine nf (t:=15) rfl (λhc2=>?_) (λhc2=>?_)
 ·replace hc2:=ya hc2;refine B 13 ?_;exact zzi
 replace hc2:=ya hc2;refine B 5 ?_;refine zCD ?_ ?_
 ·intro hc3;refine B 7 ?_;exact zzi
 intro hc3;refine B 8 ?_;exact zzi
theorem nmb(c:Cm)(hfw:CmFew c)(N:Nat)(w:World)(hN:N<=w.heap.size)(hC:CmAt N w c):Calls prog 111 #[.agg (cmA c)] w (Ret w (.int .i64 (ckI c))):=by
 have hf1:=hfw.chs;have hf2:=hfw.path;have hf3:=hfw.bxs;have hf4:=hfw.wes;have hslc:=hC.chs;have hslp:=hC.path;have hslb:=hC.bxs;have hslw:=hC.wes;refine enter (vs:=[_]) func111 rfl ntmps111 rfl ?_;refine B 3 ?_;intro b1 w1 hb1 ha1 ho1 hm1 hz1;replace ha1:=yb ha1;replace ho1:=yc ho1;refine B 8 ?_;refine call call155 rfl rfl rfl (λW hS=>n3k _ W) ?_;refine B 2 ?_;refine nf (t:=13) rfl (λhc1=>?_) (λhc1=>?_)
 ·replace hc1:=ya hc1;refine B 49 ?_;exact z8j
 replace hc1:=ya hc1;refine B 5 ?_;refine nf (t:=18) rfl (λhc2=>?_) (λhc2=>?_)
 ·replace hc2:=ya hc2;refine B 44 ?_;exact z8j
 replace hc2:=ya hc2;refine B 5 ?_;refine nf (t:=23) rfl (λhc3=>?_) (λhc3=>?_)
 ·replace hc3:=ya hc3;refine B 39 ?_;exact z8j
 replace hc3:=ya hc3;refine B 2 ?_;refine call call162 rfl rfl rfl (λW hS=>nnd _ W) ?_;refine B 3 ?_;refine nf (t:=29) rfl (λhc4=>?_) (λhc4=>?_)
 ·replace hc4:=ya hc4;refine B 33 ?_;exact z8j
 replace hc4:=ya hc4;refine B 2 ?_;refine call call163 rfl rfl rfl (λW hS=>nzc c.chs zG N c.ca c.cc W (aco hN (hS.links w A1).size) (hC.chs.up (abo _) (hS.same A1 hN zN zH))) ?_;refine B 3 ?_;refine nf (t:=35) rfl (λhc5=>?_) (λhc5=>?_)
 ·replace hc5:=ya hc5;refine B 27 ?_;exact z8j
 replace hc5:=ya hc5;refine B 6 ?_;refine nf (t:=41) rfl (λhc6=>?_) (λhc6=>?_)
 ·replace hc6:=ya hc6;refine B 21 ?_;exact z8j
 replace hc6:=ya hc6;refine B 6 ?_;refine nf (t:=47) rfl (λhc7=>?_) (λhc7=>?_)
 ·replace hc7:=ya hc7;refine B 15 ?_;exact z8j
 replace hc7:=ya hc7;refine B 7 ?_;refine zCD ?_ ?_
 ·intro hc8;refine B 7 ?_;exact z8j
 intro hc8;refine B 12 ?_;refine CJ.loop (α:=Nat) (λj=>[(1,ptr b1 0),(54,.slice c.pa c.path.length c.pc),(55,.int .i64 (c.path.length:Int)),(56,.int .i64 (j:Int))]) (λj=>[]) (λj=>[w1,w]) (λj=>Gh.no) (λj=>j<=c.path.length/\AllTo (λ_ x=>GOk x) c.path j) (λj=>c.path.length-j) 0 ⟨a3o _,λi x hi=>absurd hi zG⟩ zR rfl rfl zS ?_;rintro j ⟨hj,hto⟩;refine B 6 ?_;refine zCD ?_ ?_
 ·intro hc9;refine B 5 ?_;obtain⟨bo,oo,cs0,to,fr0,hpe,hbo,hcs,hel0⟩:=hslp.get zG;obtain⟨y,hy⟩:=nj c.path j zG;rw[hpe];obtain⟨e,he⟩:∃e,(if GOk y then(0:Int)else 40)=e:=⟨_,rfl⟩;have hek:=nUh y;rw[he]at hek;refine B 2 ?_;refine rv rfl rfl rfl (ldR_r (v:=.int .i64 y) isAgg3 rfl A1 hcs zO trivial (by have:=nF hel0 hy rfl zI;simpa[encI]using this)) ?_;refine B 6 ?_;refine zzf ?_;refine B 3 ?_;refine zCD ?_ ?_
  ·intro hc10;refine B 11 ?_;exact z8j
  intro hc10;refine B 7 ?_;refine PJ.again (j+1) ⟨by omega,hto.next hy (hek.1 zG)⟩ zG zR rfl rfl zS
 intro hc9;refine B 15 ?_;have hA1:=hto.all zG;refine CJ.loop (α:=Nat) (λj=>[(1,ptr b1 0),(65,.slice c.ba c.bxs.length c.bc),(66,.int .i64 (c.bxs.length:Int)),(67,.int .i64 (j:Int))]) (λj=>[]) (λj=>[w1,w]) (λj=>Gh.no) (λj=>j<=c.bxs.length/\AllTo (λ_ x=>bxOk x) c.bxs j) (λj=>c.bxs.length-j) 0 ⟨a3o _,λi x hi=>absurd hi zG⟩ zR rfl rfl zS ?_;rintro j ⟨hj,hto⟩;refine B 6 ?_;refine zCD ?_ ?_
 ·intro hc11;refine B 5 ?_;obtain⟨bo,oo,cs0,to,fr0,hpe,hbo,hcs,hel0⟩:=hslb.get zG;obtain⟨x,hx⟩:=nj c.bxs j zG;rw[hpe];refine B 2 ?_;refine rv rfl rfl rfl (RV.re (v':=.agg (bxA x)) (ldRA_r isAgg184 sizeOf184 rfl A1 hcs zO trivial (nk hel0 hx rfl)) (congrArg Value.agg (nl hel0 hx rfl))) ?_;refine allW zeroValue184 rfl rfl ?_;intro b6 ha6 ho6;replace ha6:=yb ha6;replace ho6:=yc ho6;refine z6f ?_;refine B 8 ?_;refine nf (t:=74) rfl (λhc12=>?_) (λhc12=>?_)
  ·replace hc12:=ya hc12;refine B 34 ?_;exact z9j
  replace hc12:=ya hc12;refine B 5 ?_;refine nf (t:=79) rfl (λhc13=>?_) (λhc13=>?_)
  ·replace hc13:=ya hc13;refine B 29 ?_;exact z9j
  replace hc13:=ya hc13;refine B 5 ?_;refine nf (t:=84) rfl (λhc14=>?_) (λhc14=>?_)
  ·replace hc14:=ya hc14;refine B 24 ?_;exact z9j
  replace hc14:=ya hc14;refine B 5 ?_;refine nf (t:=89) rfl (λhc15=>?_) (λhc15=>?_)
  ·replace hc15:=ya hc15;refine B 19 ?_;exact z9j
  replace hc15:=ya hc15;refine B 1 ?_;refine zIf ?_;refine call call164 rfl rfl rfl (λW hS=>nIf x.w W) ?_;refine B 4 ?_;refine zCD ?_ ?_
  ·intro hc16;exact zjk
  intro hc16;refine zpg ?_;refine PJ.again (j+1) ⟨by omega,hto.next hx ⟨by omega,nu.1 zG⟩⟩ zG zR rfl rfl zS
 intro hc11;refine B 15 ?_;have hA2:=hto.all zG;refine CJ.loop (α:=Nat) (λj=>[(1,ptr b1 0),(97,.slice c.wa c.wes.length c.wc),(98,.int .i64 (c.wes.length:Int)),(99,.int .i64 (j:Int))]) (λj=>[]) (λj=>[w1,w]) (λj=>Gh.no) (λj=>j<=c.wes.length/\AllTo (weOk c.wes) c.wes j) (λj=>c.wes.length-j) 0 ⟨a3o _,λi x hi=>absurd hi zG⟩ zR rfl rfl zS ?_;rintro j ⟨hj,hto⟩;refine B 6 ?_;refine zCD ?_ ?_
 ·intro hc17;refine B 5 ?_;obtain⟨bo,oo,cs0,to,fr0,hpe,hbo,hcs,hel0⟩:=hslw.get zG;obtain⟨x,hx⟩:=nj c.wes j zG;rw[hpe];refine B 3 ?_;refine rv rfl rfl rfl (RV.re (v':=.agg (weA x)) (ldRA_r isAgg186 sizeOf186 rfl A1 hcs zO trivial (nk hel0 hx rfl)) (congrArg Value.agg (nl hel0 hx rfl))) ?_;refine allW zeroValue186 rfl rfl ?_;intro b8 ha8 ho8;replace ha8:=yb ha8;replace ho8:=yc ho8;refine B 1 ?_;refine z4g ?_;refine B 3 ?_;by_cases h1:¬DvOk x.dev
  ·refine z6e ?_;refine nw 17 [.det [] _,.det [0] _,.det [1] (.bool false),.det [2] _,.det [3] _,.det [4] undef,.det [4,5] undef,.det [4,6] undef,.det [7] undef,.det [7,8] undef,.det [7] undef,.det [7,10] undef,.det [7,9,11] undef,.det [7,12] undef,.det [7,13] undef,.det [7] undef,.det [7,15] undef] zM (xc znb (xc zT (xc (by exact λvals=>ni call162 rfl rfl (λW hS _=>by have h9:=nnd x.dev W;rw[decide_eq_false h1]at h9;exact h9) (λ_=>rfl)) (xc (by exact λvals=>X.val rfl rfl (RV.re (v':=.bool true) (notB_r rfl) rfl) (λ_ _=>rfl)) (xc zK (xc zJ (xc zJ (xc zJ (xc zJ (xc zJ (xc zJ (xc zJ (xc zJ (xc zJ (xc zJ (xc zJ (xc zJ (xn)))))))))))))))))) zM zM zM (λvals=>?_);refine B 23 ?_;exact z9j
  by_cases h2:j=0
  ·refine z6e ?_;refine nw 17 [.det [] _,.det [0] _,.det [1] (.bool true),.det [2] _,.det [3] _,.det [4] _,.det [4,5] _,.det [4,6] _,.det [7] undef,.det [7,8] undef,.det [7] undef,.det [7,10] undef,.det [7,9,11] undef,.det [7,12] undef,.det [7,13] undef,.det [7] undef,.det [7,15] undef] zM (xc znb (xc zT (xc zMb (xc zcc (xc zK (xc zK (xc zZc (xc zK (xc zJ (xc zJ (xc zJ (xc zJ (xc zJ (xc zJ (xc zJ (xc zJ (xc zJ (xn)))))))))))))))))) zM zM zM (λvals=>?_);refine B 5 ?_;refine zth ?_;refine zCD ?_ ?_
   ·intro hc18;exact zjk
   intro hc18;exact zZi
  obtain⟨y,hy⟩:=nj c.wes (j-1) zG;by_cases h3:x.dev<=y.dev
  ·refine z6e ?_;refine nw 17 [.det [] _,.det [0] _,.det [1] (.bool true),.det [2] _,.det [3] _,.det [4] _,.det [4,5] _,.det [4,6] _,.det [7] _,.det [7,8] _,.det [7] _,.det [7,10] _,.det [7,9,11] _,.det [7,12] _,.det [7,13] _,.det [7] _,.det [7,15] _] zM (xc znb (xc zT (xc zMb (xc zcc (xc zK (xc zK (xc z1c (xc zK (xc (by exact λvals=>X.val rfl rfl (fld_r underlying102 rfl sizeOf100 rfl) (λ_ _=>rfl)) (xc znd (xc zK (xc z5c (xc zNd (xc znb (xc ztd (xc znb (xc zT (xn)))))))))))))))))) zM zM zM (λvals=>?_);refine rv rfl rfl rfl (RV.re (v':=.bool true) (geq_r rfl rfl) (congrArg Value.bool (decide_eq_true zG))) ?_;refine B 22 ?_;exact z9j
  refine z6e ?_;refine nw 17 [.det [] _,.det [0] _,.det [1] (.bool true),.det [2] _,.det [3] _,.det [4] _,.det [4,5] _,.det [4,6] _,.det [7] _,.det [7,8] _,.det [7] _,.det [7,10] _,.det [7,9,11] _,.det [7,12] _,.det [7,13] _,.det [7] _,.det [7,15] _] zM (xc znb (xc zT (xc zMb (xc zcc (xc zK (xc zK (xc z1c (xc zK (xc (by exact λvals=>X.val rfl rfl (fld_r underlying102 rfl sizeOf100 rfl) (λ_ _=>rfl)) (xc znd (xc zK (xc z5c (xc zNd (xc znb (xc ztd (xc znb (xc zT (xn)))))))))))))))))) zM zM zM (λvals=>?_);refine zPe ?_;refine B 4 ?_;refine zth ?_;refine zCD ?_ ?_
  ·intro hc19;exact zjk
  intro hc19;exact zZi
 intro hc17;refine B 11 ?_;exact z8j
abbrev bsT (l:List UInt8):ByteArray:=strOfNums (l.map λu=>(u.toNat:Int))
theorem nYc(l:List UInt8):(bsT l).size=l.length:=by rw[strOfNums_size,aAo]
def ByAt (N:Nat) (w:World) (a:Option Addr) (l:List UInt8):Prop:=l=[]\/∃b off,a=some ⟨b,off,none⟩/\b<N/\SegU w b off l
theorem nLe{P:Program}(w:World)(src e:Nat)(hs:P.underlying src=some (.slice e))(he:P.underlying e=some (.int .u8))(a:Option Addr)(cap:Nat)(dst:Nat)(hd:P.underlying dst=some .string):(convert src dst (.slice a 0 cap)).run P w= .ok (.string (strOfNums [])) w:=by
 cases a with
 |none=>
  have hr:=run_convert_bytes_nil (P:=P) w src e hs he 0 cap dst hd;rw[hr];rfl
 |some a=>
  have hl:(loadCells a 0).run P w= .ok (([]:List Int).map (Value.int .u8)).toArray w:=by simp[loadCells,loadCellsFrom]
  rw[run_convert_bytes_string w src dst e _ 0 cap hs he hd,run_bytesToString w _ 0 cap [] hl,foldl_push_bytes];simp[strOfNums,ByteArray.empty,ByteArray.emptyWithCapacity];rfl
theorem cvtY_r{src dst e c:Nat}{l:List UInt8}(hs:C.P.underlying src=some (.slice e))(he:C.P.underlying e=some (.int .u8))(hd:C.P.underlying dst=some .string)(hx:ev E x=some (.slice a l.length c))(hm:w1∈L)(hb:ByAt N w1 a l)(hG:∀b,b<N->¬G.X b/\Off H b):RV C G L H E (.convert src dst x) (.string (bsT l)):=λd ty pos aft g ac W hF hS=>by
 rcases hb with h1|⟨b,off,h1,h2,cs,t,fr,h3,h4,h5⟩
 ·subst h1;have hr:=nLe (P:=C.P) W src e hs he a c dst hd;simp only[a1o]at hx;simp[execOp,hF.ev hx,hr];rfl
 subst h1;have hW:=hS.old hm h3 (hG b h2).1 (hG b h2).2;have hr:=run_convert_bytes_arg (P:=C.P) W src e hs he b off l.length c (l.map λu=>(u.toNat:Int)) zS (λi hi=>by
  rw[nAc hW,h5 i hi];simp[fU,List.getD,hi]) dst hd
 simp[execOp,hF.ev hx,hr]
theorem nzb(n:Int)(w:World):Calls prog 108 #[.int .i64 n] w (Ret w (vI n)):=by
 refine enter (vs:=[_]) func108 rfl ntmps108 rfl ?_;refine B 2 ?_;refine zqf ?_;intro b2 ha2 ho2;replace ha2:=yb ha2;replace ho2:=yc ho2;refine B 5 ?_;refine zce ?_;refine zef ?_;refine B 3 ?_;refine retO (.inl rfl) results108 (RS.wA (i:=0) rfl isAgg149 sizeOf149 rfl (apo rfl) (RS.n)) A0 zL ?_;rfl
theorem nBb(l:List UInt8)(N:Nat)(a:Option Addr)(c:Nat)(w:World)(hN:N<=w.heap.size)(hb:ByAt N w a l):Calls prog 109 #[.slice a l.length c] w (Ret w (vT (bsT l))):=by
 refine enter (vs:=[_]) func109 rfl ntmps109 rfl ?_;refine B 2 ?_;refine zqf ?_;intro b2 ha2 ho2;replace ha2:=yb ha2;replace ho2:=yc ho2;refine B 5 ?_;refine rv rfl rfl rfl (cvtY_r underlying52 underlying5 underlying9 rfl A0 hb (λb hb2=>⟨λh=>h,by simp only[Off,and_true];omega⟩)) ?_;refine zce ?_;refine zef ?_;refine B 3 ?_;refine retO (.inl rfl) results109 (RS.wA (i:=0) rfl isAgg149 sizeOf149 rfl (apo rfl) (RS.n)) A0 zL ?_;rfl
theorem n4c(base:Option Addr)(n c:Nat)(w:World):Calls prog 106 #[.slice base n c] w (Ret w (vL base n c)):=by
 refine enter (vs:=[_]) func106 rfl ntmps106 rfl ?_;refine B 2 ?_;refine zqf ?_;intro b2 ha2 ho2;replace ha2:=yb ha2;replace ho2:=yc ho2;refine B 5 ?_;refine zce ?_;refine zef ?_;refine B 3 ?_;refine retO (.inl rfl) results106 (RS.wA (i:=0) rfl isAgg149 sizeOf149 rfl (apo rfl) (RS.n)) A0 zL ?_;rfl
def vIE (n:Int):List Value:=[.int .i64 1,.int .i64 n,.string ⟨#[]⟩,.slice none 0 0]
theorem nsm(n:Int):(vIE n).length=4:=rfl
theorem vIE_one(n:Int):∀u∈vIE n,u.oneCell'=true:=by intro u hu;simp[vIE]at hu;rcases hu with rfl|rfl|rfl|rfl<;>rfl
theorem info_v:prog.info? 149=some Tryz.t149:=by kernel_rfl
theorem ncf:RowT prog 147 149 4:=⟨underlying147,Tryz.t149,.agg #[.int .i64 0,.int .i64 0,.string ⟨#[]⟩,.slice none 0 0],info_v,rfl,rfl,rfl,by decide⟩
theorem ndi(xs:List Int)(hxl:xs.length<=1000)(N:Nat)(a:Option Addr)(cp:Nat)(w:World)(hN:N<=w.heap.size)(hsl:SlAt encI 1 N w a xs):Calls prog 107 #[.slice a xs.length cp] w (nC w vIE 4 149 xs id):=by
 refine enter (vs:=[_]) func107 rfl ntmps107 rfl ?_;refine B 19 ?_;refine CJ.loop (α:=Rw×Nat) (λp=>[(3,p.1.val (xs.take p.2).length),(6,.slice a xs.length cp),(7,.int .i64 (xs.length:Int)),(8,.int .i64 (p.2:Int))]) (λp=>p.1.hp vIE 149 (xs.take p.2)++[]) (λp=>[w]) (λp=>Gh.no) (λp=>p.2<=xs.length/\p.1.Fr Gh.no [w]/\p.1.Fit 4 (xs.take p.2)) (λp=>xs.length-p.2) (.nil,0) ⟨a3o _,True.intro,rfl⟩ zR rfl rfl zS ?_;rintro⟨r,j⟩ ⟨hj,hrf,hrfit⟩;dsimp only at hj hrf hrfit ⊢;have hrge:r.ge w.heap.size:=Rw.ge_of hrf A0;refine B 6 ?_;refine zCD ?_ ?_
 ·intro hc1;refine B 5 ?_;obtain⟨bo,oo,cs0,to,fr0,rfl,hbo,hcs,hel0⟩:=hsl.get zG;obtain⟨x,hx⟩:=nj xs j zG;refine B 2 ?_;refine rv rfl rfl rfl (ldR_r (v:=.int .i64 x) isAgg3 rfl A0 hcs zO (by simp only[Off,ne,asp,and_true];exact Rw.off_ge hrge zG) (by have:=nF hel0 hx rfl zI;simpa[encI]using this)) ?_;refine B 6 ?_;refine call call108 rfl rfl rfl (λW hS=>nzb _ W) ?_;refine zye ?_;intro b15 ha15 ho15;replace ha15:=yb ha15;replace ho15:=yc ho15;refine apT (r:=r) (xs:=(xs.take j)) (zs:=[x]) (enc:=vIE) (m:=4) (H0:=[(b15,.cells #[.int .i64 1,.int .i64 x,.string ⟨#[]⟩,.slice none 0 0] 149 (0,0))]) (H1:=[]) zub ncf nsm rfl rfl rfl rfl (SrcT.one (z:=x) nsm vIE_one underlying147 (Lies.own (i:=0) rfl)) hrfit hrf zS (by simp only[anp,axo,a1o];omega) ?_;intro b16 cp16 sp16 hf16 hfit16;replace hf16:=yb hf16;refine zyh ?_;refine PJ.again (Rw.row b16 cp16 sp16,j+1) ⟨by dsimp only;omega,hf16.elim (λh=>Rw.Fr_at hrf h) (λh=>.inr h),by rw[np hx];exact hfit16⟩ z2 ⟨by rw[np hx];rfl,rfl,rfl,rfl,trivial⟩ (by rw[np hx];rfl) rfl zS
 intro hc1;refine B 6 ?_;have hall:xs.take j=xs:=afp zG;rw[hall]at hrfit ⊢;refine B 6 ?_;exact nU (H0:=[]) (H1:=[]) (r:=r) (.inl rfl) results107 (RS.t rfl RS.n) A0 zFc rfl hrfit (Rw.ge_of hrf A0) zS
abbrev El:=Nat×Nat
def elE (n:Nat) (e:El):List Value:=[.int .i64 3,.int .i64 0,.string ⟨#[]⟩,.slice (some ⟨e.1,0,none⟩) n e.2]
theorem n8d(n:Nat)(e:El):(elE n e).length=4:=rfl
theorem nGi(n:Nat)(e:El):∀u∈elE n e,u.oneCell'=true:=by intro u hu;simp[elE]at hu;rcases hu with rfl|rfl|rfl|rfl<;>rfl
def Nest (F:Heap) (n:Nat) (es:List El) (ls:List (List V)):Prop:=es.length=ls.length/\∀(i:Nat) (e:El) (l:List V),es[i]? =some e->ls[i]? =some l->l.length=n/\l.all nab=true/\n<=e.2/\∃sp t fr,(e.1,Obj.cells (nM l++sp).toArray t fr)∈F
theorem Nest.nil{n:Nat}:Nest F n [] []:=⟨rfl,λi e l h=>by simp at h⟩
theorem Nest.up{F':Heap}{n:Nat}{es:List El}{ls:List (List V)}(h:Nest F n es ls)(hF:∀p∈F,p∈F'):Nest F' n es ls:=⟨h.1,λi e l h1 h2=>by
 obtain⟨g1,g2,g3,sp,t,fr,g4⟩:=h.2 i e l h1 h2;exact⟨g1,g2,g3,sp,t,fr,hF _ g4⟩⟩
theorem nnh{α:Type}{xs:List α}{y z:α}(h:(xs++[y])[i]? =some z):xs[i]? =some z\/(i=xs.length/\z=y):=by
 by_cases hi:i<xs.length
 ·rw[aOo hi]at h;exact .inl h
 rw[aLo zG]at h;have h2:i-xs.length<1:=by have:=(ako.1 h).1;simpa using this
 have h3:i=xs.length:=by omega
 subst h3;simp at h;exact .inr ⟨rfl,h.symm⟩
theorem Nest.snoc{F':Heap}{n c t:Nat}{es:List El}{ls:List (List V)}{l:List V}(h:Nest F n es ls)(hF:∀p∈F,p∈F')(hl:l.length=n)(hf:l.all nab=true)(hc:n<=c)(hp:(b,Obj.cells (nM l++sp).toArray t fr)∈F'):Nest F' n (es++[(b,c)]) (ls++[l]):=by
 refine⟨by simp[h.1],λi e l' h1 h2=>?_⟩;have e1:=h.1;rcases nnh h1 with h1|⟨rfl,rfl⟩
 ·rcases nnh h2 with h2|⟨rfl,rfl⟩
  ·exact(h.up hF).2 i e l' h1 h2
  have:=nz h1;omega
 rcases nnh h2 with h2|⟨_,rfl⟩
 ·have:=nz h2;omega
 exact⟨hl,hf,hc,sp,t,fr,hp⟩
theorem n3l{N:Nat}{w:World}:∀(l:List V) (ys:List (List Value)) (pre suf:List Value),l.length=ys.length->(∀(i:Nat) (x:V) (y:List Value),l[i]? =some x->ys[i]? =some y->y.length=4/\VAt N w x (.agg y.toArray))->VsAt N w (pre++(ys.flatten++suf)).toArray pre.length l
 | [],_,pre,suf,_,_=>by simp[VsAt]
 |x::l,[],pre,suf,hl,_=>by simp at hl
 |x::l,y::ys,pre,suf,hl,h=>by
  obtain⟨h1,h2⟩:=h 0 x y rfl rfl;have ih:=n3l (N:=N) (w:=w) l ys (pre++y) suf zdc (λi x' y' hx hy=>h (i+1) x' y' (by simpa using hx) (by simpa using hy));have e:pre++y++(ys.flatten++suf)=pre++((y::ys).flatten++suf):=by simp
  rw[e]at ih;simp only[VsAt];have hc:cut (pre++((y::ys).flatten++suf)).toArray pre.length 4=y.toArray:=by
   unfold cut;simp only[List.flatten_cons,a2o];rw[List.drop_left,<-h1,List.take_left]
  refine⟨?_,by rw[hc];exact h2,?_⟩
  ·simp only[amp,aHo,List.flatten_cons];omega
  rw[aHo,h1]at ih;exact ih
theorem n2k{α:Type}{t:Nat}{w:World}{enc:α->List Value}{xs:List α}{l:List V}{r:Rw}(hl:l.length=xs.length)(he:∀(i:Nat) (x:α) (y:V),xs[i]? =some x->l[i]? =some y->(enc x).length=4/\VAt N w y (.agg (enc x).toArray))(hr:∀p∈r.hp enc t xs,p.1<N/\w.heap[p.1]? =some p.2)(hf:r.Fit 4 xs):VAt N w (.list l) (.agg #[.int .i64 3,.int .i64 0,.string ⟨#[]⟩,r.val xs.length]):=by
 simp only[VAt];cases r with
 |nil=>
  have h0:xs=[]:=hf;subst h0;have h1:l=[]:=aap zdc;subst h1;exact⟨none,0,rfl,abo _,.inl rfl⟩
 |row b cap sp=>
  obtain⟨f1,f2⟩:=hf;obtain⟨g1,g2⟩:=hr (b,rwO enc t xs sp) zqc;refine⟨some ⟨b,0,none⟩,cap,by rw[hl];rfl,by omega,.inr ⟨b,_,t,(0,0),rfl,g1,g2,?_⟩⟩;have h2:=n3l (N:=N) (w:=w) l (xs.map enc) [] sp zdc (λi x y hx hy=>by
   rw[aSo]at hy;cases hxs:xs[i]? with
   |none=>rw[hxs]at hy;cases hy
   |some z=>rw[hxs]at hy;cases hy;exact he i z x hxs hx)
  simpa[flt,List.flatMap]using h2
theorem Nest.vat{n t:Nat}{w:World}{es:List El}{ls:List (List V)}{r:Rw}(h:Nest F n es ls)(hw:∀p∈F,p.1<N/\w.heap[p.1]? =some p.2)(hr:∀p∈r.hp (elE n) t es,p∈F)(hf:r.Fit 4 es):VAt N w (.list (ls.map V.list)) (.agg #[.int .i64 3,.int .i64 0,.string ⟨#[]⟩,r.val es.length]):=
 n2k (by rw[aAo];exact h.1.symm) (λi e y hx hy=>⟨rfl,by
  rw[aSo]at hy;cases hl:ls[i]? with
  |none=>rw[hl]at hy;cases hy
  |some l=>
   rw[hl]at hy;cases hy;obtain⟨g1,g2,g3,sp,t',fr,g4⟩:=h.2 i e l hx hl;obtain⟨k1,k2⟩:=hw _ g4;have:=nOi (cap:=e.2) g2 k1 zG k2;rw[g1]at this;exact this⟩) (λp hp=>hw p (hr p hp)) hf
theorem ints_vat{t:Nat}{w:World}{r:Rw}(hr:∀p∈r.hp vIE t xs,p.1<N/\w.heap[p.1]? =some p.2)(hf:r.Fit 4 xs):VAt N w (.list (xs.map V.int)) (.agg #[.int .i64 3,.int .i64 0,.string ⟨#[]⟩,r.val xs.length]):=
 n2k zS (λi x y hx hy=>⟨rfl,by rw[aSo,hx]at hy;cases hy;simp only[VAt];rfl⟩) hr hf
def chV (x:Ch):List V:=[.int x.kind,.int x.dev,.int x.pub,.int x.ver,.int x.cut]
def bxV (x:Bx):List V:=[.int x.node,.int x.level,.int x.w.u,.text (bsT x.w.body)]
def weV (x:We):List V:=[.int x.dev,.int x.w.u,.text (bsT x.w.body)]
def cmV (c:Cm):List V:=[.int c.folder,.int c.epoch,.text (bsT (dgU c.par)),.int c.author,.list ((c.chs.map chV).map V.list),.list (c.path.map V.int),.list ((c.bxs.map bxV).map V.list),.list ((c.wes.map weV).map V.list),.text (bsT (dgU c.conf)),.int c.sr,.int c.ss]
theorem nzh{α β:Type}(f:α->β){xs:List α}{x:α}(hx:xs[j]? =some x):(xs.take (j+1)).map f=(xs.take j).map f++[f x]:=by rw[np hx];simp
theorem SegU.dgo{w:World}{t off:Nat}(h:w.heap[b]? =some (.cells cs t fr))(hc:cut cs off 32=Px.dg f)(hs:off+32<=cs.size)(hf:Byt f):SegU w b off (dgU f):=
 ⟨cs,t,fr,h,by rw[nKb];exact hs,λi hi=>by
  rw[nKb]at hi;rw[nSh f hf i hi,<-dg_at f i hi,<-hc];unfold cut;rw[<-auo,<-auo];simp only[atp hi,aGo]⟩
theorem sl_row{t:Nat}(h:W.heap[b]? =some (.cells (xs.map (Value.int .i64)).toArray t fr)):SlAt encI 1 W.heap.size W (some ⟨b,0,none⟩) xs:=by
 refine .inr ⟨b,0,_,t,fr,rfl,(ago.1 h).1,h,λi hi=>⟨by simp;omega,?_⟩⟩;unfold cut encI;apply Array.ext';simp only[aVo,arp];rw[<-List.map_drop,aWo hi,afo];rfl
theorem nUe(N:Nat)(w:World)(n:Int):VAt N w (.int n) (vI n):=by simp only[VAt]
theorem nxk(N:Nat)(w:World)(s:ByteArray):VAt N w (.text s) (vT s):=by simp only[VAt]
theorem co_listR{r:Rw}{n:Nat}(W:World):Calls prog 106 #[r.val n] W (Ret W (.agg #[.int .i64 3,.int .i64 0,.string ⟨#[]⟩,r.val n])):=by cases r<;>exact n4c _ _ _ W
theorem vat_mk{w:World}(l:List V){t cap:Nat}(hl:l.length<=cap)(h:w.heap[b]? =some (.cells cs t fr))(hb:b<N)(hv:VsAt N w cs 0 l):VAt N w (.list l) (vL (some ⟨b,0,none⟩) l.length cap):=by
 simp only[VAt];exact⟨_,_,rfl,hl,.inr ⟨b,cs,t,fr,rfl,hb,h,hv⟩⟩
theorem n4b{off:Nat}{w:World}{x:V}{l:List V}(h1:off+4<=cs.size)(h2:VAt N w x (.agg (cut cs off 4)))(h3:VsAt N w cs (off+4) l):VsAt N w cs off (x::l):=by
 simp only[VsAt];exact⟨h1,h2,h3⟩
theorem vs_nil{off:Nat}{w:World}:VsAt N w cs off []:=by simp only[VsAt]
theorem nTb(f:Nat->Int):(dgU f).length=32:=nKb f
theorem ByAt.up{w:World}{l:List UInt8}(h:ByAt N w a l)(hN:N<=N')(hw:∀k,k<N->w'.heap[k]? =w.heap[k]?):ByAt N' w' a l:=by
 exact zUj
theorem nle(c:Cm)(hfw:CmFew c)(N:Nat)(w:World)(hN:N<=w.heap.size)(hC:CmAt N w c):Calls prog 77 #[.agg (cmA c)] w (RetX w (λb:Nat=>.slice (some ⟨b,0,none⟩) 11 11) (λb w1=>w.heap.size<=b/\VAt w1.heap.size w1 (.list (cmV c)) (vL (some ⟨b,0,none⟩) 11 11))):=by
 have hf1:=hfw.chs;have hf2:=hfw.path;have hf3:=hfw.bxs;have hf4:=hfw.wes;have hslc:=hC.chs;have hslp:=hC.path;have hslb:=hC.bxs;have hslw:=hC.wes;refine nT (fzG []) [] (vs:=[_]) func77 rfl ntmps77 rfl (st_fz w) ?_;refine B 3 ?_;intro b1 w1 hb1 ha1 ho1 hm1 hz1;replace ha1:=yb ha1;replace ho1:=yc ho1;refine B 5 ?_;refine z9f ?_;refine z9f ?_;refine z9f ?_;refine zqf ?_;intro b3 ha3 ho3;replace ha3:=yb ha3;replace ho3:=yc ho3;refine zqf ?_;intro b4 ha4 ho4;replace ha4:=yb ha4;replace ho4:=yc ho4;refine zqf ?_;intro b5 ha5 ho5;replace ha5:=yb ha5;replace ho5:=yc ho5;refine stWw (i:=2) rfl sizeOf149 rfl rfl rfl rfl rfl rfl ?_;refine stWw (i:=1) rfl sizeOf149 rfl rfl rfl rfl rfl rfl ?_;refine zef ?_;refine B 12 ?_;refine CJ.loop (α:=((Rw×List El)×Heap)×Nat) (λp=>[(1,ptr b1 0),(3,ptr b3 0),(4,ptr b4 0),(5,ptr b5 0),(16,.slice c.ca c.chs.length c.cc),(17,.int .i64 (c.chs.length:Int)),(18,.int .i64 (p.2:Int))]) (λp=>[(b5,.cells #[.int .i64 3,.int .i64 0,.string ⟨#[]⟩,.slice none 0 0] 149 (0,0)),(b4,.cells #[.int .i64 3,.int .i64 0,.string ⟨#[]⟩,.slice none 0 0] 149 (0,0)),(b3,.cells #[.int .i64 3,.int .i64 0,.string ⟨#[]⟩,p.1.1.1.val p.1.1.2.length] 149 (0,0))]++(p.1.1.1.hp (elE 5) 149 p.1.1.2++[])) (λp=>[w1,w]) (λp=>fzG p.1.2) (λp=>p.2<=c.chs.length/\p.1.1.1.Fr (fzG p.1.2) [w1,w]/\p.1.1.1.Fit 4 p.1.1.2/\Nest p.1.2 5 p.1.1.2 ((c.chs.take p.2).map chV)/\∀q∈([]:Heap),q∈p.1.2) (λp=>c.chs.length-p.2) (((.nil,[]),([]:Heap)),0) ⟨a3o _,True.intro,rfl,Nest.nil,λq h=>h⟩ zR rfl rfl zS ?_
 rintro⟨⟨⟨r1,es1⟩,F1⟩,j1⟩ ⟨hj,hrf,hrfit,hne1,hsub1⟩;dsimp only at hj hrf hrfit hne1 hsub1 ⊢;have hrge:r1.ge w1.heap.size:=Rw.ge_fz hrf A0;have hel:es1.length<=50:=by rw[hne1.1,aAo,anp];omega
 refine B 6 ?_;refine zCD ?_ ?_
 ·intro hc1;refine B 5 ?_;obtain⟨bo,oo,cs0,to,fr0,hpe,hbo,hcs,hel0⟩:=hslc.get zG;obtain⟨x,hx⟩:=nj c.chs j1 zG;rw[hpe];refine B 2 ?_;refine rv rfl rfl rfl (RV.re (v':=.agg (chA x)) (ldRA_r isAgg229 sizeOf229 rfl A1 hcs zO z6c (nk hel0 hx rfl)) (congrArg Value.agg (nl hel0 hx rfl))) ?_;refine zbg ?_;intro b7 ha7 ho7;replace ha7:=yb ha7;replace ho7:=yc ho7;refine zdf ?_;refine B 2 ?_;refine CJ.less (E':=[(1,_),(3,_),(4,_),(5,_),(7,_),(16,_),(17,_),(18,_),(19,_),(20,_),(21,_)]) zR ?_;refine nJ 16 [12,13,14,15] [([],some _),([0],some _),([],some _),([2],some _),([],some _),([4],some _),([],some _),([6],some _),([],some _),([8],some _),([],some _),([10],some _),([3,5,7,9,11],none),([12],none),([13],none),([14],none)] (λcv L' H'=>match cv with| []=>L'=[w1,w]/\H'=[(b7,.cells (chA x) 229 (0,0)),(b5,.cells #[.int .i64 3,.int .i64 0,.string ⟨#[]⟩,.slice none 0 0] 149 (0,0)),(b4,.cells #[.int .i64 3,.int .i64 0,.string ⟨#[]⟩,.slice none 0 0] 149 (0,0)),(b3,.cells #[.int .i64 3,.int .i64 0,.string ⟨#[]⟩,r1.val es1.length] 149 (0,0))]++(r1.hp (elE 5) 149 es1++[])| [v1]=>∃(b1a:Nat),v1= .slice (some ⟨b1a,0,none⟩) 5 5/\L'=[w1,w]/\H'=[(b1a,.cells #[.int .i64 x.kind,.int .i64 x.dev,.int .i64 x.pub,.int .i64 x.ver,.int .i64 x.cut] 3 (0,0)),(b7,.cells (chA x) 229 (0,0)),(b5,.cells #[.int .i64 3,.int .i64 0,.string ⟨#[]⟩,.slice none 0 0] 149 (0,0)),(b4,.cells #[.int .i64 3,.int .i64 0,.string ⟨#[]⟩,.slice none 0 0] 149 (0,0)),(b3,.cells #[.int .i64 3,.int .i64 0,.string ⟨#[]⟩,r1.val es1.length] 149 (0,0))]++(r1.hp (elE 5) 149 es1++[])/\Above [w1,w] b1a| [v1,v2]=>∃(b1a:Nat) (bn:Nat) (cn:Nat) (sn:List Value),v1= .slice (some ⟨b1a,0,none⟩) 5 5/\v2= .slice (some ⟨bn,0,none⟩) 5 cn/\L'=[w1,w]/\H'=[(bn,rwO vIE 149 [x.kind,x.dev,x.pub,x.ver,x.cut] sn),(b1a,.cells #[.int .i64 x.kind,.int .i64 x.dev,.int .i64 x.pub,.int .i64 x.ver,.int .i64 x.cut] 3 (0,0)),(b7,.cells (chA x) 229 (0,0)),(b5,.cells #[.int .i64 3,.int .i64 0,.string ⟨#[]⟩,.slice none 0 0] 149 (0,0)),(b4,.cells #[.int .i64 3,.int .i64 0,.string ⟨#[]⟩,.slice none 0 0] 149 (0,0)),(b3,.cells #[.int .i64 3,.int .i64 0,.string ⟨#[]⟩,r1.val es1.length] 149 (0,0))]++(r1.hp (elE 5) 149 es1++[])/\Above [w1,w] b1a/\Above [w1,w] bn/\5<=cn| [v1,v2,v3]=>∃(b1a:Nat) (bn:Nat) (cn:Nat) (sn:List Value),v1= .slice (some ⟨b1a,0,none⟩) 5 5/\v2= .slice (some ⟨bn,0,none⟩) 5 cn/\v3=vL (some ⟨bn,0,none⟩) 5 cn/\L'=[w1,w]/\H'=[(bn,rwO vIE 149 [x.kind,x.dev,x.pub,x.ver,x.cut] sn),(b1a,.cells #[.int .i64 x.kind,.int .i64 x.dev,.int .i64 x.pub,.int .i64 x.ver,.int .i64 x.cut] 3 (0,0)),(b7,.cells (chA x) 229 (0,0)),(b5,.cells #[.int .i64 3,.int .i64 0,.string ⟨#[]⟩,.slice none 0 0] 149 (0,0)),(b4,.cells #[.int .i64 3,.int .i64 0,.string ⟨#[]⟩,.slice none 0 0] 149 (0,0)),(b3,.cells #[.int .i64 3,.int .i64 0,.string ⟨#[]⟩,r1.val es1.length] 149 (0,0))]++(r1.hp (elE 5) 149 es1++[])/\Above [w1,w] b1a/\Above [w1,w] bn/\5<=cn| [v1,v2,v3,v4]=>∃(b1a:Nat) (bn:Nat) (cn:Nat) (sn:List Value) (bo1:Nat),v1= .slice (some ⟨b1a,0,none⟩) 5 5/\v2= .slice (some ⟨bn,0,none⟩) 5 cn/\v3=vL (some ⟨bn,0,none⟩) 5 cn/\v4= .slice (some ⟨bo1,0,none⟩) 1 1/\L'=[w1,w]/\H'=[(bo1,.cells #[.int .i64 3,.int .i64 0,.string ⟨#[]⟩,.slice (some ⟨bn,0,none⟩) 5 cn] 149 (0,0)),(bn,rwO vIE 149 [x.kind,x.dev,x.pub,x.ver,x.cut] sn),(b1a,.cells #[.int .i64 x.kind,.int .i64 x.dev,.int .i64 x.pub,.int .i64 x.ver,.int .i64 x.cut] 3 (0,0)),(b7,.cells (chA x) 229 (0,0)),(b5,.cells #[.int .i64 3,.int .i64 0,.string ⟨#[]⟩,.slice none 0 0] 149 (0,0)),(b4,.cells #[.int .i64 3,.int .i64 0,.string ⟨#[]⟩,.slice none 0 0] 149 (0,0)),(b3,.cells #[.int .i64 3,.int .i64 0,.string ⟨#[]⟩,r1.val es1.length] 149 (0,0))]++(r1.hp (elE 5) 149 es1++[])/\Above [w1,w] b1a/\Above [w1,w] bn/\5<=cn/\Above [w1,w] bo1|_=>False) zM ⟨rfl,rfl⟩ zM zM zM zM zM zM (pc zzb (pc zcn (pc zKb (pc zcn (pc zKb (pc zcn (pc zKb (pc zcn (pc zKb (pc zcn (pc zKb (pc zcn (pk (pk (pk (pk (pn))))))))))))))))) ?_ ?_
  ·refine sc rfl rfl rfl ?_ ?_
   ·intro cv L' H' hl hP F Q' hk;obtain rfl:=aap hl;obtain⟨rfl,rfl⟩:=hP;refine zJe ?_;intro b_ ha_ ho_;exact OJ.done (hk _ _ _ ⟨b_,rfl,rfl,rfl,ha_⟩)
   refine sc rfl rfl rfl ?_ ?_
   ·intro cv L' H' hl hP F Q' hk;obtain⟨v1,rfl⟩:=len1 hl;obtain⟨b1a,rfl,rfl,rfl,hfb1a⟩:=hP;refine ned (enc:=vIE) (m:=4) (t:=149) (xs:=[x.kind,x.dev,x.pub,x.ver,x.cut]) (v:=id) (first:=[]) (cap:=[]) rfl call107 rfl rfl rfl (λW hS=>ndi [x.kind,x.dev,x.pub,x.ver,x.cut] zS W.heap.size (some ⟨b1a,0,none⟩) 5 W (abo _) (sl_row (xs:=[x.kind,x.dev,x.pub,x.ver,x.cut]) (hS.own _ A0))) ?_;intro r_ hr_ hfit_;obtain⟨b_,c_,s_,rfl⟩:=Rw.row_of hfit_ zS;exact OJ.done (hk _ _ _ ⟨b1a,b_,c_,s_,rfl,rfl,rfl,rfl,hfb1a,hr_.elim (λh=>h.elim) id,hfit_.1⟩)
   refine sc rfl rfl rfl ?_ ?_
   ·intro cv L' H' hl hP F Q' hk;obtain⟨v1,v2,rfl⟩:=len2 hl;obtain⟨b1a,bn,cn,sn,rfl,rfl,rfl,rfl,hfb1a,hfn,hcn⟩:=hP;refine call call106 rfl rfl rfl (λW hS=>n4c (some ⟨bn,0,none⟩) 5 cn W) ?_;exact OJ.done (hk _ _ _ ⟨b1a,bn,cn,sn,rfl,rfl,rfl,rfl,rfl,hfb1a,hfn,hcn⟩)
   refine sc rfl rfl rfl ?_ ?_
   ·intro cv L' H' hl hP F Q' hk;obtain⟨v1,v2,v3,rfl⟩:=len3 hl;obtain⟨b1a,bn,cn,sn,rfl,rfl,rfl,rfl,rfl,hfb1a,hfn,hcn⟩:=hP;refine zye ?_;intro b_ ha_ ho_;exact OJ.done (hk _ _ _ ⟨b1a,bn,cn,sn,b_,rfl,rfl,rfl,rfl,rfl,rfl,hfb1a,hfn,hcn,ha_⟩)
   exact sn
  intro cv L' H' hl hP;obtain⟨v1,v2,v3,v4,rfl⟩:=len4 hl;obtain⟨b1a,bn,cn,sn,bo1,rfl,rfl,rfl,rfl,rfl,rfl,hfb1a,hfn,hcn,hfo⟩:=hP;refine apT (r:=r1) (xs:=es1) (zs:=[((bn,cn):El)]) (enc:=elE 5) (m:=4) (H0:=[(bo1,.cells #[.int .i64 3,.int .i64 0,.string ⟨#[]⟩,.slice (some ⟨bn,0,none⟩) 5 cn] 149 (0,0)),(bn,rwO vIE 149 [x.kind,x.dev,x.pub,x.ver,x.cut] sn),(b1a,.cells #[.int .i64 x.kind,.int .i64 x.dev,.int .i64 x.pub,.int .i64 x.ver,.int .i64 x.cut] 3 (0,0)),(b7,.cells (chA x) 229 (0,0)),(b5,.cells #[.int .i64 3,.int .i64 0,.string ⟨#[]⟩,.slice none 0 0] 149 (0,0)),(b4,.cells #[.int .i64 3,.int .i64 0,.string ⟨#[]⟩,.slice none 0 0] 149 (0,0)),(b3,.cells #[.int .i64 3,.int .i64 0,.string ⟨#[]⟩,r1.val es1.length] 149 (0,0))]) (H1:=[]) rfl ncf (n8d 5) rfl rfl rfl rfl (SrcT.one (z:=((bn,cn):El)) (n8d 5) (nGi 5) underlying147 (Lies.own (i:=0) rfl)) hrfit hrf zS z8b ?_;intro br cr sr hfr hfitr;refine B 1 ?_;refine stW (i:=6) rfl sizeOf147 rfl rfl rfl rfl (apo rfl) rfl ?_;refine B 7 ?_;refine PJ.reH (H':=[(bo1,.cells #[.int .i64 3,.int .i64 0,.string ⟨#[]⟩,.slice (some ⟨bn,0,none⟩) 5 cn] 149 (0,0)),(bn,rwO vIE 149 [x.kind,x.dev,x.pub,x.ver,x.cut] sn),(b1a,.cells #[.int .i64 x.kind,.int .i64 x.dev,.int .i64 x.pub,.int .i64 x.ver,.int .i64 x.cut] 3 (0,0)),(b7,.cells (chA x) 229 (0,0)),(b5,.cells #[.int .i64 3,.int .i64 0,.string ⟨#[]⟩,.slice none 0 0] 149 (0,0)),(b4,.cells #[.int .i64 3,.int .i64 0,.string ⟨#[]⟩,.slice none 0 0] 149 (0,0)),(b3,.cells #[.int .i64 3,.int .i64 0,.string ⟨#[]⟩,(Rw.row br cr sr).val (es1++[((bn,cn):El)]).length] 149 (0,0))]++((br,rwO (elE 5) 149 (es1++[((bn,cn):El)]) sr)::[])) rfl ?_
  refine PJ.dropAt (i:=0) rfl hfo ?_;refine PJ.fz [(bn,rwO vIE 149 [x.kind,x.dev,x.pub,x.ver,x.cut] sn)] (H':=[(b1a,.cells #[.int .i64 x.kind,.int .i64 x.dev,.int .i64 x.pub,.int .i64 x.ver,.int .i64 x.cut] 3 (0,0)),(b7,.cells (chA x) 229 (0,0)),(b5,.cells #[.int .i64 3,.int .i64 0,.string ⟨#[]⟩,.slice none 0 0] 149 (0,0)),(b4,.cells #[.int .i64 3,.int .i64 0,.string ⟨#[]⟩,.slice none 0 0] 149 (0,0)),(b3,.cells #[.int .i64 3,.int .i64 0,.string ⟨#[]⟩,(Rw.row br cr sr).val (es1++[((bn,cn):El)]).length] 149 (0,0))]++((br,rwO (elE 5) 149 (es1++[((bn,cn):El)]) sr)::[])) (List.Perm.refl _) (by intro p hp;simp at hp;subst hp;exact hfn) ?_;refine PJ.dropAt (i:=0) rfl hfb1a ?_;refine zWd ?_;refine PJ.again (((Rw.row br cr sr,(es1++[((bn,cn):El)])),(bn,rwO vIE 149 [x.kind,x.dev,x.pub,x.ver,x.cut] sn)::F1),j1+1) ⟨by dsimp only;omega,hfr.elim (λh=>Rw.Fr_at hrf h) (λh=>.inr h),hfitr,by dsimp only;rw[nzh chV hx];exact hne1.snoc (λp hp=>.tail _ hp) rfl rfl hcn A0,λq hq=>.tail _ (hsub1 q hq)⟩ z2 zR rfl rfl zS
 intro hc1;refine B 7 ?_;have hall1:c.chs.take j1=c.chs:=afp zG;rw[hall1]at hne1;have hfit1:=hrfit;refine CJ.fz (r1.hp (elE 5) 149 es1) (H':=[(b5,.cells #[.int .i64 3,.int .i64 0,.string ⟨#[]⟩,.slice none 0 0] 149 (0,0)),(b4,.cells #[.int .i64 3,.int .i64 0,.string ⟨#[]⟩,.slice none 0 0] 149 (0,0)),(b3,.cells #[.int .i64 3,.int .i64 0,.string ⟨#[]⟩,r1.val es1.length] 149 (0,0))]) zbc (Rw.fz_above hrf) ?_;refine B 8 ?_;refine CJ.loop (α:=((Rw×List El)×Heap)×Nat) (λp=>[(1,ptr b1 0),(3,ptr b3 0),(4,ptr b4 0),(5,ptr b5 0),(42,.slice c.ba c.bxs.length c.bc),(43,.int .i64 (c.bxs.length:Int)),(44,.int .i64 (p.2:Int))]) (λp=>[(b5,.cells #[.int .i64 3,.int .i64 0,.string ⟨#[]⟩,.slice none 0 0] 149 (0,0)),(b4,.cells #[.int .i64 3,.int .i64 0,.string ⟨#[]⟩,p.1.1.1.val p.1.1.2.length] 149 (0,0)),(b3,.cells #[.int .i64 3,.int .i64 0,.string ⟨#[]⟩,r1.val es1.length] 149 (0,0))]++(p.1.1.1.hp (elE 4) 149 p.1.1.2++[])) (λp=>[w1,w]) (λp=>fzG p.1.2) (λp=>p.2<=c.bxs.length/\p.1.1.1.Fr (fzG p.1.2) [w1,w]/\p.1.1.1.Fit 4 p.1.1.2/\Nest p.1.2 4 p.1.1.2 ((c.bxs.take p.2).map bxV)/\∀q∈(r1.hp (elE 5) 149 es1++F1),q∈p.1.2) (λp=>c.bxs.length-p.2) (((.nil,[]),(r1.hp (elE 5) 149 es1++F1)),0) ⟨a3o _,True.intro,rfl,Nest.nil,λq h=>h⟩ zR rfl rfl zS ?_;rintro⟨⟨⟨r2,es2⟩,F2⟩,j2⟩ ⟨hj,hrf,hrfit,hne2,hsub2⟩
 dsimp only at hj hrf hrfit hne2 hsub2 ⊢;have hrge:r2.ge w1.heap.size:=Rw.ge_fz hrf A0;have hel:es2.length<=50:=by rw[hne2.1,aAo,anp];omega
 refine B 6 ?_;refine zCD ?_ ?_
 ·intro hc2;refine B 5 ?_;obtain⟨bo,oo,cs0,to,fr0,hpe,hbo,hcs,hel0⟩:=hslb.get zG;obtain⟨x,hx⟩:=nj c.bxs j2 zG;rw[hpe];have hq:=λ(k:Nat)=>Rw.mem_ge (enc:=elE 4) (t:=149) (xs:=es2) (k:=k) hrge;have hby:ByAt N w x.w.ba x.w.body:=hC.bb x (ajo hx);refine B 2 ?_;refine rv rfl rfl rfl (RV.re (v':=.agg (bxA x)) (ldRA_r isAgg184 sizeOf184 rfl A1 hcs zO z6c (nk hel0 hx rfl)) (congrArg Value.agg (nl hel0 hx rfl))) ?_;refine allW zeroValue184 rfl rfl ?_;intro b9 ha9 ho9;replace ha9:=yb ha9;replace ho9:=yc ho9;refine z6f ?_;refine B 2 ?_;refine CJ.less (E':=[(1,_),(3,_),(4,_),(5,_),(9,_),(42,_),(43,_),(44,_),(45,_),(46,_),(47,_)]) zR ?_;refine nJ 19 [16,17,18] [([],some _),([0],some _),([],some _),([2],some _),([3],some _),([],some _),([5],some _),([6],some _),([],some _),([8],some _),([9],some _),([10],some _),([],some _),([12],some _),([13],some _),([14],some (vT (bsT x.w.body))),([4,7,11,15],none),([16],none),([17],none)] (λcv L' H'=>match cv with| []=>L'=[w1,w]/\H'=[(b9,.cells (bxA x) 184 (0,0)),(b5,.cells #[.int .i64 3,.int .i64 0,.string ⟨#[]⟩,.slice none 0 0] 149 (0,0)),(b4,.cells #[.int .i64 3,.int .i64 0,.string ⟨#[]⟩,r2.val es2.length] 149 (0,0)),(b3,.cells #[.int .i64 3,.int .i64 0,.string ⟨#[]⟩,r1.val es1.length] 149 (0,0))]++(r2.hp (elE 4) 149 es2++[])| [v1]=>∃(bn:Nat),v1= .slice (some ⟨bn,0,none⟩) 4 4/\L'=[w1,w]/\H'=[(bn,.cells (nM (bxV x)++[]).toArray 149 (0,0)),(b9,.cells (bxA x) 184 (0,0)),(b5,.cells #[.int .i64 3,.int .i64 0,.string ⟨#[]⟩,.slice none 0 0] 149 (0,0)),(b4,.cells #[.int .i64 3,.int .i64 0,.string ⟨#[]⟩,r2.val es2.length] 149 (0,0)),(b3,.cells #[.int .i64 3,.int .i64 0,.string ⟨#[]⟩,r1.val es1.length] 149 (0,0))]++(r2.hp (elE 4) 149 es2++[])/\Above [w1,w] bn| [v1,v2]=>∃(bn:Nat),v1= .slice (some ⟨bn,0,none⟩) 4 4/\v2=vL (some ⟨bn,0,none⟩) 4 4/\L'=[w1,w]/\H'=[(bn,.cells (nM (bxV x)++[]).toArray 149 (0,0)),(b9,.cells (bxA x) 184 (0,0)),(b5,.cells #[.int .i64 3,.int .i64 0,.string ⟨#[]⟩,.slice none 0 0] 149 (0,0)),(b4,.cells #[.int .i64 3,.int .i64 0,.string ⟨#[]⟩,r2.val es2.length] 149 (0,0)),(b3,.cells #[.int .i64 3,.int .i64 0,.string ⟨#[]⟩,r1.val es1.length] 149 (0,0))]++(r2.hp (elE 4) 149 es2++[])/\Above [w1,w] bn| [v1,v2,v3]=>∃(bn:Nat) (bo1:Nat),v1= .slice (some ⟨bn,0,none⟩) 4 4/\v2=vL (some ⟨bn,0,none⟩) 4 4/\v3= .slice (some ⟨bo1,0,none⟩) 1 1/\L'=[w1,w]/\H'=[(bo1,.cells #[.int .i64 3,.int .i64 0,.string ⟨#[]⟩,.slice (some ⟨bn,0,none⟩) 4 4] 149 (0,0)),(bn,.cells (nM (bxV x)++[]).toArray 149 (0,0)),(b9,.cells (bxA x) 184 (0,0)),(b5,.cells #[.int .i64 3,.int .i64 0,.string ⟨#[]⟩,.slice none 0 0] 149 (0,0)),(b4,.cells #[.int .i64 3,.int .i64 0,.string ⟨#[]⟩,r2.val es2.length] 149 (0,0)),(b3,.cells #[.int .i64 3,.int .i64 0,.string ⟨#[]⟩,r1.val es1.length] 149 (0,0))]++(r2.hp (elE 4) 149 es2++[])/\Above [w1,w] bn/\Above [w1,w] bo1|_=>False) zM ⟨rfl,rfl⟩ zM zM zM zM zM zM (pc zzb (pc zco (pc (by exact λcv L' H' hd hP=>X.val rfl rfl (fld_r underlying184 rfl sizeOf3 rfl) R2) (pc zco (pc zhb (pc (by exact λcv L' H' hd hP=>X.val rfl rfl (fld_r underlying184 rfl sizeOf3 rfl) R2) (pc zco (pc zhb (pc (by exact λcv L' H' hd hP=>X.val rfl rfl (fld_r underlying184 rfl sizeOf178 rfl) R2) (pc (by exact λcv L' H' hd hP=>X.val rfl rfl (fld_r underlying178 rfl sizeOf3 rfl) R2) (pc zco (pc zhb (pc (by exact λcv L' H' hd hP=>X.val rfl rfl (fld_r underlying184 rfl sizeOf178 rfl) R2) (pc (by exact λcv L' H' hd hP=>X.val rfl rfl (fld_r underlying178 rfl sizeOf52 rfl) R2) (pc zco (pc zco (pk (pk (pk (pn)))))))))))))))))))) ?_ ?_
  ·refine sc rfl rfl rfl ?_ ?_
   ·exact z4i
   refine sc rfl rfl rfl ?_ ?_
   ·intro cv L' H' hl hP F Q' hk;obtain⟨v1,rfl⟩:=len1 hl;obtain⟨bn,rfl,rfl,rfl,hfn⟩:=hP;refine call call106 rfl rfl rfl (λW hS=>n4c (some ⟨bn,0,none⟩) 4 4 W) ?_;exact OJ.done (hk _ _ _ ⟨bn,rfl,rfl,rfl,rfl,hfn⟩)
   exact zNi
  intro cv L' H' hl hP;obtain⟨v1,v2,v3,rfl⟩:=len3 hl;obtain⟨bn,bo1,rfl,rfl,rfl,rfl,rfl,hfn,hfo⟩:=hP;refine apT (r:=r2) (xs:=es2) (zs:=[((bn,4):El)]) (enc:=elE 4) (m:=4) (H0:=[(bo1,.cells #[.int .i64 3,.int .i64 0,.string ⟨#[]⟩,.slice (some ⟨bn,0,none⟩) 4 4] 149 (0,0)),(bn,.cells (nM (bxV x)++[]).toArray 149 (0,0)),(b9,.cells (bxA x) 184 (0,0)),(b5,.cells #[.int .i64 3,.int .i64 0,.string ⟨#[]⟩,.slice none 0 0] 149 (0,0)),(b4,.cells #[.int .i64 3,.int .i64 0,.string ⟨#[]⟩,r2.val es2.length] 149 (0,0)),(b3,.cells #[.int .i64 3,.int .i64 0,.string ⟨#[]⟩,r1.val es1.length] 149 (0,0))]) (H1:=[]) rfl ncf (n8d 4) rfl rfl rfl rfl (SrcT.one (z:=((bn,4):El)) (n8d 4) (nGi 4) underlying147 (Lies.own (i:=0) rfl)) hrfit hrf zS z8b ?_;intro br cr sr hfr hfitr;refine B 1 ?_;refine stW (i:=4) rfl sizeOf147 rfl rfl rfl rfl (apo rfl) rfl ?_;refine B 7 ?_;refine PJ.reH (H':=[(bo1,.cells #[.int .i64 3,.int .i64 0,.string ⟨#[]⟩,.slice (some ⟨bn,0,none⟩) 4 4] 149 (0,0)),(bn,.cells (nM (bxV x)++[]).toArray 149 (0,0)),(b9,.cells (bxA x) 184 (0,0)),(b5,.cells #[.int .i64 3,.int .i64 0,.string ⟨#[]⟩,.slice none 0 0] 149 (0,0)),(b4,.cells #[.int .i64 3,.int .i64 0,.string ⟨#[]⟩,(Rw.row br cr sr).val (es2++[((bn,4):El)]).length] 149 (0,0)),(b3,.cells #[.int .i64 3,.int .i64 0,.string ⟨#[]⟩,r1.val es1.length] 149 (0,0))]++((br,rwO (elE 4) 149 (es2++[((bn,4):El)]) sr)::[])) rfl ?_
  refine PJ.dropAt (i:=0) rfl hfo ?_;refine PJ.fz [(bn,.cells (nM (bxV x)++[]).toArray 149 (0,0))] (H':=[(b9,.cells (bxA x) 184 (0,0)),(b5,.cells #[.int .i64 3,.int .i64 0,.string ⟨#[]⟩,.slice none 0 0] 149 (0,0)),(b4,.cells #[.int .i64 3,.int .i64 0,.string ⟨#[]⟩,(Rw.row br cr sr).val (es2++[((bn,4):El)]).length] 149 (0,0)),(b3,.cells #[.int .i64 3,.int .i64 0,.string ⟨#[]⟩,r1.val es1.length] 149 (0,0))]++((br,rwO (elE 4) 149 (es2++[((bn,4):El)]) sr)::[])) (List.Perm.refl _) (by intro p hp;simp at hp;subst hp;exact hfn) ?_;refine zWd ?_;refine PJ.again (((Rw.row br cr sr,(es2++[((bn,4):El)])),(bn,.cells (nM (bxV x)++[]).toArray 149 (0,0))::F2),j2+1) ⟨by dsimp only;omega,hfr.elim (λh=>Rw.Fr_at hrf h) (λh=>.inr h),hfitr,by dsimp only;rw[nzh bxV hx];exact hne2.snoc (λp hp=>.tail _ hp) rfl rfl (abo _) A0,λq hq=>.tail _ (hsub2 q hq)⟩ z2 zR rfl rfl zS
 intro hc2;refine B 7 ?_;have hall2:c.bxs.take j2=c.bxs:=afp zG;rw[hall2]at hne2;have hfit2:=hrfit;refine CJ.fz (r2.hp (elE 4) 149 es2) (H':=[(b5,.cells #[.int .i64 3,.int .i64 0,.string ⟨#[]⟩,.slice none 0 0] 149 (0,0)),(b4,.cells #[.int .i64 3,.int .i64 0,.string ⟨#[]⟩,r2.val es2.length] 149 (0,0)),(b3,.cells #[.int .i64 3,.int .i64 0,.string ⟨#[]⟩,r1.val es1.length] 149 (0,0))]) zbc (Rw.fz_above hrf) ?_;refine B 8 ?_;refine CJ.loop (α:=((Rw×List El)×Heap)×Nat) (λp=>[(1,ptr b1 0),(3,ptr b3 0),(4,ptr b4 0),(5,ptr b5 0),(71,.slice c.wa c.wes.length c.wc),(72,.int .i64 (c.wes.length:Int)),(73,.int .i64 (p.2:Int))]) (λp=>[(b5,.cells #[.int .i64 3,.int .i64 0,.string ⟨#[]⟩,p.1.1.1.val p.1.1.2.length] 149 (0,0)),(b4,.cells #[.int .i64 3,.int .i64 0,.string ⟨#[]⟩,r2.val es2.length] 149 (0,0)),(b3,.cells #[.int .i64 3,.int .i64 0,.string ⟨#[]⟩,r1.val es1.length] 149 (0,0))]++(p.1.1.1.hp (elE 3) 149 p.1.1.2++[])) (λp=>[w1,w]) (λp=>fzG p.1.2) (λp=>p.2<=c.wes.length/\p.1.1.1.Fr (fzG p.1.2) [w1,w]/\p.1.1.1.Fit 4 p.1.1.2/\Nest p.1.2 3 p.1.1.2 ((c.wes.take p.2).map weV)/\∀q∈(r2.hp (elE 4) 149 es2++F2),q∈p.1.2) (λp=>c.wes.length-p.2) (((.nil,[]),(r2.hp (elE 4) 149 es2++F2)),0) ⟨a3o _,True.intro,rfl,Nest.nil,λq h=>h⟩ zR rfl rfl zS ?_;rintro⟨⟨⟨r3,es3⟩,F3⟩,j3⟩ ⟨hj,hrf,hrfit,hne3,hsub3⟩
 dsimp only at hj hrf hrfit hne3 hsub3 ⊢;have hrge:r3.ge w1.heap.size:=Rw.ge_fz hrf A0;have hel:es3.length<=50:=by rw[hne3.1,aAo,anp];omega
 refine B 6 ?_;refine zCD ?_ ?_
 ·intro hc3;refine B 5 ?_;obtain⟨bo,oo,cs0,to,fr0,hpe,hbo,hcs,hel0⟩:=hslw.get zG;obtain⟨x,hx⟩:=nj c.wes j3 zG;rw[hpe];have hq:=λ(k:Nat)=>Rw.mem_ge (enc:=elE 3) (t:=149) (xs:=es3) (k:=k) hrge;have hby:ByAt N w x.w.ba x.w.body:=hC.wb x (ajo hx);refine B 2 ?_;refine rv rfl rfl rfl (RV.re (v':=.agg (weA x)) (ldRA_r isAgg186 sizeOf186 rfl A1 hcs zO z6c (nk hel0 hx rfl)) (congrArg Value.agg (nl hel0 hx rfl))) ?_;refine allW zeroValue186 rfl rfl ?_;intro b11 ha11 ho11;replace ha11:=yb ha11;replace ho11:=yc ho11;refine z4g ?_;refine B 2 ?_;refine CJ.less (E':=[(1,_),(3,_),(4,_),(5,_),(11,_),(71,_),(72,_),(73,_),(74,_),(75,_),(76,_)]) zR ?_;refine nJ 16 [13,14,15] [([],some _),([0],some _),([],some _),([2],some _),([3],some _),([],some _),([5],some _),([6],some _),([7],some _),([],some _),([9],some _),([10],some _),([11],some (vT (bsT x.w.body))),([4,8,12],none),([13],none),([14],none)] (λcv L' H'=>match cv with| []=>L'=[w1,w]/\H'=[(b11,.cells (weA x) 186 (0,0)),(b5,.cells #[.int .i64 3,.int .i64 0,.string ⟨#[]⟩,r3.val es3.length] 149 (0,0)),(b4,.cells #[.int .i64 3,.int .i64 0,.string ⟨#[]⟩,r2.val es2.length] 149 (0,0)),(b3,.cells #[.int .i64 3,.int .i64 0,.string ⟨#[]⟩,r1.val es1.length] 149 (0,0))]++(r3.hp (elE 3) 149 es3++[])| [v1]=>∃(bn:Nat),v1= .slice (some ⟨bn,0,none⟩) 3 3/\L'=[w1,w]/\H'=[(bn,.cells (nM (weV x)++[]).toArray 149 (0,0)),(b11,.cells (weA x) 186 (0,0)),(b5,.cells #[.int .i64 3,.int .i64 0,.string ⟨#[]⟩,r3.val es3.length] 149 (0,0)),(b4,.cells #[.int .i64 3,.int .i64 0,.string ⟨#[]⟩,r2.val es2.length] 149 (0,0)),(b3,.cells #[.int .i64 3,.int .i64 0,.string ⟨#[]⟩,r1.val es1.length] 149 (0,0))]++(r3.hp (elE 3) 149 es3++[])/\Above [w1,w] bn| [v1,v2]=>∃(bn:Nat),v1= .slice (some ⟨bn,0,none⟩) 3 3/\v2=vL (some ⟨bn,0,none⟩) 3 3/\L'=[w1,w]/\H'=[(bn,.cells (nM (weV x)++[]).toArray 149 (0,0)),(b11,.cells (weA x) 186 (0,0)),(b5,.cells #[.int .i64 3,.int .i64 0,.string ⟨#[]⟩,r3.val es3.length] 149 (0,0)),(b4,.cells #[.int .i64 3,.int .i64 0,.string ⟨#[]⟩,r2.val es2.length] 149 (0,0)),(b3,.cells #[.int .i64 3,.int .i64 0,.string ⟨#[]⟩,r1.val es1.length] 149 (0,0))]++(r3.hp (elE 3) 149 es3++[])/\Above [w1,w] bn| [v1,v2,v3]=>∃(bn:Nat) (bo1:Nat),v1= .slice (some ⟨bn,0,none⟩) 3 3/\v2=vL (some ⟨bn,0,none⟩) 3 3/\v3= .slice (some ⟨bo1,0,none⟩) 1 1/\L'=[w1,w]/\H'=[(bo1,.cells #[.int .i64 3,.int .i64 0,.string ⟨#[]⟩,.slice (some ⟨bn,0,none⟩) 3 3] 149 (0,0)),(bn,.cells (nM (weV x)++[]).toArray 149 (0,0)),(b11,.cells (weA x) 186 (0,0)),(b5,.cells #[.int .i64 3,.int .i64 0,.string ⟨#[]⟩,r3.val es3.length] 149 (0,0)),(b4,.cells #[.int .i64 3,.int .i64 0,.string ⟨#[]⟩,r2.val es2.length] 149 (0,0)),(b3,.cells #[.int .i64 3,.int .i64 0,.string ⟨#[]⟩,r1.val es1.length] 149 (0,0))]++(r3.hp (elE 3) 149 es3++[])/\Above [w1,w] bn/\Above [w1,w] bo1|_=>False) zM ⟨rfl,rfl⟩ zM zM zM zM zM zM (pc zzb (pc zco (pc (by exact λcv L' H' hd hP=>X.val rfl rfl (fld_r underlying186 rfl sizeOf3 rfl) R2) (pc zco (pc zhb (pc (by exact λcv L' H' hd hP=>X.val rfl rfl (fld_r underlying186 rfl sizeOf178 rfl) R2) (pc (by exact λcv L' H' hd hP=>X.val rfl rfl (fld_r underlying178 rfl sizeOf3 rfl) R2) (pc zco (pc zhb (pc (by exact λcv L' H' hd hP=>X.val rfl rfl (fld_r underlying186 rfl sizeOf178 rfl) R2) (pc (by exact λcv L' H' hd hP=>X.val rfl rfl (fld_r underlying178 rfl sizeOf52 rfl) R2) (pc zco (pc zco (pk (pk (pk (pn))))))))))))))))) ?_ ?_
  ·refine sc rfl rfl rfl ?_ ?_
   ·exact z4i
   refine sc rfl rfl rfl ?_ ?_
   ·intro cv L' H' hl hP F Q' hk;obtain⟨v1,rfl⟩:=len1 hl;obtain⟨bn,rfl,rfl,rfl,hfn⟩:=hP;refine call call106 rfl rfl rfl (λW hS=>n4c (some ⟨bn,0,none⟩) 3 3 W) ?_;exact OJ.done (hk _ _ _ ⟨bn,rfl,rfl,rfl,rfl,hfn⟩)
   exact zNi
  intro cv L' H' hl hP;obtain⟨v1,v2,v3,rfl⟩:=len3 hl;obtain⟨bn,bo1,rfl,rfl,rfl,rfl,rfl,hfn,hfo⟩:=hP;refine apT (r:=r3) (xs:=es3) (zs:=[((bn,3):El)]) (enc:=elE 3) (m:=4) (H0:=[(bo1,.cells #[.int .i64 3,.int .i64 0,.string ⟨#[]⟩,.slice (some ⟨bn,0,none⟩) 3 3] 149 (0,0)),(bn,.cells (nM (weV x)++[]).toArray 149 (0,0)),(b11,.cells (weA x) 186 (0,0)),(b5,.cells #[.int .i64 3,.int .i64 0,.string ⟨#[]⟩,r3.val es3.length] 149 (0,0)),(b4,.cells #[.int .i64 3,.int .i64 0,.string ⟨#[]⟩,r2.val es2.length] 149 (0,0)),(b3,.cells #[.int .i64 3,.int .i64 0,.string ⟨#[]⟩,r1.val es1.length] 149 (0,0))]) (H1:=[]) rfl ncf (n8d 3) rfl rfl rfl rfl (SrcT.one (z:=((bn,3):El)) (n8d 3) (nGi 3) underlying147 (Lies.own (i:=0) rfl)) hrfit hrf zS z8b ?_;intro br cr sr hfr hfitr;refine B 1 ?_;refine stW (i:=3) rfl sizeOf147 rfl rfl rfl rfl (apo rfl) rfl ?_;refine B 7 ?_;refine PJ.reH (H':=[(bo1,.cells #[.int .i64 3,.int .i64 0,.string ⟨#[]⟩,.slice (some ⟨bn,0,none⟩) 3 3] 149 (0,0)),(bn,.cells (nM (weV x)++[]).toArray 149 (0,0)),(b11,.cells (weA x) 186 (0,0)),(b5,.cells #[.int .i64 3,.int .i64 0,.string ⟨#[]⟩,(Rw.row br cr sr).val (es3++[((bn,3):El)]).length] 149 (0,0)),(b4,.cells #[.int .i64 3,.int .i64 0,.string ⟨#[]⟩,r2.val es2.length] 149 (0,0)),(b3,.cells #[.int .i64 3,.int .i64 0,.string ⟨#[]⟩,r1.val es1.length] 149 (0,0))]++((br,rwO (elE 3) 149 (es3++[((bn,3):El)]) sr)::[])) rfl ?_
  refine PJ.dropAt (i:=0) rfl hfo ?_;refine PJ.fz [(bn,.cells (nM (weV x)++[]).toArray 149 (0,0))] (H':=[(b11,.cells (weA x) 186 (0,0)),(b5,.cells #[.int .i64 3,.int .i64 0,.string ⟨#[]⟩,(Rw.row br cr sr).val (es3++[((bn,3):El)]).length] 149 (0,0)),(b4,.cells #[.int .i64 3,.int .i64 0,.string ⟨#[]⟩,r2.val es2.length] 149 (0,0)),(b3,.cells #[.int .i64 3,.int .i64 0,.string ⟨#[]⟩,r1.val es1.length] 149 (0,0))]++((br,rwO (elE 3) 149 (es3++[((bn,3):El)]) sr)::[])) (List.Perm.refl _) (by intro p hp;simp at hp;subst hp;exact hfn) ?_;refine zWd ?_;refine PJ.again (((Rw.row br cr sr,(es3++[((bn,3):El)])),(bn,.cells (nM (weV x)++[]).toArray 149 (0,0))::F3),j3+1) ⟨by dsimp only;omega,hfr.elim (λh=>Rw.Fr_at hrf h) (λh=>.inr h),hfitr,by dsimp only;rw[nzh weV hx];exact hne3.snoc (λp hp=>.tail _ hp) rfl rfl (abo _) A0,λq hq=>.tail _ (hsub3 q hq)⟩ z2 zR rfl rfl zS
 intro hc3;refine B 6 ?_;have hall3:c.wes.take j3=c.wes:=afp zG;rw[hall3]at hne3;have hfit3:=hrfit;refine CJ.fz (r3.hp (elE 3) 149 es3) (H':=[(b5,.cells #[.int .i64 3,.int .i64 0,.string ⟨#[]⟩,r3.val es3.length] 149 (0,0)),(b4,.cells #[.int .i64 3,.int .i64 0,.string ⟨#[]⟩,r2.val es2.length] 149 (0,0)),(b3,.cells #[.int .i64 3,.int .i64 0,.string ⟨#[]⟩,r1.val es1.length] 149 (0,0))]) zbc (Rw.fz_above hrf) ?_;refine CJ.less (E':=[(1,_),(3,_),(4,_),(5,_),(71,_),(72,_),(73,_),(74,_)]) zR ?_;refine nJ 30 [15,16] [([],some _),([0],some _),([1],some _),([],some _),([3],some _),([4],some _),([],some _),([6],some _),([7],some (vT (bsT (dgU c.par)))),([],some _),([9],some _),([10],some _),([],some (.agg #[.int .i64 3,.int .i64 0,.string ⟨#[]⟩,r1.val es1.length])),([],some _),([13],some _),([14],none),([15],none),([],some (.agg #[.int .i64 3,.int .i64 0,.string ⟨#[]⟩,r2.val es2.length])),([],some (.agg #[.int .i64 3,.int .i64 0,.string ⟨#[]⟩,r3.val es3.length])),([],some _),([19],some _),([20],some (vT (bsT (dgU c.conf)))),([],some _),([22],some _),([23],some _),([24],some _),([],some _),([26],some _),([27],some _),([28],some _)] (λcv L' H'=>match cv with| []=>L'=[w1,w]/\H'=[(b5,.cells #[.int .i64 3,.int .i64 0,.string ⟨#[]⟩,r3.val es3.length] 149 (0,0)),(b4,.cells #[.int .i64 3,.int .i64 0,.string ⟨#[]⟩,r2.val es2.length] 149 (0,0)),(b3,.cells #[.int .i64 3,.int .i64 0,.string ⟨#[]⟩,r1.val es1.length] 149 (0,0))]| [v1]=>∃(r15:Rw),v1=r15.val c.path.length/\L'=[w1,w]/\H'=[(b5,.cells #[.int .i64 3,.int .i64 0,.string ⟨#[]⟩,r3.val es3.length] 149 (0,0)),(b4,.cells #[.int .i64 3,.int .i64 0,.string ⟨#[]⟩,r2.val es2.length] 149 (0,0)),(b3,.cells #[.int .i64 3,.int .i64 0,.string ⟨#[]⟩,r1.val es1.length] 149 (0,0))]++(r15.hp vIE 149 c.path++[])/\r15.ge w1.heap.size/\r15.Fit 4 c.path| [v1,v2]=>∃(r15:Rw),v1=r15.val c.path.length/\v2= .agg #[.int .i64 3,.int .i64 0,.string ⟨#[]⟩,r15.val c.path.length]/\L'=[w1,w]/\H'=[(b5,.cells #[.int .i64 3,.int .i64 0,.string ⟨#[]⟩,r3.val es3.length] 149 (0,0)),(b4,.cells #[.int .i64 3,.int .i64 0,.string ⟨#[]⟩,r2.val es2.length] 149 (0,0)),(b3,.cells #[.int .i64 3,.int .i64 0,.string ⟨#[]⟩,r1.val es1.length] 149 (0,0))]++(r15.hp vIE 149 c.path++[])/\r15.ge w1.heap.size/\r15.Fit 4 c.path|_=>False) zM ⟨rfl,rfl⟩ zM zM zM zM zM zM (pc zcb (pc zcp (pc zhb (pc zcb (pc zcp (pc zhb (pc (by exact λcv L' H' hd hP=>X.val rfl rfl (fld_r underlying102 rfl sizeOf43 rfl) R2) (pc (by exact λcv L' H' hd hP=>X.val rfl rfl (slA0_r underlying43 sizeOf5 rfl rfl zG) R2) (pc zcp (pc zcb (pc zcp (pc zhb (pc zcp (pc znc (pc zcp (pk (pk (pc zcp (pc zcp (pc (by exact λcv L' H' hd hP=>X.val rfl rfl (fld_r underlying102 rfl sizeOf43 rfl) R2) (pc (by exact λcv L' H' hd hP=>X.val rfl rfl (slA0_r underlying43 sizeOf5 rfl rfl zG) R2) (pc zcp (pc zJb (pc ztb (pc zcp (pc zhb (pc zJb (pc ztb (pc zcp (pc zhb (pn))))))))))))))))))))))))))))))) ?_ ?_
 ·refine sc rfl rfl rfl ?_ ?_
  ·intro cv L' H' hl hP F Q' hk;obtain rfl:=aap hl;obtain⟨rfl,rfl⟩:=hP;refine n9c (enc:=vIE) (m:=4) (t:=149) (xs:=c.path) (v:=id) (first:=[]) (cap:=[]) rfl call107 rfl rfl rfl (λW hS=>ndi c.path zG N c.pa c.pc W (aco hN (hS.links w A1).size) (hslp.up (abo _) (λk hk=>(hS.links w A1).block k zG (λhx=>by rcases hx with hx|hx;(exact hx);simp only[afo,a0o,aeo,aCo,or_false]at hx;omega)))) ?_;intro r_ hr_ hfit_;exact OJ.done (hk _ _ _ ⟨r_,rfl,rfl,rfl,Rw.ge_fz hr_ A0,hfit_⟩)
  refine sc rfl rfl rfl ?_ ?_
  ·intro cv L' H' hl hP F Q' hk;obtain⟨v1,rfl⟩:=len1 hl;obtain⟨r15,rfl,rfl,rfl,hge15,hfit15⟩:=hP;refine call call106 rfl rfl rfl (λW hS=>co_listR W) ?_;exact OJ.done (hk _ _ _ ⟨r15,rfl,rfl,rfl,rfl,hge15,hfit15⟩)
  exact sn
 intro cv L' H' hl hP;obtain⟨v1,v2,rfl⟩:=len2 hl;obtain⟨r15,rfl,rfl,rfl,rfl,hge15,hfit15⟩:=hP;refine zye ?_;intro b126 ha126 ho126;replace ha126:=yb ha126;replace ho126:=yc ho126;refine B 4 ?_;refine retG (.inl rfl) results77 (RS.t rfl RS.n) λW hS=>⟨b126,rfl,(hS.links w A1).below (λk hk hx=>by rcases hx with hx|hx;(exact hx);simp only[ayo,afo,a0o,aEo,abp,asp,azo,aeo,aCo,or_false]at hx;rcases hx with hx|hx|hx|hx|hx<;>first|omega|(have:=Rw.mem_ge hge15 hx;omega)),by omega,?_⟩;have hF:∀p∈(r3.hp (elE 3) 149 es3++F3),p.1<W.heap.size/\W.heap[p.1]? =some p.2:=λp hp=>⟨(ago.1 (hS.fzAt p hp)).1,hS.fzAt p hp⟩;have hb:=hS.own (b126,_) A0;have h15:∀p∈r15.hp vIE 149 c.path,p.1<W.heap.size/\W.heap[p.1]? =some p.2:=λp hp=>by have h:=hS.own p (by simp[hp]);exact⟨(ago.1 h).1,h⟩
 have i3:∀p∈F3,p∈(r3.hp (elE 3) 149 es3++F3):=λp hp=>azo.2 (.inr hp);have i2:∀p∈F2,p∈(r3.hp (elE 3) 149 es3++F3):=λp hp=>i3 p (hsub3 p (azo.2 (.inr hp)));have i1:∀p∈F1,p∈(r3.hp (elE 3) 149 es3++F3):=λp hp=>i2 p (hsub2 p (azo.2 (.inr hp)));have v1:=Nest.vat (t:=149) (hne1.up i1) hF (λp hp=>i2 p (hsub2 p (azo.2 (.inl hp)))) hfit1;have v2x:=Nest.vat (t:=149) (hne2.up i2) hF (λp hp=>i3 p (hsub3 p (azo.2 (.inl hp)))) hfit2;have v3x:=Nest.vat (t:=149) (hne3.up i3) hF (λp hp=>azo.2 (.inl hp)) hfit3;have vp:=ints_vat (t:=149) h15 hfit15;exact vat_mk (cmV c) (abo 11) hb (ago.1 hb).1 (n4b (apo rfl) (nUe _ _ _) (n4b (apo rfl) (nUe _ _ _) (n4b (apo rfl) (nxk _ _ _) (n4b (apo rfl) (nUe _ _ _) (n4b (apo rfl) v1 (n4b (apo rfl) vp (n4b (apo rfl) v2x (n4b (apo rfl) v3x (n4b (apo rfl) (nxk _ _ _) (n4b (apo rfl) (nUe _ _ _) (n4b (apo rfl) (nUe _ _ _) (vs_nil))))))))))))
end Px
