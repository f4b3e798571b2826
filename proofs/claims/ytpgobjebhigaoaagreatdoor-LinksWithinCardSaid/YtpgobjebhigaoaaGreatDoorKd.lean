/- Contracts of functions of the program. No condition beyond those stated. -/
import Derived.Test.YtpgobjebhigaoaaGreatDoorKc
import Derived.Test.YtpgobjebhigaoaaGreatDoorProg
import Derived.Test.YtpgobjebhigaoaaGreatDoorLa
set_option linter.unusedSimpArgs false
set_option linter.unusedVariables false
set_option linter.unusedSectionVars false
set_option linter.unnecessarySimpa false
set_option maxRecDepth 20000
set_option maxHeartbeats 8000000
namespace Px
open Go Go.RowKit Go.Proofs Go.Proofs.Tryz
variable {ops:Array Oper} {cs:Array Value} {C:Cx} {E:Env} {G:Gh} {F H H':ae} {au d:Int} {ls:List (List V)} {D:List Deferred} {ns:List Nd} {sp:List Value} {L:List World} {N N' T b e i j:Nat} {fr:Nat×Nat} {o:Obj} {x:Operand} {a:Option Addr} {r:Rw} {v:Value} {W w' w1:World}
theorem OJ.frz{Q:aG}{l:List Oper}(hi:H[i]? =some (b,o))(hH:H.eraseIdx i=H')(ha:ad L b)(k:∀w1,w1.heap[b]? =some o->b<w1.heap.size->(∀w∈L,w.heap.size<=w1.heap.size)->OJ C ops Q l E D G (w1::L) H'):OJ C ops Q l E D G L H:=by
 subst hH;intro a W hN hD hF hS;have hb:=hS.own _ (cC hi);exact k W hb (aM.1 hb).1 (λw hw=>(hS.links w hw).size) a W hN hD hF (hS.dropAt hi ha).snap
noncomputable def lU (ns:List Nd) (n:Int):List Int:=if iE ns=0/\1<=n/\n<=1023 then eu (cY ns) 10 n else[]
noncomputable def I3 (ns:List Nd) (n:Int):Int:=if iE ns=0 then(if 1<=n/\n<=1023 then 0 else 200)else 210
theorem WY(kv:List (Int×Int)):∀(k:Nat) (n:Int),(eu kv k n).length<=2^k
 |0,n=>by simp[eu]
 |k+1,n=>by
  have h1:=WY kv k (2*n);have h2:=WY kv k (2*n+1);have h3:2^(k+1)=2^k+2^k:=by rw[Nat.pow_succ];omega
  have h4:0<2^k:=Nat.pow_pos zQ;by_cases h5:(aE kv n).isSome=true
  ·rw[nSh h5];simp;omega
  by_cases h6:512<=n
  ·rw[nNj h5 h6];simp
  rw[nBg h5 h6,cF];omega
theorem nZj(ns:List Nd)(n:Int):(lU ns n).length<=1024:=by
 unfold lU;split
 ·exact WY _ 10 n
 simp
theorem F0:dR prog 312:=call312
theorem nAj(ns:List Nd)(hn:ns.length<=100000)(N:Nat)(a:Option Addr)(cp:Nat)(w:World)(hN:N<=w.heap.size)(aJ:ah gh 2 N w a ns)(fJ:iE ns=210)(n:Int):Calls prog 257 #[.agg #[.slice a ns.length cp],.int .i64 n] w (nC w ai 1 3 [] (λs=>.tuple #[s,.int .i64 (210)])):=by
 refine zyi ?_;refine yV ?_;intro b2 w2 aH aF dS cE cX;refine B 7 ?_;refine WZ ?_;refine zSg ?_;refine B 6 ?_;refine Fl ?_;refine B 12 ?_;exact zOj
theorem nnk(ns:List Nd)(hn:ns.length<=100000)(N:Nat)(a:Option Addr)(cp:Nat)(w:World)(hN:N<=w.heap.size)(aJ:ah gh 2 N w a ns)(fJ:iE ns=0)(n:Int)(fm:¬(1<=n/\n<=1023)):Calls prog 257 #[.agg #[.slice a ns.length cp],.int .i64 n] w (nC w ai 1 3 [] (λs=>.tuple #[s,.int .i64 (200)])):=by
 refine zyi ?_;refine yV ?_;intro b2 w2 aH aF dS cE cX;refine B 7 ?_;refine WZ ?_;refine zgf ?_;refine Iv ?_;refine B 7 ?_;by_cases h1:n<1
 ·refine B 2 ?_;refine DF ?_;refine B 15 ?_;exact zOj
 refine KM ?_;refine B 2 ?_;refine OF ?_;refine B 12 ?_;exact zOj
theorem nBk(ns:List Nd)(hn:ns.length<=100000)(N:Nat)(a:Option Addr)(cp:Nat)(w:World)(hN:N<=w.heap.size)(aJ:ah gh 2 N w a ns)(fJ:iE ns=0)(n:Int)(fm:1<=n/\n<=1023):Calls prog 257 #[.agg #[.slice a ns.length cp],.int .i64 n] w (nC w ai 1 3 (eu (cY ns) 10 n) (λs=>.tuple #[s,.int .i64 (0)])):=by
 have u9:=fm.1;have Dl:=fm.2;refine zyi ?_;refine yV ?_;intro b2 w2 aH aF dS cE cX;refine B 7 ?_;refine WZ ?_;refine zgf ?_;refine Iv ?_;refine B 9 ?_;refine tW ?_;refine B 2 ?_;refine Iu ?_;refine B 8 ?_;refine WZ ?_;refine zOf ?_;intro bf m vA O0 hm;replace vA:=yb vA;refine B 1 ?_;refine OJ.frz (i:=0) (H':=[]) rfl rfl zZ ?_;intro wf hwf hlf hzf;have ahg:=hzf w A1;refine nu (α:=Nat×Nat) (v:=λq:Nat×Nat=>.func (.func 312) #[] #[ptr q.1 0,ptr q.2 0]) (Φ:=λ(W:World) (q:Nat×Nat) (w1:World)=>W.heap.size<=q.1/\W.heap.size<=q.2/\w1.heap[q.1]? =some (.cells #[.map (some bf)] 319 (0,0))/\w1.heap[q.2]? =some (.cells #[.int .i64 n] 3 (0,0))) call293 rfl rfl rfl (λW hS=>nVe (some bf) n W) ?_;rintro Wk q wk vw FL ⟨eN,eQ,du,fu⟩;try dsimp only at eN eQ du fu
 have sf:=(aM.1 du).1;have sh:=(aM.1 fu).1;have WN:=FL.size;have hzw:=(vw.links wf A0).size;refine RZ (enc:=ai) (m:=1) (t:=3) (Fin:=Is (eu (cY ns) 10 n)) (v:=id) call118 rfl rfl rfl (λW hS=>WM (f:=312) (cap:=[ptr q.1 0,ptr q.2 0]) (Pre:=xW (eu (cY ns) 10 n)) (Fin:=Is (eu (cY ns) 10 n)) (RO:=Si q.1 q.2 bf) F0 W ?_ ?_ ?_) ?_
 ·have mr:=(hS.links wk A0).size;rintro j (rfl|rfl|rfl)<;>omega
 ·intro p hp;have h1:p.length<=_:=hp.length_le;have h2:=WY (cY ns) 10 n;omega
 ·intro W2 hB;have mr:=(hS.links wk A0).size;exact Sl (cY ns) 10 n q.1 q.2 bf m W2 zM zM zM hm (by rw[hB.block q.1 zM];exact hS.old A0 du zX trivial) (by rw[hB.block q.2 zM];exact hS.old A0 fu zX trivial) (by rw[hB.block bf zM];exact hS.old A1 hwf zX trivial)
 intro xs r bZ bG al;cases bZ
 refine B 5 ?_;exact nU (H0:=[]) (H1:=[]) (r:=r) (.inl rfl) results257 (RS.t rfl (RS.t rfl RS.n)) A3 (by rw[dE];exact Rw.over (Rw.ge_of bG A3)) rfl al (Rw.ge_of bG A3) z1
theorem nHg(ns:List Nd)(hn:ns.length<=100000)(N:Nat)(a:Option Addr)(cp:Nat)(w:World)(hN:N<=w.heap.size)(aJ:ah gh 2 N w a ns)(n:Int):Calls prog 257 #[.agg #[.slice a ns.length cp],.int .i64 n] w (nC w ai 1 3 (lU ns n) (λs=>.tuple #[s,.int .i64 (I3 ns n)])):=by
 rcases WO ns with h|h
 ·by_cases h2:1<=n/\n<=1023
  ·have e1:lU ns n=eu (cY ns) 10 n:=by unfold lU;rw[if_pos ⟨h,h2⟩]
   have e2:I3 ns n=0:=by unfold I3;rw[if_pos h,if_pos h2]
   rw[e1,e2];exact nBk ns hn N a cp w hN aJ h n h2
  have e1:lU ns n=[]:=by unfold lU;rw[if_neg λg=>h2 g.2]
  have e2:I3 ns n=200:=by unfold I3;rw[if_pos h,if_neg h2]
  rw[e1,e2];exact nnk ns hn N a cp w hN aJ h n h2
 have e1:lU ns n=[]:=by unfold lU;rw[if_neg λg=>by have:=g.1;omega]
 have e2:I3 ns n=210:=by unfold I3;rw[if_neg zM]
 rw[e1,e2];exact nAj ns hn N a cp w hN aJ h n
structure Mb where
 dev:Int
 since:Int
 ver:Int
def oE (x:Mb):Array Value:=#[.int .i64 x.dev,.int .i64 x.since,.int .i64 x.ver]
def kK (x:Mb):List Value:=[.int .i64 x.dev,.int .i64 x.since,.int .i64 x.ver]
structure Ch where
 kind:Int
 dev:Int
 pub:Int
 ver:Int
 cut:Int
def eR (x:Ch):Array Value:=#[.int .i64 x.kind,.int .i64 x.dev,.int .i64 x.pub,.int .i64 x.ver,.int .i64 x.cut]
def lV (x:Ch):List Value:=[.int .i64 x.kind,.int .i64 x.dev,.int .i64 x.pub,.int .i64 x.ver,.int .i64 x.cut]
theorem xe(x:Mb):(kK x).length=3:=rfl
theorem AB(x:Ch):(lV x).length=5:=rfl
theorem W4(x:Mb):∀u∈kK x,u.oneCell'=true:=by intro u hu;simp[kK]at hu;rcases hu with rfl|rfl|rfl<;>rfl
theorem ntj(x:Ch):∀u∈lV x,u.oneCell'=true:=by intro u hu;simp[lV]at hu;rcases hu with rfl|rfl|rfl|rfl|rfl<;>rfl
theorem F4:prog.info? 210=some Tryz.t210:=by kernel_rfl
theorem F5:prog.info? 233=some Tryz.t233:=by kernel_rfl
def cB (a b:Int):Int:=if a<b then -1 else if b<a then 1 else 0
abbrev AD (f:Int):Prop:=0<=f/\f<16
theorem Sm{α:Type}{p:α->Bool}{xs:List α}(h:∀i x,i<j->xs[i]? =some x->p x=false)(hj:¬j<xs.length):xs.any p=false:=by
 rw[List.any_eq_false];intro x hx;obtain⟨i,hi⟩:=jL.1 hx;have:=h i x (by have:=nE hi;omega) hi;simp[this]
theorem nuh{α:Type}{p:α->Bool}{xs:List α}{x:α}(hx:xs[j]? =some x)(h:p x=true):xs.any p=true:=List.any_eq_true.2 ⟨x,cC hx,h⟩
def fw {α:Type} (p:α->Bool) (xs:List α) (j:Nat):Prop:=∀i x,i<j->xs[i]? =some x->p x=false
theorem fw.next{α:Type}{p:α->Bool}{xs:List α}{x:α}(h:fw p xs j)(hx:xs[j]? =some x)(hp:p x=false):fw p xs (j+1):=by
 exact zfl
def cR {α:Type} (p:α->Bool) (xs:List α) (i:Int):Prop:=(i= -1/\xs.any p=false)\/∃(k:Nat) (x:α),i=(k:Int)/\xs[k]? =some x/\p x=true/\fw p xs k
theorem cR.any{α:Type}{p:α->Bool}{xs:List α}{i:Int}(h:cR p xs i):decide (0<=i)=xs.any p:=by
 rcases h with⟨rfl,h⟩|⟨k,x,rfl,hx,hp,_⟩
 ·rw[h];rfl
 rw[nuh hx hp];simp
def yi (xs:List Mb) (d:Int) (i j:Nat):Nat:=
 if h:i<j then(if((xs[(i+j)/2]?).map (·.dev)).getD 0<d then yi xs d ((i+j)/2+1) j else yi xs d i ((i+j)/2))else i
termination_by j-i
decreasing_by all_goals omega
theorem LC{xs:List Mb}{x:Mb}(h:i<j)(hx:xs[(i+j)/2]? =some x)(hd:x.dev<d):yi xs d i j=yi xs d ((i+j)/2+1) j:=by
 rw[yi,dif_pos h,hx];simp[hd]
theorem LD{xs:List Mb}{x:Mb}(h:i<j)(hx:xs[(i+j)/2]? =some x)(hd:¬x.dev<d):yi xs d i j=yi xs d i ((i+j)/2):=by
 rw[yi,dif_pos h,hx];simp[hd]
theorem LF{xs:List Mb}(h:¬i<j):yi xs d i j=i:=by rw[yi,dif_neg h]
theorem nnj(a b:Int):cB a b<0↔a<b:=by unfold cB;split<;>(try split)<;>omega
theorem F6(a b:Int):cB a b=0↔a=b:=by unfold cB;split<;>(try split)<;>omega
def lW (xs:List Mb) (d:Int):Nat:=yi xs d 0 xs.length
def hQ (xs:List Mb) (d:Int):Bool:=decide (((xs[lW xs d]?).map (·.dev))=some d)
theorem nam{xs:List Mb}{x:Mb}(h:lW xs d=i)(hx:xs[i]? =some x):decide (cB x.dev d=0)=hQ xs d:=by
 unfold hQ;rw[h,hx];simp[F6]
theorem nuj{xs:List Mb}(h:lW xs d=i)(hi:¬i<xs.length):false=hQ xs d:=by
 unfold hQ;rw[h,tY zM];simp
theorem F7{xs:List Mb}(h:hQ xs d=true):lW xs d<xs.length:=by
 by_cases h2:lW xs d<xs.length
 ·exact h2
 rw[<-nuj rfl h2]at h;cases h
theorem nrl(f:Int)(w:World):Calls prog 200 #[.int .i64 f] w (av w (.bool (decide (AD f)))):=by
 refine enter (vs:=[_]) func200 rfl ntmps200 rfl ?_;refine B 10 ?_;refine nh (t:=5) rfl (λaj=>?_) (λaj=>?_)
 ·exact zXk
 exact zXk
theorem W6(f:Int)(w:World):Calls prog 207 #[.int .i64 f] w (av w (.bool (decide (dM f)))):=by
 refine enter (vs:=[_]) func207 rfl ntmps207 rfl ?_;refine B 10 ?_;refine nh (t:=5) rfl (λaj=>?_) (λaj=>?_)
 ·exact zWk
 exact zWk
theorem nck(f:Int)(w:World):Calls prog 193 #[.int .i64 f] w (av w (.bool false)):=by
 refine enter (vs:=[_]) func193 rfl ntmps193 rfl ?_;refine B 14 ?_;refine ax results193 rfl A0 ?_;exact vb z1
theorem nxf(a b:Int)(w:World):Calls prog 125 #[.int .i64 a,.int .i64 b] w (av w (.int .i64 (cB a b))):=by
 refine enter (vs:=[_,_]) func125 rfl ntmps125 rfl ?_;refine B 8 ?_;refine call call193 rfl rfl rfl (λW hS=>nck _ W) (v:=.bool false) ?_;refine B 6 ?_;refine call call193 rfl rfl rfl (λW hS=>nck _ W) (v:=.bool false) ?_;refine B 29 ?_;refine aK ?_ ?_
 ·intro aj;refine B 7 ?_;exact zRk
 intro aj;refine B 10 ?_;refine aK ?_ ?_
 ·intro aN;refine B 7 ?_;exact zRk
 intro aN;refine B 8 ?_;exact zRk
theorem nMk(x:Mb)(d:Int)(w:World):Calls prog 260 #[.agg (oE x),.int .i64 d] w (av w (.int .i64 (cB x.dev d))):=by
 refine enter (vs:=[_,_]) func260 rfl ntmps260 rfl ?_;refine B 2 ?_;refine yX ?_;intro b2 w2 aH aF dS cE cX;refine B 8 ?_;refine call call125 rfl rfl rfl (λW hS=>nxf _ _ W) ?_;refine B 4 ?_;refine ax results260 rfl A1 ?_;rfl
theorem nep(xs:List Mb)(cb:xs.length<=1000000)(N:Nat)(a:Option Addr)(cp:Nat)(w:World)(hN:N<=w.heap.size)(aJ:ah oE 3 N w a xs)(d:Int):Calls prog 259 #[.slice a xs.length cp,.int .i64 d,.func (.func 260) #[] #[]] w (av w (.tuple #[.int .i64 (lW xs d:Int),.bool (hQ xs d)])):=by
 refine enter (vs:=[_,_,_]) func259 rfl ntmps259 rfl ?_;refine B 22 ?_;refine CJ.loop (α:=Nat×Nat) (λp=>[(0,.slice a xs.length cp),(1,.int .i64 d),(2,.func (.func 260) #[] #[]),(8,.int .i64 (xs.length:Int)),(9,.int .i64 (p.1:Int)),(10,.int .i64 (p.2:Int))]) (λp=>[]) (λp=>[w]) (λp=>Gh.no) (λp=>p.1<=p.2/\p.2<=xs.length/\yi xs d p.1 p.2=lW xs d) (λp=>p.2-p.1) (0,xs.length) ⟨cZ _,ao _,rfl⟩ zR rfl rfl z1 ?_;rintro⟨i,j⟩ ⟨xf,lR,W8⟩;dsimp only at xf lR W8 ⊢;refine B 8 ?_;refine aK ?_ ?_
 ·intro aj;refine B 9 ?_;refine rv rfl rfl rfl (gp 1 2 zQ rfl rfl rfl) ?_;refine rq (.int .i64 (((i+j)/2:Nat):Int)) (tO underlying189 underlying3 rfl zM zM) ((vi zM)) ?_;refine B 4 ?_;obtain⟨bo,oo,cs0,to,fp,rfl,ft,hcs,ar⟩:=aJ.get zM;obtain⟨x,hx⟩:=nk xs ((i+j)/2) zM;refine zRi ?_;refine B 3 ?_;refine aK ?_ ?_
  ·intro aN;refine B 6 ?_;refine PJ.again ((i+j)/2+1,j) ⟨by dsimp only;omega,lR,by rw[<-W8,LC zM hx ((nnj _ _).1 gO)]⟩ dL zR rfl rfl z1
  intro aN;refine B 5 ?_;refine PJ.again (i,(i+j)/2) ⟨by dsimp only;omega,by dsimp only;omega,by rw[<-W8,LD zM hx (λh=>(by assumption:¬cB x.dev d<0) ((nnj _ _).2 h))]⟩ dL zR rfl rfl z1
 intro aj;refine B 6 ?_;have Sn:lW xs d=i:=by rw[<-W8,LF zM]
 by_cases h1:i<xs.length
 ·obtain⟨bo,oo,cs0,to,fp,rfl,ft,hcs,ar⟩:=aJ.get zM;obtain⟨x,hx⟩:=nk xs i zM;refine B 4 ?_;refine DF ?_;refine zRi ?_;refine B 7 ?_;exact zvk
 refine B 4 ?_;refine tW ?_;refine B 15 ?_;exact zvk
theorem Xa(p:Mb->Bool)(f:Nat)(cap:List Value)(az:dR prog f)(xs:List Mb)(cb:xs.length<=1000000)(N:Nat)(a:Option Addr)(cp:Nat)(w:World)(hN:N<=w.heap.size)(aJ:ah oE 3 N w a xs)(hp:∀(j:Nat) (x:Mb),xs[j]? =some x->∀W,Below w.heap.size w W->Calls prog f (.agg (oE x)::cap).toArray W (av W (.bool (p x)))):Calls prog 115 #[.slice a xs.length cp,.func (.func f) #[] cap.toArray] w (cu w (λi:Int=>.int .i64 i) (λi _=>cR p xs i)):=by
 refine enter (vs:=[_,_]) func115 rfl ntmps115 rfl ?_;refine I4 ?_;rintro j ⟨hj,dO⟩;refine B 6 ?_;refine aK ?_ ?_
 ·intro aj;refine B 11 ?_;obtain⟨bo,oo,cs0,to,fp,rfl,ft,hcs,ar⟩:=aJ.get zM;obtain⟨x,hx⟩:=nk xs j zM;refine B 5 ?_;refine zuf ?_;refine I5 ?_;refine aK ?_ ?_
  ·intro aN;refine B 12 ?_;refine jG (j:Int) results115 rfl A0 rfl ?_;exact I6
  exact F8
 intro aj;refine B 11 ?_;refine jG (-1:Int) results115 rfl A0 rfl ?_;exact F9
theorem n1e(p:Mb->Bool)(f:Nat)(cap:List Value)(az:dR prog f)(xs:List Mb)(cb:xs.length<=1000000)(N:Nat)(a:Option Addr)(cp:Nat)(w:World)(hN:N<=w.heap.size)(aJ:ah oE 3 N w a xs)(hp:∀(j:Nat) (x:Mb),xs[j]? =some x->∀W,Below w.heap.size w W->Calls prog f (.agg (oE x)::cap).toArray W (av W (.bool (p x)))):Calls prog 206 #[.slice a xs.length cp,.func (.func f) #[] cap.toArray] w (av w (.bool (xs.any p))):=by
 refine enter (vs:=[_,_]) func206 rfl ntmps206 rfl ?_;refine B 9 ?_;refine nu (α:=Int) (v:=λi:Int=>.int .i64 i) (Φ:=λ_ i _=>cR p xs i) call115 rfl rfl rfl (λW hS=>Xa p f cap az xs cb N a cp W (aS hN (hS.links w A0).size) (aJ.up (ao _) (hS.same A0 hN zU trivial)) (λj x hx W2 hB=>hp j x hx W2 (((hS.links w A0).below Ll).trans (hB.mono (hS.links w A0).size)))) ?_;intro Wi i wi sj sk hi;refine B 5 ?_;refine ax results206 rfl A1 ?_;exact vb hi.any
theorem nOe(p:Ch->Bool)(f:Nat)(cap:List Value)(az:dR prog f)(xs:List Ch)(cb:xs.length<=1000000)(N:Nat)(a:Option Addr)(cp:Nat)(w:World)(hN:N<=w.heap.size)(aJ:ah eR 5 N w a xs)(hp:∀(j:Nat) (x:Ch),xs[j]? =some x->∀W,Below w.heap.size w W->Calls prog f (.agg (eR x)::cap).toArray W (av W (.bool (p x)))):Calls prog 223 #[.slice a xs.length cp,.func (.func f) #[] cap.toArray] w (cu w (λi:Int=>.int .i64 i) (λi _=>cR p xs i)):=by
 refine enter (vs:=[_,_]) func223 rfl ntmps223 rfl ?_;refine I4 ?_;rintro j ⟨hj,dO⟩;refine B 6 ?_;refine aK ?_ ?_
 ·intro aj;refine B 11 ?_;obtain⟨bo,oo,cs0,to,fp,rfl,ft,hcs,ar⟩:=aJ.get zM;obtain⟨x,hx⟩:=nk xs j zM;refine B 5 ?_;refine rq (.agg (eR x)) (ag isAgg233 sizeOf233 rfl A0 hcs zX trivial (ni ar hx rfl)) (va (np ar hx rfl)) ?_;refine I5 ?_;refine aK ?_ ?_
  ·intro aN;refine B 12 ?_;refine jG (j:Int) results223 rfl A0 rfl ?_;exact I6
  exact F8
 intro aj;refine B 11 ?_;refine jG (-1:Int) results223 rfl A0 rfl ?_;exact F9
theorem nCc(p:Ch->Bool)(f:Nat)(cap:List Value)(az:dR prog f)(xs:List Ch)(cb:xs.length<=1000000)(N:Nat)(a:Option Addr)(cp:Nat)(w:World)(hN:N<=w.heap.size)(aJ:ah eR 5 N w a xs)(hp:∀(j:Nat) (x:Ch),xs[j]? =some x->∀W,Below w.heap.size w W->Calls prog f (.agg (eR x)::cap).toArray W (av W (.bool (p x)))):Calls prog 157 #[.slice a xs.length cp,.func (.func f) #[] cap.toArray] w (av w (.bool (xs.any p))):=by
 refine enter (vs:=[_,_]) func157 rfl ntmps157 rfl ?_;refine B 9 ?_;refine nu (α:=Int) (v:=λi:Int=>.int .i64 i) (Φ:=λ_ i _=>cR p xs i) call223 rfl rfl rfl (λW hS=>nOe p f cap az xs cb N a cp W (aS hN (hS.links w A0).size) (aJ.up (ao _) (hS.same A0 hN zU trivial)) (λj x hx W2 hB=>hp j x hx W2 (((hS.links w A0).below Ll).trans (hB.mono (hS.links w A0).size)))) ?_;intro Wi i wi sj sk hi;refine B 5 ?_;refine ax results157 rfl A1 ?_;exact vb hi.any
structure Gp where
 folder:Int
 epoch:Int
 last:Nat->Int
 ms:List Mb
 ns:List Nd
structure Gv where
 g:Gp
 ma:Option Addr
 mc:Nat
 na:Option Addr
 nc:Nat
def aX (x:Gv):Array Value:=#[.int .i64 x.g.folder,.int .i64 x.g.epoch,.int .u8 (x.g.last 0),.int .u8 (x.g.last 1),.int .u8 (x.g.last 2),.int .u8 (x.g.last 3),.int .u8 (x.g.last 4),.int .u8 (x.g.last 5),.int .u8 (x.g.last 6),.int .u8 (x.g.last 7),.int .u8 (x.g.last 8),.int .u8 (x.g.last 9),.int .u8 (x.g.last 10),.int .u8 (x.g.last 11),.int .u8 (x.g.last 12),.int .u8 (x.g.last 13),.int .u8 (x.g.last 14),.int .u8 (x.g.last 15),.int .u8 (x.g.last 16),.int .u8 (x.g.last 17),.int .u8 (x.g.last 18),.int .u8 (x.g.last 19),.int .u8 (x.g.last 20),.int .u8 (x.g.last 21),.int .u8 (x.g.last 22),.int .u8 (x.g.last 23),.int .u8 (x.g.last 24),.int .u8 (x.g.last 25),.int .u8 (x.g.last 26),.int .u8 (x.g.last 27),.int .u8 (x.g.last 28),.int .u8 (x.g.last 29),.int .u8 (x.g.last 30),.int .u8 (x.g.last 31),.slice x.ma x.g.ms.length x.mc,.slice x.na x.g.ns.length x.nc]
structure aL (N:Nat) (w:World) (x:Gv):Prop where
 ms:ah oE 3 N w x.ma x.g.ms
 ns:ah gh 2 N w x.na x.g.ns
 mn:x.g.ms.length<=10000
 nn:x.g.ns.length<=80000
theorem aL.up{w:World}{x:Gv}(h:aL N w x)(hN:N<=N')(hw:∀k,k<N->w'.heap[k]? =w.heap[k]?):aL N' w' x:=⟨h.ms.up hN hw,h.ns.up hN hw,h.mn,h.nn⟩
def O8 (ep:Int) (x:Mb):Bool:=decide (x.since<1\/ep<x.since\/¬dG x.ver)
def LG (g:Gp):Prop:=(AD g.folder/\0<=g.epoch/\g.epoch<=1099511627776/\iE g.ns=0)/\¬(g.epoch=0/\(0<g.ms.length\/jl g.last (λ_=>0)=false))/\g.ms.map (·.dev)=dh g.ns/\g.ms.any (O8 g.epoch)=false
open Classical in
noncomputable def eG (g:Gp):Bool:=decide (LG g)
theorem Sq(a:Int):(if dG a then(0:Int)else 40)=0↔dG a:=by
 by_cases h:dG a
 ·rw[if_pos h];exact⟨λ_=>h,λ_=>rfl⟩
 rw[if_neg h];exact⟨λe=>absurd e zQ,λg=>absurd g h⟩
theorem nBn(G:Gv)(b:Nat)(x:Mb)(w:World)(aR:w.heap[b]? =some (.cells (aX G) 57 (0,0))):Calls prog 202 #[.agg (oE x),ptr b 0] w (av w (.bool (O8 G.g.epoch x))):=by
 have aY:¬Gh.no.X b:=λh=>h;have mr:=(aM.1 aR).1;obtain⟨e,he⟩:∃e,(if dG x.ver then(0:Int)else 40)=e:=⟨_,rfl⟩;have DU:=Sq x.ver;rw[he]at DU;refine enter (vs:=[_,_]) func202 rfl ntmps202 rfl ?_;refine B 2 ?_;refine yX ?_;intro b2 w2 aH aF dS cE cX;refine B 9 ?_;refine nh (t:=7) rfl (λaj=>?_) (λaj=>?_)
 ·replace aj:=ya aj;refine B 16 ?_;exact z1k
 replace aj:=ya aj;refine B 7 ?_;refine nh (t:=14) rfl (λaN=>?_) (λaN=>?_)
 ·replace aN:=ya aN;refine B 9 ?_;exact z1k
 replace aN:=ya aN;refine B 2 ?_;refine WD ?_;refine B 6 ?_;exact z1k
theorem Ga(x:Mb)(d:Int)(w:World):Calls prog 203 #[.agg (oE x),.int .i64 d] w (av w (.bool (decide (x.dev=d)))):=by
 refine enter (vs:=[_,_]) func203 rfl ntmps203 rfl ?_;refine B 2 ?_;refine yX ?_;intro b2 w2 aH aF dS cE cX;refine B 13 ?_;refine ax results203 rfl A1 ?_;rfl
theorem nFg{α β:Type}{f:α->β}{xs:List α}{ys:List β}(hl:xs.length=ys.length)(h:∀i x y,i<xs.length->xs[i]? =some x->ys[i]? =some y->f x=y):xs.map f=ys:=by
 apply List.ext_getElem xZ;intro i h1 h2;simp only[fl]at h1;simpa using h i _ _ h1 (gV h1) (gV h2)
theorem nXg{α β:Type}{f:α->β}{xs:List α}{ys:List β}{x:α}{y:β}(hx:xs[i]? =some x)(hy:ys[i]? =some y)(dc:f x≠y):xs.map f≠ys:=by
 intro e;have h:(xs.map f)[i]? =ys[i]? :=by rw[e]
 rw[ra,hx,hy]at h;simp only[wI,rF]at h;exact dc h
def qB {α β:Type} (f:α->β) (xs:List α) (ys:List β) (j:Nat):Prop:=∀i x y,i<j->xs[i]? =some x->ys[i]? =some y->f x=y
theorem qB.next{α β:Type}{f:α->β}{xs:List α}{ys:List β}{x:α}{y:β}(h:qB f xs ys j)(hx:xs[j]? =some x)(hy:ys[j]? =some y)(e:f x=y):qB f xs ys (j+1):=by
 exact zFk
theorem n5c(xs:List Mb)(cb:xs.length<=1000000)(N:Nat)(a:Option Addr)(cp:Nat)(w:World)(hN:N<=w.heap.size)(aJ:ah oE 3 N w a xs)(ys:List Int)(a2:Option Addr)(I7:Nat)(AE:ah (λx=>(ai x).toArray) 1 N w a2 ys):Calls prog 204 #[.slice a xs.length cp,.slice a2 ys.length I7,.func (.func 203) #[] #[]] w (av w (.bool (decide (xs.map (·.dev)=ys)))):=by
 refine enter (vs:=[_,_,_]) func204 rfl ntmps204 rfl ?_;refine B 15 ?_;refine aK ?_ ?_
 ·intro aj;refine B 7 ?_;refine ax results204 rfl A0 ?_;exact vb zed
 intro aj;refine B 11 ?_;refine CJ.loop (α:=Nat) (λj=>[(1,.slice a2 ys.length I7),(2,.func (.func 203) #[] #[]),(15,.slice a xs.length cp),(16,.int .i64 (xs.length:Int)),(17,.int .i64 (j:Int))]) (λj=>[]) (λj=>[w]) (λj=>Gh.no) (λj=>j<=xs.length/\qB (·.dev) xs ys j) (λj=>xs.length-j) 0 ⟨cZ _,λi x y hi=>absurd hi zM⟩ zR rfl rfl z1 ?_;rintro j ⟨hj,dO⟩;refine B 6 ?_;refine aK ?_ ?_
 ·intro aN;refine B 5 ?_;obtain⟨bo,oo,cs0,to,fp,rfl,ft,hcs,ar⟩:=aJ.get zM;obtain⟨x,hx⟩:=nk xs j zM;refine B 3 ?_;refine zuf ?_;refine aU zeroValue210 rfl rfl ?_;refine yW ?_;intro b8 wt wu;refine B 1 ?_;refine zXh ?_;refine B 3 ?_;obtain⟨bp,op,csp,tp,frp,rfl,YU,AF,uC⟩:=AE.get zM;obtain⟨y,hy⟩:=nk ys j zM;refine B 4 ?_;refine rv rfl rfl rfl (aa (v:=.int .i64 y) isAgg3 rfl A0 AF zX jN (by have:=nS (enc:=λx=>(ai x).toArray) (n:=1) uC hy rfl zQ;simpa[ai]using this)) ?_;refine B 8 ?_;refine nH (f:=203) (cap:=[]) rfl call203 rfl rfl rfl (λW hS=>Ga x y W) ?_;refine B 3 ?_;refine aK ?_ ?_
  ·intro cN;refine B 11 ?_;refine bJ (.inl rfl) results204 (RS.t rfl (RS.n)) A0 zS ?_;exact vb zed
  intro cN;refine wT ?_;refine PJ.again (j+1) ⟨by omega,dO.next hx hy oC⟩ zM zR rfl rfl z1
 intro aN;refine B 11 ?_;refine ax results204 rfl A0 ?_;exact vb zed
variable {g:Gp}
theorem AG:eG g=true↔LG g:=by unfold eG;simp
theorem LH(h:¬LG g):Value.bool false= .bool (eG g):=vb (by
 cases e:eG g with
 |false=>rfl
 |true=>exact absurd (AG.1 e) h)
theorem n3m(h1:AD g.folder/\0<=g.epoch/\g.epoch<=1099511627776/\iE g.ns=0)(h2:¬(g.epoch=0/\(0<g.ms.length\/jl g.last (λ_=>0)=false)))(h3:g.ms.map (·.dev)=dh g.ns):Value.bool (!g.ms.any (O8 g.epoch))= .bool (eG g):=vb (by
 by_cases h:g.ms.any (O8 g.epoch)=false
 ·rw[h,AG.2 ⟨h1,h2,h3,h⟩];rfl
 cases e:eG g with
 |false=>simpa using h
 |true=>exact absurd (AG.1 e).2.2.2 h)
theorem nW(G:Gv)(N:Nat)(w:World)(hN:N<=w.heap.size)(hG:aL N w G):Calls prog 144 #[.agg (aX G)] w (av w (.bool (eG G.g))):=by
 have hn:G.g.ns.length<=100000:=by have:=hG.nn;omega
 have q4:G.g.ms.length<=1000000:=by have:=hG.mn;omega
 have aJ:=hG.ns;refine enter (vs:=[_]) func144 rfl ntmps144 rfl ?_;refine B 2 ?_;refine yX ?_;intro b1 w1 aR aY gA eK iH;refine B 8 ?_;refine call call200 rfl rfl rfl (λW hS=>nrl _ W) ?_;refine B 2 ?_;refine nh (t:=9) rfl (λaj=>?_) (λaj=>?_)
 ·replace aj:=ya aj;refine B 25 ?_;refine ax results144 rfl A1 ?_;exact LH (λh=>aj h.1.1)
 replace aj:=ya aj;refine B 5 ?_;refine nh (t:=14) rfl (λaN=>?_) (λaN=>?_)
 ·replace aN:=ya aN;refine B 20 ?_;refine ax results144 rfl A1 ?_;exact LH (λh=>by have:=h.1.2.1;omega)
 replace aN:=ya aN;refine B 5 ?_;refine nh (t:=19) rfl (λcN=>?_) (λcN=>?_)
 ·replace cN:=ya cN;refine B 15 ?_;refine ax results144 rfl A1 ?_;exact LH (λh=>by have:=h.1.2.2.1;omega)
 replace cN:=ya cN;refine B 1 ?_;refine rr (.agg #[.slice G.na G.g.ns.length G.nc]) (ag isAgg55 sizeOf55 rfl A0 aR aY trivial (aV rfl)) ?_;refine call call201 rfl rfl rfl (λW hS=>nLb G.g.ns hn N G.na G.nc W (aS hN (hS.links w A1).size) (aJ.up (ao _) (hS.same A1 hN zU z7))) ?_;refine B 4 ?_;refine aK ?_ ?_
 ·intro gf;refine B 7 ?_;refine ax results144 rfl A1 ?_;exact LH (λh=>gf h.1.2.2.2)
 intro gf;refine B 9 ?_;refine nh (t:=28) rfl (λgM=>?_) (λgM=>?_)
 ·replace gM:=ya gM;refine B 5 ?_;refine nh (t:=33) rfl (λjE=>?_) (λjE=>?_)
  ·replace jE:=ya jE;refine B 16 ?_;refine ax results144 rfl A1 ?_;exact LH (λh=>h.2.1 ⟨gM,.inl zM⟩)
  replace jE:=ya jE;refine B 1 ?_;refine rv rfl rfl rfl (ag isAgg34 sizeOf34 rfl A0 aR aY trivial (aV rfl)) ?_;refine B 1 ?_;refine rr (.bool (!jl G.g.last (λ_=>0))) (jM ui zQ nQ rfl rfl rfl) ?_;refine B 4 ?_;refine aK ?_ ?_
  ·intro jx;refine B 7 ?_;refine ax results144 rfl A1 ?_;exact LH (λh=>h.2.1 ⟨gM,.inr jx⟩)
  intro jx;refine B 14 ?_;by_cases h1:G.g.ms.map (·.dev)=dh G.g.ns
  ·refine zMe ?_;refine nJ 11 [4] [([],some _),([0],some (.slice G.ma G.g.ms.length G.mc)),([],some _),([2],some (.agg #[.slice G.na G.g.ns.length G.nc])),([3],none),([],some _),([1,4,5],some (.bool true)),([6],some _),([7],some _),([7,8],some _),([7],some _)] (λcv L' H'=>match cv with| []=>L'=[w1,w]/\H'=[]| [v1]=>∃(a7:Option Addr) (c7:Nat) (w7:World),v1= .slice a7 (dh G.g.ns).length c7/\L'=[w7,w1,w]/\H'=[]/\ah (λx=>(ai x).toArray) 1 w7.heap.size w7 a7 (dh G.g.ns)|_=>False) zT ⟨rfl,rfl⟩ zT zT zT zT zT zT (pc Sr (pc I8 (pc Ss (pc I8 (pk (pc zW (pc (λcv L' H' hd hP=>match cv,hd,hP with| [],hd,hP=>(absurd (show false=true from hd) zQ)| [v1],hd,hP=>zkd|_::_::_,_,hP=>hP.elim) (pc zW (pc Sr (pc I8 (pc zW (pn)))))))))))) ?_ ?_
   ·exact zfj
   intro cv L' H' hl hP;obtain⟨v1,rfl⟩:=dd hl;obtain⟨a7,c7,w7,rfl,rfl,rfl,iz⟩:=hP;refine zZf ?_;refine B 6 ?_;refine ax results144 rfl A2 ?_;exact n3m ⟨aj,by omega,by omega,gf⟩ (λh=>h.2.elim (λh=>by omega) (λh=>by rw[jx]at h;cases h)) h1
  exact z9i
 replace gM:=ya gM;refine B 28 ?_;by_cases h1:G.g.ms.map (·.dev)=dh G.g.ns
 ·refine zMe ?_;refine nJ 11 [4] [([],some _),([0],some (.slice G.ma G.g.ms.length G.mc)),([],some _),([2],some (.agg #[.slice G.na G.g.ns.length G.nc])),([3],none),([],some _),([1,4,5],some (.bool true)),([6],some _),([7],some _),([7,8],some _),([7],some _)] (λcv L' H'=>match cv with| []=>L'=[w1,w]/\H'=[]| [v1]=>∃(a7:Option Addr) (c7:Nat) (w7:World),v1= .slice a7 (dh G.g.ns).length c7/\L'=[w7,w1,w]/\H'=[]/\ah (λx=>(ai x).toArray) 1 w7.heap.size w7 a7 (dh G.g.ns)|_=>False) zT ⟨rfl,rfl⟩ zT zT zT zT zT zT (pc Sr (pc I8 (pc Ss (pc I8 (pk (pc zW (pc (λcv L' H' hd hP=>match cv,hd,hP with| [],hd,hP=>(absurd (show false=true from hd) zQ)| [v1],hd,hP=>zkd|_::_::_,_,hP=>hP.elim) (pc zW (pc Sr (pc I8 (pc zW (pn)))))))))))) ?_ ?_
  ·exact zfj
  intro cv L' H' hl hP;obtain⟨v1,rfl⟩:=dd hl;obtain⟨a7,c7,w7,rfl,rfl,rfl,iz⟩:=hP;refine zZf ?_;refine B 6 ?_;refine ax results144 rfl A2 ?_;exact n3m ⟨aj,by omega,by omega,gf⟩ (λh=>gM h.1) h1
 exact z9i
section
variable {C:Cx} {Q:aG} {E E0:Env} {D:List Deferred} {G:Gh} {L:List World} {H:ae}
def Su (C:Cx) (E:Env) (D:List Deferred) (G:Gh) (L:List World) (H:ae):aG:=λe a W=>e= .normal/\a.tmps.size=C.N/\a.defers=D/\Fits E a/\St G L H W
theorem CJ.mid{c:Code}{t:Nat}(h0:Sub E0 E)(h:CJ C c (Su C ((t,v)::E0) D G L H) E D G L H)(k:PJ C Q .normal ((t,v)::E0) D G L H):CJ C c Q E D G L H:=by
 intro a W hN hD hF hS;refine wpIn_mono (h a W hN hD hF hS) ?_;rintro e a' W' ⟨rfl,h1,h2,h3,h4⟩;exact k a' W' h1 h2 h3 h4
theorem PJ.mid{E':Env}(hE:Sub E' E):PJ C (Su C E' D G L H) .normal E D G L H:=λa W hN hD hF hS=>⟨rfl,hN,hD,hE.fits hF,hS⟩
end
def abZ (x:Ch):Prop:=((x.kind=1/\(dG x.pub/\dG x.ver)/\x.cut=0)\/(x.kind=2/\x.pub=0/\x.ver=0/\(0<=x.cut/\x.cut<=1048576))\/(x.kind=3/\(dG x.pub/\dG x.ver)/\(0<=x.cut/\x.cut<=1048576)))/\dM x.dev
def I9 (kv:List (Int×Bool)) (x:Ch):List (Int×Bool):=ck kv x.dev true
def LI (l:List Ch):List (Int×Bool):=l.foldl I9 []
theorem nci{l:List Ch}{x:Ch}(hx:l[j]? =some x):LI (l.take (j+1))=ck (LI (l.take j)) x.dev true:=by rw[nz hx];simp[LI,I9,DP]
def LJ (l:List Ch) (i:Nat) (x:Ch):Prop:=abZ x/\(aE (LI (l.take i)) x.dev).getD false=false
def uD (l:List Ch) (j:Nat):Prop:=∀i x,i<j->l[i]? =some x->LJ l i x
theorem uD.next{l:List Ch}{x:Ch}(h:uD l j)(hx:l[j]? =some x)(hk:LJ l j x):uD l (j+1):=by
 exact zgl
def Sv (l:List Ch):Prop:=uD l l.length/\l.length<=64
open Classical in
noncomputable def jm (l:List Ch):Bool:=decide (Sv l)
theorem Sw{l:List Ch}:jm l=true↔Sv l:=by unfold jm;simp
theorem nsc{l:List Ch}{x:Ch}(hx:l[j]? =some x)(h:¬LJ l j x):Value.bool false= .bool (jm l):=vb (by
 cases e:jm l with
 |false=>rfl
 |true=>exact absurd ((Sw.1 e).1 j x (nE hx) hx) h)
theorem nch{l:List Ch}(h:uD l j)(hj:¬j<l.length):Value.bool (decide ((l.length:Int)<=64))= .bool (jm l):=vb (by
 have h1:uD l l.length:=λi x hi hx=>h i x zM hx;cases e:jm l with
 |false=>exact decide_eq_false (λh2=>absurd (Sw.2 ⟨h1,by omega⟩) (by rw[e];decide))
 |true=>have:=(Sw.1 e).2;exact decide_eq_true zM)
theorem nRc(l:List Ch)(cb:l.length<=1000000)(N:Nat)(a:Option Addr)(cp:Nat)(w:World)(hN:N<=w.heap.size)(aJ:ah eR 5 N w a l):Calls prog 208 #[.slice a l.length cp] w (av w (.bool (jm l))):=by
 refine enter (vs:=[_]) func208 rfl ntmps208 rfl ?_;refine B 7 ?_;refine FK Value.bool rfl rfl ?_;refine yW ?_;intro b9 rE Km;refine B 12 ?_;refine CJ.loop (α:=Mp×Nat) (λp=>[(0,.slice a l.length cp),(3,.map (some b9)),(10,.slice a l.length cp),(11,.int .i64 (l.length:Int)),(12,.int .i64 (p.2:Int))]) (λp=>[(b9,p.1.obj Value.bool (LI (l.take p.2)))]) (λp=>[w]) (λp=>Gh.no) (λp=>p.2<=l.length/\p.1.Ok (LI (l.take p.2))/\uD l p.2) (λp=>l.length-p.2) (⟨[],0⟩,0) ⟨cZ _,Mp.nil,λi x hi=>absurd hi zM⟩ zR rfl rfl z1 ?_;rintro⟨m,j⟩ ⟨hj,hm,dO⟩;dsimp only at hj hm dO ⊢;refine B 6 ?_;refine aK ?_ ?_
 ·intro aj;refine B 5 ?_;obtain⟨bo,oo,cs0,to,fp,rfl,ft,hcs,ar⟩:=aJ.get zM;obtain⟨x,hx⟩:=nk l j zM;obtain⟨e1,rV⟩:∃e,(if dG x.pub then(0:Int)else 40)=e:=⟨_,rfl⟩;obtain⟨e2,zH⟩:∃e,(if dG x.ver then(0:Int)else 40)=e:=⟨_,rfl⟩;have LK:=Sq x.pub;rw[rV]at LK;have LL:=Sq x.ver;rw[zH]at LL;refine B 2 ?_;refine rq (.agg (eR x)) (ag isAgg233 sizeOf233 rfl A0 hcs zX xX (ni ar hx rfl)) (va (np ar hx rfl)) ?_;refine LM ?_;refine yW ?_;intro b5 gQ gR;refine LN ?_;refine B 3 ?_;refine CJ.mid (t:=6) (v:=.bool (decide (e1=0/\e2=0))) (E0:=[(0,_),(3,_),(5,_),(10,_),(11,_),(12,_),(13,_),(14,_),(15,_)]) zR ?_ ?_
  ·refine B 3 ?_;refine call call63 rfl rfl rfl (λW hS=>by rw[<-rV];exact nL _ W) (v:=.int .i64 e1) ?_;refine B 2 ?_;refine nh (t:=20) rfl (λaN=>?_) (λaN=>?_)
   ·replace aN:=ya aN;refine B 2 ?_;refine call call63 rfl rfl rfl (λW hS=>by rw[<-zH];exact nL _ W) (v:=.int .i64 e2) ?_;refine B 4 ?_;exact z2k
   replace aN:=ya aN;refine B 7 ?_;exact z2k
  refine B 2 ?_;refine CJ.mid (t:=7) (v:=.bool (decide (0<=x.cut/\x.cut<=1048576))) (E0:=[(0,_),(3,_),(5,_),(6,_),(10,_),(11,_),(12,_),(13,_),(14,_),(15,_)]) zR ?_ ?_
  ·refine B 5 ?_;refine nh (t:=29) rfl (λcN=>?_) (λcN=>?_)
   ·exact zpk
   exact zpk
  refine B 13 ?_;refine CJ.mid (t:=8) (v:=.bool (decide ((x.kind=1/\(e1=0/\e2=0)/\x.cut=0)\/(x.kind=2/\x.pub=0/\x.ver=0/\(0<=x.cut/\x.cut<=1048576))\/(x.kind=3/\(e1=0/\e2=0)/\(0<=x.cut/\x.cut<=1048576))))) (E0:=[(0,_),(3,_),(5,_),(6,_),(7,_),(10,_),(11,_),(12,_),(13,_),(14,_),(15,_),(34,_),(35,_)]) zR ?_ ?_
  ·refine B 7 ?_;refine aK ?_ ?_
   ·intro gf;refine B 3 ?_;refine nh (t:=39) rfl (λgM=>?_) (λgM=>?_)
    ·replace gM:=ya gM;refine B 7 ?_;exact Sx
    replace gM:=ya gM;refine B 7 ?_;exact Sx
   intro gf;refine B 6 ?_;refine aK ?_ ?_
   ·intro jE;refine B 5 ?_;refine nh (t:=49) rfl (λjx=>?_) (λjx=>?_)
    ·replace jx:=ya jx;refine B 5 ?_;refine nh (t:=54) rfl (λtJ=>?_) (λtJ=>?_)
     ·replace tJ:=ya tJ;exact Xb
     replace tJ:=ya tJ;exact Xb
    replace jx:=ya jx;refine B 10 ?_;exact Sx
   intro jE;refine B 6 ?_;refine aK ?_ ?_
   ·intro qX;refine B 3 ?_;refine nh (t:=60) rfl (λp8=>?_) (λp8=>?_)
    ·replace p8:=ya p8;exact Xb
    replace p8:=ya p8;exact Xb
   intro qX;refine B 2 ?_;exact Sx
  refine B 7 ?_;refine nh (t:=65) rfl (λqa=>?_) (λqa=>?_)
  ·replace qa:=ya qa;refine B 26 ?_;exact Xc
  replace qa:=ya qa;refine B 2 ?_;refine call call207 rfl rfl rfl (λW hS=>W6 _ W) ?_;refine B 3 ?_;refine nh (t:=71) rfl (λkQ=>?_) (λkQ=>?_)
  ·replace kQ:=ya kQ;refine B 20 ?_;exact Xc
  replace kQ:=ya kQ;refine B 3 ?_;refine rq (.bool ((aE (LI (l.take j)) x.dev).getD false)) (qw (ev:=Value.bool) underlying351 underlying3 zeroValue4 hm (bL.own (i:=1) rfl) rfl rfl) (nEj _) ?_;refine B 3 ?_;refine aK ?_ ?_
  ·intro kR;refine B 12 ?_;exact Xc
  intro kR;refine B 6 ?_;refine IU (i:=1) (ev:=Value.bool) (v:=true) rfl hm underlying351 underlying3 rfl rfl rfl rfl ?_;intro m3 ay;refine wT ?_;refine PJ.again (m3,j+1) ⟨by dsimp only;omega,by rw[nci hx];exact ay,dO.next hx ⟨⟨by rw[<-LK,<-LL];assumption,by assumption⟩,by assumption⟩⟩ dL zR (by rw[nci hx];rfl) rfl z1
 intro aj;refine B 14 ?_;exact Xc
theorem AH{U:Nat}{y:Operand}{a b:Bool}(hU:C.P.underlying T=some .bool)(hx:ev E x=some (.bool a))(hy:ev E y=some (.bool b)):RV C G L H E (.binOp .neq T x y U) (.bool (a != b)):=λd ty pos aD g ac W hF _=>by
 have h1:(Op.equalIn (9999+1) T (.bool a) (.bool b)).run C.P W= .ok (a==b) W:=by
  generalize 9999=n;exact Q9
 have h2:(binOp .neq T (.bool a) (.bool b)).run C.P W= .ok (.bool (a != b)) W:=by
  have e:binOp .neq T (.bool a) (.bool b)=(do pure (.bool (!(<-Op.equalIn (9999+1) T (.bool a) (.bool b))))):=rfl;rw[e,Sem.run_bind,h1];rfl
 have h3:(eqGuard .neq T x y (.bool a) (.bool b)).run C.P W= .ok () W:=by simp[eqGuard]
 simp only[execOp,hF.ev hx,hF.ev hy,Sem.run_bind,h3,h2,Result.andThen];rfl
def Gb (g:Gp) (own:Bool) (au:Int) (x:Ch):Bool:=(hQ g.ms x.dev==decide (x.kind=1))||(own&&decide (x.dev=au))
def o5 (g:Gp) (au:Int) (l:List Ch):Bool:= !((hQ g.ms au != decide (0<g.epoch))||(decide (g.epoch=0)&&(decide (l.length=0)|| !decide ((l[0]?.map (·.dev))=some au))))&& !(l.any (Gb g (hQ g.ms au) au))
theorem nNd(G:Gv)(N:Nat)(w:World)(hN:N<=w.heap.size)(hG:aL N w G)(d:Int):Calls prog 217 #[.agg (aX G),.int .i64 d] w (av w (.tuple #[.int .i64 (lW G.g.ms d:Int),.bool (hQ G.g.ms d)])):=by
 refine enter (vs:=[_,_]) func217 rfl ntmps217 rfl ?_;refine B 2 ?_;refine yX ?_;intro b2 w2 aH aF dS cE cX;refine B 9 ?_;refine call call259 rfl rfl rfl (λW hS=>nep G.g.ms (by have:=hG.mn;omega) N G.ma G.mc W (aS hN (hS.links w A1).size) (hG.ms.up (ao _) (hS.same A1 hN zU zP)) d) ?_;refine B 7 ?_;refine nT results217 rfl rfl A1 ?_ ?_;all_goals rfl
theorem nLi(G:Gv)(N:Nat)(w:World)(hN:N<=w.heap.size)(hG:aL N w G)(b1 b2 b3:Nat)(own:Bool)(au:Int)(aR:w.heap[b1]? =some (.cells (aX G) 57 (0,0)))(aH:w.heap[b2]? =some (.cells #[.bool own] 4 (0,0)))(aC:w.heap[b3]? =some (.cells #[.int .i64 au] 3 (0,0)))(x:Ch):Calls prog 254 #[.agg (eR x),ptr b1 0,ptr b2 0,ptr b3 0] w (av w (.bool (Gb G.g own au x))):=by
 have aY:¬Gh.no.X b1:=λh=>h;have aF:¬Gh.no.X b2:=λh=>h;have ay:¬Gh.no.X b3:=λh=>h;refine enter (vs:=[_,_,_,_]) func254 rfl ntmps254 rfl ?_;refine B 2 ?_;refine yX ?_;intro b4 w4 dm eb mI dQ dV;refine B 5 ?_;refine rr (.agg (aX G)) (ag isAgg57 sizeOf57 rfl A1 aR aY trivial (aV rfl)) ?_;refine B 2 ?_;refine call call217 rfl rfl rfl (λW hS=>nNd G N W (aS hN (hS.links w A1).size) (hG.up (ao _) (hS.same A1 hN zU zP)) x.dev) ?_;refine B 13 ?_;refine rv rfl rfl rfl (LO underlying4 rfl rfl) ?_;refine B 1 ?_;refine nh (t:=20) rfl (λaj=>?_) (λaj=>?_)
 ·replace aj:=ya aj;refine B 12 ?_;exact zsk
 replace aj:=ya aj;refine B 2 ?_;refine nh (t:=22) rfl (λaN=>?_) (λaN=>?_)
 ·replace aN:=ya aN;refine B 10 ?_;exact zsk
 replace aN:=ya aN;refine B 10 ?_;exact zsk
theorem nLe(G:Gv)(N:Nat)(w:World)(hN:N<=w.heap.size)(hG:aL N w G)(l:List Ch)(cb:l.length<=1000000)(a:Option Addr)(cp:Nat)(aJ:ah eR 5 N w a l)(au:Int):Calls prog 210 #[.agg (aX G),.int .i64 au,.slice a l.length cp] w (av w (.bool (o5 G.g au l))):=by
 refine enter (vs:=[_,_,_]) func210 rfl ntmps210 rfl ?_;refine B 2 ?_;refine yX ?_;intro b3 w3 aC ay cS bV cL;refine yX ?_;intro b4 w4 dm eb mI dQ dV;refine B 5 ?_;refine rr (.agg (aX G)) (af isAgg57 sizeOf57 rfl A1 aC ay trivial rfl) ?_;refine B 1 ?_;refine call call217 rfl rfl rfl (λW hS=>nNd G N W (aS hN (hS.links w A2).size) (hG.up (ao _) (hS.same A2 hN zU zP)) au) ?_;refine B 3 ?_;refine aU zeroValue4 rfl rfl ?_;refine yW ?_;intro b8 wt wu;refine B 1 ?_;refine OR ?_;refine B 4 ?_;by_cases h1:hQ G.g.ms au≠decide (0<G.g.epoch)
 ·refine Xd ?_;refine nl 19 [.det [] _,.det [] _,.det [1] _,.det [2] _,.det [0,3] _,.det [4] _,.det [5] undef,.det [5,6] undef,.det [5,7] undef,.det [5,8] undef,.det [9] undef,.det [9,10] undef,.det [9,11] undef,.det [9,12] undef,.det [13] undef,.det [13,14] undef,.det [13,15] undef,.det [13,16] undef,.det [13] undef] zT (xc Xe (xc yj (xc LP (xc Xf (xc (by exact λab=>X.val rfl rfl (RV.re (v':=.bool true) (AH underlying4 rfl rfl) (vb AI)) (λ_ _=>rfl)) (xc zO (xc zN (xc zN (xc zN (xc zN (xc zN (xc zN (xc zN (xc zN (xc zN (xc zN (xc zN (xc zN (xc zN (xn)))))))))))))))))))) zT zT zT (λab=>?_);refine B 14 ?_;exact Sy
 by_cases h2:¬G.g.epoch=0
 ·refine Xd ?_;refine nl 19 [.det [] _,.det [] _,.det [1] _,.det [2] _,.det [0,3] _,.det [4] _,.det [5] _,.det [5,6] _,.det [5,7] _,.det [5,8] _,.det [9] undef,.det [9,10] undef,.det [9,11] undef,.det [9,12] undef,.det [13] undef,.det [13,14] undef,.det [13,15] undef,.det [13,16] undef,.det [13] undef] zT (xc Xe (xc yj (xc LP (xc Xf (xc zwd (xc zO (xc yj (xc LP (xc zUd (xc zO (xc zN (xc zN (xc zN (xc zN (xc zN (xc zN (xc zN (xc zN (xc zN (xn)))))))))))))))))))) zT zT zT (λab=>?_);refine B 19 ?_;refine z3e ?_;refine B 5 ?_;exact Sy
 by_cases h3:l.length=0
 ·refine Xd ?_;refine nl 19 [.det [] _,.det [] _,.det [1] _,.det [2] _,.det [0,3] _,.det [4] _,.det [5] _,.det [5,6] _,.det [5,7] _,.det [5,8] _,.det [9] _,.det [9,10] _,.det [9,11] _,.det [9,12] _,.det [13] undef,.det [13,14] undef,.det [13,15] undef,.det [13,16] undef,.det [13] undef] zT (xc Xe (xc yj (xc LP (xc Xf (xc zwd (xc zO (xc yj (xc LP (xc zvd (xc zO (xc zO (xc (by exact λab=>X.val rfl rfl (iK underlying95 rfl) (λ_ _=>rfl)) (xc zvd (xc zO (xc zN (xc zN (xc zN (xc zN (xc zN (xn)))))))))))))))))))) zT zT zT (λab=>?_);refine B 14 ?_;exact Sy
 obtain⟨bo,oo,cs0,to,fp,rfl,ft,hcs,ar⟩:=aJ.get zM;obtain⟨x,hx⟩:=nk l 0 zM;refine Xd ?_;refine nl 19 [.det [] _,.det [] _,.det [1] _,.det [2] _,.det [0,3] _,.det [4] _,.det [5] _,.det [5,6] _,.det [5,7] _,.det [5,8] _,.det [9] _,.det [9,10] _,.det [9,11] _,.det [9,12] _,.det [13] _,.det [13,14] _,.det [13,15] _,.det [13,16] _,.det [13] _] zT (xc Xe (xc yj (xc LP (xc Xf (xc zwd (xc zO (xc yj (xc LP (xc zvd (xc zO (xc zO (xc (by exact λab=>X.val rfl rfl (iK underlying95 rfl) (λ_ _=>rfl)) (xc zUd (xc zO (xc zO (xc (by exact λab=>X.val rfl rfl (cx underlying95 sizeOf233 rfl rfl zM zM) (λ_ _=>rfl)) (xc (by exact λab=>X.val rfl rfl (ak underlying233 rfl sizeOf3 rfl) (λ_ _=>rfl)) (xc (by exact λab=>X.val rfl rfl (aa (v:=.int .i64 x.dev) isAgg3 rfl A2 hcs zX jN (by have:=vE ar hx (i:=0) rfl 1 zQ;simpa[eR]using this)) (λ_ _=>rfl)) (xc (by exact λab=>X.val rfl rfl (aa isAgg3 rfl A0 dm eb zL rfl) (λ_ _=>rfl)) (xn)))))))))))))))))))) zT zT zT (λab=>?_);refine B 6 ?_;refine aK ?_ ?_
 ·intro aj;refine B 7 ?_;exact Sy
 intro aj;refine B 12 ?_;refine z3e ?_;refine B 5 ?_;exact Sy
noncomputable def lX (ns:List Nd) (d:Int):List Nd:=if iE ns=0/\(aE (cY ns) (512+d)).isSome=true then oD (lT (cY ns) d)else[]
noncomputable def so (ns:List Nd) (d:Int):Int:=if iE ns=0 then(if(aE (cY ns) (512+d)).isSome=true then 0 else 200)else 210
open Classical in
noncomputable def lY (ns:List Nd) (d p:Int):List Nd:=if iE ns=0/\dG p then oD (ck (lT (cY ns) d) (512+d) p)else[]
open Classical in
noncomputable def sq (ns:List Nd) (d p:Int):Int:=if iE ns=0 then(if dG p then 0 else 50)else 210
theorem AJ(ns:List Nd)(d:Int):(lX ns d).length<=ns.length:=by
 unfold lX;split
 ·rw[nSg];exact aS (Sg _ _) (O4 _)
 simp
theorem AK(ns:List Nd)(d p:Int):(lY ns d p).length<=ns.length+1:=by
 unfold lY;split
 ·rw[nSg];exact aS (O3 _ _ _) (Nat.succ_le_succ (aS (Sg _ _) (O4 _)))
 simp
theorem nFj(ns:List Nd)(hn:ns.length<=100000)(N:Nat)(a:Option Addr)(cp:Nat)(w:World)(hN:N<=w.heap.size)(aJ:ah gh 2 N w a ns)(d:Int)(hd:dM d):Calls prog 221 #[.agg #[.slice a ns.length cp],.int .i64 d] w (nC w fH 2 355 (lX ns d) (λs=>.tuple #[.agg #[s],.int .i64 (so ns d)])):=by
 rcases WO ns with h|h
 ·by_cases h2:(aE (cY ns) (512+d)).isSome=true
  ·have e1:lX ns d=oD (lT (cY ns) d):=by unfold lX;rw[if_pos ⟨h,h2⟩]
   have e2:so ns d=0:=by unfold so;rw[if_pos h,if_pos h2]
   rw[e1,e2];exact nYo ns hn N a cp w hN aJ h d hd h2
  have e1:lX ns d=[]:=by unfold lX;rw[if_neg λg=>h2 g.2]
  have e2:so ns d=200:=by unfold so;rw[if_pos h,if_neg h2]
  rw[e1,e2];exact nGo ns hn N a cp w hN aJ h d hd Ja
 have e1:lX ns d=[]:=by unfold lX;rw[if_neg λg=>by have:=g.1;omega]
 have e2:so ns d=210:=by unfold so;rw[if_neg zM]
 rw[e1,e2];exact nXn ns hn N a cp w hN aJ h d
theorem ntm(ns:List Nd)(hn:ns.length<=100000)(N:Nat)(a:Option Addr)(cp:Nat)(w:World)(hN:N<=w.heap.size)(aJ:ah gh 2 N w a ns)(d p:Int)(hd:dM d)(u9:ns.length<100000):Calls prog 222 #[.agg #[.slice a ns.length cp],.int .i64 d,.int .i64 p] w (nC w fH 2 355 (lY ns d p) (λs=>.tuple #[.agg #[s],.int .i64 (sq ns d p)])):=by
 rcases WO ns with h|h
 ·by_cases h2:dG p
  ·have e1:lY ns d p=oD (ck (lT (cY ns) d) (512+d) p):=by unfold lY;rw[if_pos ⟨h,h2⟩]
   have e2:sq ns d p=0:=by unfold sq;rw[if_pos h,if_pos h2]
   rw[e1,e2];exact Lt ns hn N a cp w hN aJ h d p hd u9 (if_pos h2)
  have e1:lY ns d p=[]:=by unfold lY;rw[if_neg λg=>h2 g.2]
  have e2:sq ns d p=50:=by unfold sq;rw[if_pos h,if_neg h2]
  rw[e1,e2];exact FV ns hn N a cp w hN aJ h d p hd (if_neg h2)
 have e1:lY ns d p=[]:=by unfold lY;rw[if_neg λg=>by have:=g.1;omega]
 have e2:sq ns d p=210:=by unfold sq;rw[if_neg zM]
 rw[e1,e2];exact FU ns hn N a cp w hN aJ h d p
noncomputable def uE (ns:List Nd) (x:Ch):List Nd:=if x.kind=2 then lX ns x.dev else lY ns x.dev x.pub
noncomputable def di (ns:List Nd) (l:List Ch):List Nd:=l.foldl uE ns
theorem nOj{l:List Ch}{x:Ch}(hx:l[j]? =some x):di ns (l.take (j+1))=uE (di ns (l.take j)) x:=by rw[nz hx];simp[di,DP]
theorem nel{l:List Ch}{x:Ch}(hx:l[j]? =some x)(h:x.kind=2):di ns (l.take (j+1))=lX (di ns (l.take j)) x.dev:=by rw[nOj hx];unfold uE;rw[if_pos h]
theorem n2k{l:List Ch}{x:Ch}(hx:l[j]? =some x)(h:¬x.kind=2):di ns (l.take (j+1))=lY (di ns (l.take j)) x.dev x.pub:=by rw[nOj hx];unfold uE;rw[if_neg h]
theorem Xg(l:List Ch):∀ns:List Nd,(di ns l).length<=ns.length+l.length:=by
 induction l with
 |nil=>intro ns;simp[di]
 |cons x l ih=>
  intro ns;have h1:=ih (uE ns x);have h2:(uE ns x).length<=ns.length+1:=by
   unfold uE;split
   ·have:=AJ ns x.dev;omega
   exact AK _ _ _
  simp only[di,List.foldl_cons,dW]at *;omega
theorem nSo(ns:List Nd)(l:List Ch)(j:Nat)(hj:j<=l.length):(di ns (l.take j)).length<=ns.length+l.length:=by
 have:=Xg (l.take j) ns;rw[kj]at this;omega
theorem AL(ns:List Nd)(l:List Ch)(j:Nat)(h:¬j<l.length):di ns (l.take j)=di ns l:=by rw[iZ zM]
theorem ah.to{α:Type}{enc:α->Array Value}{n:Nat}{w:World}{xs:List α}(h:ah enc n N w a xs)(hS:St Gh.no L H W)(hw:w∈L)(hN:N<=w.heap.size)(ho:∀b off,a=some ⟨b,off,none⟩->xs=[]\/bE H b):ah enc n W.heap.size W a xs:=by
 by_cases h0:xs=[]
 ·exact .inl h0
 exact h.blk λb off e hb=>⟨by have:=(hS.links w hw).size;omega,(hS.links w hw).block b zM (λhx=>hx.elim id ((ho b off e).resolve_left h0).mem)⟩
abbrev Sz {α:Type} (N:Nat) (w:World) (enc:α->Array Value) (n:Nat) (xs:List α) (v:Value->Value):Ending->World->Prop:=cu w (λq:Option Addr×Nat=>v (.slice q.1 xs.length q.2)) (λq w'=>ah enc n w'.heap.size w' q.1 xs/\∀b off,q.1=some ⟨b,off,none⟩->xs=[]\/b<N\/w.heap.size<=b)
theorem ah.lt{α:Type}{enc:α->Array Value}{n:Nat}{w:World}{xs:List α}(h:ah enc n N w a xs){off:Nat}(e:a=some ⟨b,off,none⟩):xs=[]\/b<N:=by
 rcases h with h|⟨b',off',cs,t,fr,h1,h2,_⟩
 ·exact .inl h
 rw[h1]at e;cases e;exact .inr h2
theorem nvd(G:Gv)(N:Nat)(w:World)(hN:N<=w.heap.size)(hG:aL N w G)(l:List Ch)(cb:l.length<=1000000)(a:Option Addr)(cp:Nat)(aJ:ah eR 5 N w a l)(ua:l.length<=64)(O9:∀x∈l,dM x.dev):Calls prog 155 #[.agg (aX G),.slice a l.length cp] w (Sz N w gh 2 (di G.g.ns l) (λs=>.agg #[s])):=by
 have OM:=hG.nn;refine enter (vs:=[_,_]) func155 rfl ntmps155 rfl ?_;refine B 2 ?_;refine yX ?_;intro b2 w2 aH aF dS cE cX;refine wW ?_;refine yW ?_;intro b4 dQ dV;refine B 5 ?_;refine rr (.agg #[.slice G.na G.g.ns.length G.nc]) (ag isAgg55 sizeOf55 rfl A0 aH aF zL (aV rfl)) ?_;refine wW ?_;refine yW ?_;intro b5 gQ gR;refine R9 ?_;refine B 11 ?_;refine CJ.loop (α:=(Option Addr×Nat)×World×Nat) (λp=>[(4,ptr b4 0),(5,ptr b5 0),(10,.slice a l.length cp),(11,.int .i64 (l.length:Int)),(12,.int .i64 (p.2.2:Int))]) (λp=>[(b5,.cells #[.slice p.1.1 (di G.g.ns (l.take p.2.2)).length p.1.2] 55 (0,0)),(b4,.cells #[.slice none 0 0] 55 (0,0))]) (λp=>[p.2.1,w]) (λp=>Gh.no) (λp=>p.2.2<=l.length/\w.heap.size<=p.2.1.heap.size/\ah gh 2 p.2.1.heap.size p.2.1 p.1.1 (di G.g.ns (l.take p.2.2))/\∀b off,p.1.1=some ⟨b,off,none⟩->di G.g.ns (l.take p.2.2)=[]\/(b≠b5/\b≠b4/\(b<N\/w.heap.size<=b))) (λp=>l.length-p.2.2) ((G.na,G.nc),w,0) ⟨cZ _,ao _,hG.ns.up hN R2,λb off e=>by rcases hG.ns.lt e with h|h;(exact .inl h);exact .inr zM⟩ zR rfl rfl z1 ?_;rintro⟨⟨ta,tc⟩,wk,j⟩ ⟨hj,hwk,bY,dO⟩;dsimp only at hj hwk bY dO ⊢;refine B 6 ?_;refine aK ?_ ?_
 ·intro aj;refine B 5 ?_;obtain⟨bo,oo,cs0,to,fp,rfl,ft,hcs,ar⟩:=aJ.get zM;obtain⟨x,hx⟩:=nk l j zM;have hd:=O9 x (cC hx);have lE:=nSo G.g.ns l j zM;refine B 2 ?_;refine rq (.agg (eR x)) (ag isAgg233 sizeOf233 rfl A1 hcs zX jN (ni ar hx rfl)) (va (np ar hx rfl)) ?_;refine LM ?_;refine yW ?_;intro b7 gg ow;refine LN ?_;refine B 9 ?_;refine aK ?_ ?_
  ·intro aN;refine B 4 ?_;refine OJ.dropAt (i:=0) rfl zZ ?_;refine vx (enc:=fH) (m:=2) (t:=355) (xs:=lX (di G.g.ns (l.take j)) x.dev) (v:=λs=>.tuple #[.agg #[s],.int .i64 (so (di G.g.ns (l.take j)) x.dev)]) (first:=[]) (cap:=[]) rfl call221 rfl rfl rfl RW (λW hS=>nFj (di G.g.ns (l.take j)) zM W.heap.size ta tc W (ao _) (bY.to hS A0 (ao _) (λb off e=>by rcases dO b off e with h9|h9;(exact .inl h9);rcases bY.lt e with h8|h8;(exact .inl h8);refine .inr ?_;simp only[bE,dz,fj,qo,and_true];omega)) x.dev hd) ?_;intro W9 a9 cp9 wk9 lF vF lf AM;have hU9:=lF.under;simp only[n0,dz,fj,qo,and_true]at hU9;have mz:=vF.size;have Zb:=(lF.links w A1).size;refine B 3 ?_;refine R9 ?_;refine B 7 ?_;refine PJ.again ((a9,cp9),wk9,j+1) ⟨by dsimp only;omega,by dsimp only;omega,by dsimp only;rw[nel hx gO];exact lf,λb off e=>by have:=AM _ e;dsimp only at this;exact .inr zM⟩ dL zR (by rw[nel hx gO];rfl) rfl z1
  intro aN;refine B 6 ?_;refine OJ.dropAt (i:=0) rfl zZ ?_;refine vx (enc:=fH) (m:=2) (t:=355) (xs:=lY (di G.g.ns (l.take j)) x.dev x.pub) (v:=λs=>.tuple #[.agg #[s],.int .i64 (sq (di G.g.ns (l.take j)) x.dev x.pub)]) (first:=[]) (cap:=[]) rfl call222 rfl rfl rfl RW (λW hS=>ntm (di G.g.ns (l.take j)) zM W.heap.size ta tc W (ao _) (bY.to hS A0 (ao _) (λb off e=>by rcases dO b off e with h9|h9;(exact .inl h9);rcases bY.lt e with h8|h8;(exact .inl h8);refine .inr ?_;simp only[bE,dz,fj,qo,and_true];omega)) x.dev x.pub hd zM) ?_;intro W9 a9 cp9 wk9 lF vF lf AM;have hU9:=lF.under;simp only[n0,dz,fj,qo,and_true]at hU9;have mz:=vF.size;have Zb:=(lF.links w A1).size;refine B 3 ?_;refine R9 ?_;refine B 7 ?_;refine PJ.again ((a9,cp9),wk9,j+1) ⟨by dsimp only;omega,by dsimp only;omega,by dsimp only;rw[n2k hx gO];exact lf,λb off e=>by have:=AM _ e;dsimp only at this;exact .inr zM⟩ dL zR (by rw[n2k hx gO];rfl) rfl z1
 intro aj;refine B 6 ?_;rw[AL _ _ _ zM]at bY dO ⊢;refine B 2 ?_;refine aZ (i:=1) rfl sizeOf55 rfl rfl rfl rfl rfl rfl ?_;refine B 3 ?_;exact bH (.inl rfl) results155 (RS.wA (i:=1) rfl isAgg55 sizeOf55 rfl (aV rfl) RS.n) λW hS=>⟨(ta,tc),rfl,hS.base A1 zP,bY.to hS A0 (ao _) (λb off e=>by rcases dO b off e with h9|h9;(exact .inl h9);exact .inr jN),λb off e=>(dO b off e).imp id (λh=>h.2.2)⟩
noncomputable def mA (ns:List Nd) (au:Int) (i:Nat):List (Int×Int):=(List.range i).flatMap λ(t:Nat)=>(lU ns (((iM au)[t]?).getD 0)).map λn=>((t:Int)+1,n)
noncomputable def jQ (ns:List Nd) (au:Int):List (Int×Int):=mA ns au 9
theorem nDl(ns:List Nd)(au:Int){s:Int}(hs:(iM au)[i]? =some s):mA ns au (i+1)=mA ns au i++(lU ns s).map λn=>((i:Int)+1,n):=by simp[mA,List.range_succ,hs]
theorem nKk(ns:List Nd)(au:Int)(i:Nat):∀k,mA ns au i <+:mA ns au (i+k)
 |0=>List.prefix_refl _
 |k+1=>(nKk ns au i k).trans (by
  have:mA ns au (i+(k+1))=mA ns au (i+k)++(lU ns (((iM au)[i+k]?).getD 0)).map λn=>(((i+k:Nat):Int)+1,n):=by rw[<-Nat.add_assoc];simp[mA,List.range_succ]
  rw[this];exact List.prefix_append _ _)
theorem Gc{s:Int}(hs:(iM au)[i]? =some s)(hi:i<9){p:List (Int×Int)}(h:p <+:(lU ns s).map λn=>((i:Int)+1,n)):mA ns au i++p <+:jQ ns au:=by
 have h1:mA ns au i++p <+:mA ns au (i+1):=by rw[nDl ns au hs];exact(List.prefix_append_right_inj _).2 h
 refine h1.trans ?_;have h2:=nKk ns au (i+1) (8-i);rw[show i+1+(8-i)=9 by omega]at h2;exact h2
theorem nWm(ns:List Nd)(au:Int):∀i,(mA ns au i).length<=1024*i
 |0=>by simp[mA]
 |i+1=>by
  have h1:=nWm ns au i;have h2:=nZj ns (((iM au)[i]?).getD 0);have:mA ns au (i+1)=mA ns au i++(lU ns (((iM au)[i]?).getD 0)).map λn=>((i:Int)+1,n):=by simp[mA,List.range_succ]
  rw[this,cF,fl];omega
theorem AN(ns:List Nd)(au:Int):(jQ ns au).length<=9216:=nWm ns au 9
noncomputable def DV (ns:List Nd) (i:Nat) (s:Int) (j:Nat):List (Int×Int):=((lU ns s).take j).map λn=>((i:Int)+1,n)
theorem AO(ns:List Nd)(i:Nat)(s:Int):DV ns i s 0=[]:=rfl
theorem nul{s:Int}{n:Int}(h:(lU ns s)[j]? =some n):DV ns i s (j+1)=DV ns i s j++[((i:Int)+1,n)]:=by unfold DV;rw[nz h];simp
theorem Gd(ns:List Nd)(i:Nat)(s:Int)(h:¬j<(lU ns s).length):DV ns i s j=(lU ns s).map λn=>((i:Int)+1,n):=by unfold DV;rw[iZ zM]
theorem Ge(ns:List Nd)(i:Nat)(s:Int)(j:Nat):DV ns i s j <+:(lU ns s).map λn=>((i:Int)+1,n):=(List.take_prefix _ _).map _
def AP (p:Int×Int):List Value:=[.int .i64 p.1,.int .i64 p.2]
def SA (b1 b2:Nat) (ns:List Nd) (ta:Option Addr):aB:=λk=>k=b1\/k=b2\/(ns≠ []/\∃off,ta=some ⟨k,off,none⟩)
theorem ah.toG{α:Type}{enc:α->Array Value}{n:Nat}{w:World}{xs:List α}(h:ah enc n N w a xs)(hS:St G L H W)(hw:w∈L)(hN:N<=w.heap.size)(ho:∀b off,a=some ⟨b,off,none⟩->xs=[]\/(b<N->¬G.X b/\bE H b)):ah enc n W.heap.size W a xs:=by
 by_cases h0:xs=[]
 ·exact .inl h0
 exact h.blk λb off e hb=>⟨by have:=(hS.links w hw).size;omega,(hS.links w hw).block b zM (λhx=>hx.elim ((ho b off e).resolve_left h0 hb).1 ((ho b off e).resolve_left h0 hb).2.mem)⟩
theorem nqm(ns:List Nd)(hn:ns.length<=100000)(au:Int)(pF:dM au)(b1 b2:Nat)(NT:Nat)(ta:Option Addr)(tc:Nat)(W:World)(hNW:NT<=W.heap.size)(bY:ah gh 2 NT W ta ns)(aR:W.heap[b1]? =some (.cells #[.int .i64 au] 3 (0,0)))(aH:W.heap[b2]? =some (.cells #[.slice ta ns.length tc] 55 (0,0))):vm prog 255 [ptr b1 0,ptr b2 0] AP (xW (jQ ns au)) (Is (jQ ns au)) (λ_=>False) (SA b1 b2 ns ta) W:=by
 intro l M I X0 hM hI hX hy h0;have aY:¬(cj hM (λ_=>False) (hI [] _)).X b1:=by rintro(h|h);exact(hM _ h).2.2 (.inl rfl);exact h.elim
 have aF:¬(cj hM (λ_=>False) (hI [] _)).X b2:=by rintro(h|h);exact(hM _ h).2.2 (.inr (.inl rfl));exact h.elim
 have mr:=(aM.1 aR).1;have xb:=(aM.1 aH).1;have lG:=nvo pF;refine nN (cj hM (λ_=>False) (hI [] _)) [] (vs:=[_,_,_]) func255 rfl ntmps255 rfl (IP hM (hI [] _) h0 z1 I0 z1) ?_;refine B 3 ?_;refine vx (enc:=ai) (m:=1) (t:=3) (xs:=iM au) (v:=λs=>.tuple #[s,.int .i64 0]) (first:=[]) (cap:=[]) rfl call256 rfl rfl rfl nr (λW hS=>n5k au pF W) ?_;intro Wq aq cpq wq Pa SB kx SC;have SD:=Pa.sizes;replace SD:=yb SD;have hzq:=SB.size;have SE:=Pa.under;replace SE:=yg SE;refine B 15 ?_;refine CJ.loop (α:=Nat×aB) (λp=>[(0,yv l),(1,ptr b1 0),(2,ptr b2 0),(17,.slice aq (iM au).length cpq),(18,.int .i64 ((iM au).length:Int)),(19,.int .i64 (p.1:Int))]) (λp=>[]) (λp=>[wq,W]) (λp=>cj hM p.2 (hI (mA ns au p.1) p.2)) (λp=>p.1<=9/\∀k,p.2 k->wq.heap.size<=k) (λp=>9-p.1) (0,λ_=>False) ⟨cZ _,λ_ h=>h.elim⟩ zR rfl rfl z1 ?_;rintro⟨i,V⟩ ⟨hi,hV⟩;dsimp only at hi hV ⊢;have ahh:W.heap.size<=wq.heap.size:=by omega
 clear aY aF;have aY:¬(cj hM V (hI (mA ns au i) V)).X b1:=by rintro(h|h);(exact(hM _ h).2.2 (.inl rfl));(have:=hV _ h;omega)
 have aF:¬(cj hM V (hI (mA ns au i) V)).X b2:=by rintro(h|h);(exact(hM _ h).2.2 (.inr (.inl rfl)));(have:=hV _ h;omega)
 refine B 6 ?_;refine aK ?_ ?_
 ·intro aj;refine B 5 ?_;obtain⟨bq,oq,WQ,tq,WR,rfl,WS,sd,se⟩:=kx.get zM;obtain⟨sb,OG⟩:=nk (iM au) i zM;have ab9:=SC _ rfl;dsimp only at ab9;refine B 3 ?_;refine rv rfl rfl rfl (aa (v:=.int .i64 sb) isAgg3 rfl A0 sd (λhx=>by rcases hx with hx|hx;(have:=(hM _ hx).1;omega);(have:=hV _ hx;omega)) trivial (by have:=nS (enc:=λx=>(ai x).toArray) (n:=1) se OG rfl zQ;simpa[ai]using this)) ?_;refine B 6 ?_;refine rr (.agg #[.slice ta ns.length tc]) (ag isAgg55 sizeOf55 rfl A1 aH aF trivial (aV rfl)) ?_;refine B 1 ?_;refine vx (enc:=ai) (m:=1) (t:=3) (xs:=lU ns sb) (v:=λs=>.tuple #[s,.int .i64 (I3 ns sb)]) (first:=[]) (cap:=[]) rfl call257 rfl rfl rfl nr (λW2 hS=>nHg ns hn W2.heap.size ta tc W2 (ao _) (bY.toG hS A1 hNW (λb off e=>by by_cases h0:ns=[];(exact .inl h0);exact .inr (λhb=>⟨λhx=>by rcases hx with hx|hx;(exact(hM _ hx).2.2 (.inr (.inr ⟨h0,off,e⟩)));(have:=hV _ hx;omega),trivial⟩))) sb) ?_;intro Wr a8 IY wr o6 LQ qz wZ;have lE:=nZj ns sb;have mB:=LQ.size;have ahi:=(o6.links wq A0).size;have hVr:∀j,V j->j<Wr.heap.size:=λj hj=>o6.xlt j (.inr hj);refine B 15 ?_;refine CJ.loop (α:=Nat×aB) (λp=>[(0,yv l),(1,ptr b1 0),(2,ptr b2 0),(6,.int .i64 (i:Int)),(17,.slice (some ⟨bq,oq,none⟩) (iM au).length cpq),(18,.int .i64 ((iM au).length:Int)),(19,.int .i64 (i:Int)),(30,.slice a8 (lU ns sb).length IY),(31,.int .i64 ((lU ns sb).length:Int)),(32,.int .i64 (p.1:Int))]) (λp=>[]) (λp=>[wr,wq,W]) (λp=>cj hM p.2 (hI (mA ns au i++DV ns i sb p.1) p.2)) (λp=>p.1<=(lU ns sb).length/\∀k,p.2 k->V k\/wr.heap.size<=k) (λp=>(lU ns sb).length-p.1) (0,V) ⟨cZ _,λ_ h=>.inl h⟩ zR rfl (by rw[AO,dE]) z1 ?_
  rintro⟨j,V1⟩ ⟨hj,rW⟩;dsimp only at hj rW ⊢;have SF:∀k,V1 k->W.heap.size<=k:=λk hk=>by rcases rW k hk with h|h;(have:=hV k h;omega);omega
  refine B 6 ?_;refine aK ?_ ?_
  ·intro aN;refine B 5 ?_;obtain⟨bn,on,csn,tn,Iz,rfl,kG,aca,acb⟩:=qz.get zM;obtain⟨n,u9⟩:=nk (lU ns sb) j zM;have acd:=wZ _ rfl;dsimp only at acd;refine B 2 ?_;refine rv rfl rfl rfl (aa (v:=.int .i64 n) isAgg3 rfl A0 aca (λhx=>by rcases hx with hx|hx;(have:=(hM _ hx).1;omega);(rcases rW _ hx with h|h;(have:=hVr _ h;omega);omega)) trivial (by have:=nS (enc:=λx=>(ai x).toArray) (n:=1) acb u9 rfl zQ;simpa[ai]using this)) ?_;refine B 9 ?_;refine LB (λ_=>False) id LR (V:=V1) (λV=>hI ((mA ns au i++DV ns i sb j)++[((i:Int)+1,n)]) V) hX SF rfl rfl rfl rfl (λW1 SG kI=>hy (mA ns au i++DV ns i sb j) ((i:Int)+1,n) V1 W1 (by rw[i7,<-nul u9];exact Gc OG zM (Ge ns i sb (j+1))) SG kI) ?_ ?_
   ·intro V2 vD qA;have LS:=qA wr A0;refine B 11 ?_;refine PJ.again (j+1,V2) ⟨by dsimp only;omega,λk hk=>by rcases LS k hk with h|h;(exact rW k h);exact .inr h⟩ dL zR rfl (by rw[nul u9,<-i7];rfl) z1
   intro V2 vD qA;have LS:=qA wr A0;refine B 13 ?_;exact FB (.inl rfl) results255 A2 (λk hk=>by rcases LS k hk with h|h;(exact SF k h);omega) (by intro k hk hx;simp at hx) (λA hA=>.inr hA)
  intro aN;refine B 10 ?_;refine PJ.again (i+1,V1) ⟨by dsimp only;omega,λk hk=>by rcases rW k hk with h|h;(exact hV k h);omega⟩ dL zR rfl (by rw[nDl ns au OG,Gd ns i sb zM]) z1
 intro aj;refine B 4 ?_;exact FB (.inr rfl) results255 A1 (λk hk=>by have:=hV k hk;omega) (by intro k hk hx;simp at hx) (λA hA=>.inl ⟨mA ns au i,by unfold jQ;rw[show i=9 by omega],hA⟩)
def su (p:Int×Int):List Value:=[.int .i64 p.2,.int .i64 p.1,.int .i64 0,.slice none 0 0]
def LU (p:Int×Int):Array Value:=#[.int .i64 p.2,.int .i64 p.1,.int .i64 0,.slice none 0 0]
theorem Xh(p:Int×Int):(su p).length=4:=rfl
theorem Gf(p:Int×Int):∀u∈su p,u.oneCell'=true:=by intro u hu;simp[su]at hu;rcases hu with rfl|rfl|rfl|rfl<;>rfl
theorem Gg:prog.info? 164=some Tryz.t164:=by kernel_rfl
theorem SH:lQ prog 96 164 4:=⟨underlying96,Tryz.t164,.agg #[.int .i64 0,.int .i64 0,.int .i64 0,.slice none 0 0],Gg,rfl,rfl,rfl,by decide⟩
noncomputable def AQ (g:Gp) (au:Int) (l:List Ch):Bool:=jm l&&o5 g au l
noncomputable def gI (g:Gp) (au:Int) (l:List Ch):List (Int×Int):=if eG g=true/\AQ g au l=true then jQ (di g.ns l) au else[]
noncomputable def gr (g:Gp) (au:Int) (l:List Ch):Int:=if eG g=true then(if AQ g au l=true then 0 else 221)else 1
theorem n8l{l:List Ch}(h:jm l=true):(∀x∈l,dM x.dev)/\l.length<=64:=⟨λx hx=>by obtain⟨i,hi⟩:=jL.1 hx;exact((Sw.1 h).1 i x (nE hi) hi).1.2,(Sw.1 h).2⟩
theorem nhj(ta:Option Addr)(n tc:Nat)(au:Int)(w:World):Calls prog 211 #[.agg #[.slice ta n tc],.int .i64 au] w (cu w (λq:Nat×Nat=>.func (.func 255) #[] #[ptr q.1 0,ptr q.2 0]) (λq w1=>w.heap.size<=q.1/\w.heap.size<=q.2/\w1.heap[q.1]? =some (.cells #[.int .i64 au] 3 (0,0))/\w1.heap[q.2]? =some (.cells #[.slice ta n tc] 55 (0,0)))):=by
 refine enter (vs:=[_,_]) func211 rfl ntmps211 rfl ?_;refine B 2 ?_;refine yX ?_;intro b2 w2 aH aF dS cE cX;refine yX ?_;intro b3 w3 aC ay cS bV cL;refine B 10 ?_;refine jG (b3,b2) results211 rfl A2 rfl ?_;exact λW hS=>⟨by have:=bV.2.1;omega,by have:=cE.1;omega,hS.old A0 aC ay trivial,hS.old A1 aH aF trivial⟩
theorem n7n(G:Gv)(N:Nat)(w:World)(hN:N<=w.heap.size)(hG:aL N w G)(l:List Ch)(cb:l.length<=1000000)(a:Option Addr)(cp:Nat)(aJ:ah eR 5 N w a l)(au:Int)(hv:eG G.g=false):Calls prog 146 #[.agg (aX G),.int .i64 au,.slice a l.length cp] w (nC w su 4 164 [] (λs=>.tuple #[s,.int .i64 1])):=by
 refine zei ?_;refine B 2 ?_;refine yX ?_;intro b3 w3 aC ay cS bV cL;refine aU zeroValue96 rfl rfl ?_;refine yW ?_;intro b6 gS lB;refine B 6 ?_;refine LV ?_;refine call call144 rfl rfl rfl (λW hS=>by rw[<-hv];exact nW G N W (aS hN (hS.links w A1).size) (hG.up (ao _) (hS.same A1 hN zU zP))) (v:=.bool false) ?_;refine Xi ?_;refine B 5 ?_;exact zwj
theorem nHm(G:Gv)(N:Nat)(w:World)(hN:N<=w.heap.size)(hG:aL N w G)(l:List Ch)(cb:l.length<=1000000)(a:Option Addr)(cp:Nat)(aJ:ah eR 5 N w a l)(au:Int)(hv:eG G.g=true)(hf:jm l=false):Calls prog 146 #[.agg (aX G),.int .i64 au,.slice a l.length cp] w (nC w su 4 164 [] (λs=>.tuple #[s,.int .i64 221])):=by
 refine zei ?_;refine B 2 ?_;refine yX ?_;intro b3 w3 aC ay cS bV cL;refine aU zeroValue96 rfl rfl ?_;refine yW ?_;intro b6 gS lB;refine B 6 ?_;refine LV ?_;refine zYf ?_;refine SI ?_;refine B 9 ?_;refine zpg ?_;refine rq (.bool true) (dI rfl) (by rw[hf];rfl) ?_;refine B 12 ?_;exact zwj
theorem nzm(G:Gv)(N:Nat)(w:World)(hN:N<=w.heap.size)(hG:aL N w G)(l:List Ch)(cb:l.length<=1000000)(a:Option Addr)(cp:Nat)(aJ:ah eR 5 N w a l)(au:Int)(hv:eG G.g=true)(hf:jm l=true)(hp:o5 G.g au l=false):Calls prog 146 #[.agg (aX G),.int .i64 au,.slice a l.length cp] w (nC w su 4 164 [] (λs=>.tuple #[s,.int .i64 221])):=by
 refine zei ?_;refine B 2 ?_;refine yX ?_;intro b3 w3 aC ay cS bV cL;refine aU zeroValue96 rfl rfl ?_;refine yW ?_;intro b6 gS lB;refine B 6 ?_;refine zqi ?_;refine B 1 ?_;refine LV ?_;refine B 2 ?_;refine zTg ?_;refine rq (.bool true) (dI rfl) (by rw[hp];rfl) ?_;refine B 6 ?_;exact zwj
theorem ngp(G:Gv)(N:Nat)(w:World)(hN:N<=w.heap.size)(hG:aL N w G)(l:List Ch)(cb:l.length<=1000000)(a:Option Addr)(cp:Nat)(aJ:ah eR 5 N w a l)(au:Int)(pF:dM au)(hv:eG G.g=true)(hf:jm l=true)(hp:o5 G.g au l=true):Calls prog 146 #[.agg (aX G),.int .i64 au,.slice a l.length cp] w (nC w su 4 164 (jQ (di G.g.ns l) au) (λs=>.tuple #[s,.int .i64 0])):=by
 obtain⟨O9,ua⟩:=n8l hf;have OM:=hG.nn;have lE:=Xg l G.g.ns;obtain⟨T,hT⟩:∃T,di G.g.ns l=T:=⟨_,rfl⟩;rw[hT]at lE ⊢;have LW:=AN T au;refine xK Gh.no [] (vs:=[_,_,_]) func146 rfl ntmps146 rfl (u7 w) ?_;refine B 2 ?_;refine yX ?_;intro b3 w3 aC ay cS bV cL;refine aU zeroValue96 rfl rfl ?_;refine yW ?_;intro b6 gS lB;refine B 6 ?_;refine zqi ?_;refine B 1 ?_;refine LV ?_;refine B 2 ?_;refine zTg ?_;refine rq (.bool false) (dI rfl) (by rw[hp];rfl) ?_;refine B 9 ?_;refine LV ?_;refine B 1 ?_;refine nu (α:=Option Addr×Nat) (v:=λq=>.agg #[.slice q.1 T.length q.2]) (Φ:=λW q w1=>ah gh 2 w1.heap.size w1 q.1 T/\∀b off,q.1=some ⟨b,off,none⟩->T=[]\/b<N\/W.heap.size<=b) call155 rfl rfl rfl (λW hS=>by rw[<-hT];exact nvd G N W (aS hN (hS.links w A1).size) (hG.up (ao _) (hS.same A1 hN zU zP)) l cb a cp (aJ.up (ao _) (hS.same A1 hN zU zP)) ua O9) ?_;rintro Wr ⟨ta,tc⟩ wr o6 LQ ⟨oF,fJ⟩;dsimp only at oF fJ ⊢;have hUr:=o6.under;replace hUr:=yg hUr;have mB:=LQ.size;have ahj:=(o6.links w A1).size;refine B 1 ?_;refine nu (α:=Nat×Nat) (v:=λq:Nat×Nat=>.func (.func 255) #[] #[ptr q.1 0,ptr q.2 0]) (Φ:=λW q w1=>W.heap.size<=q.1/\W.heap.size<=q.2/\w1.heap[q.1]? =some (.cells #[.int .i64 au] 3 (0,0))/\w1.heap[q.2]? =some (.cells #[.slice ta T.length tc] 55 (0,0))) call211 rfl rfl rfl (λW hS=>nhj ta _ tc au W) ?_
 rintro Wn q wn jc o7 ⟨eN,eQ,du,fu⟩;try dsimp only at eN eQ du fu
 have sf:=(aM.1 du).1;have sh:=(aM.1 fu).1;have DW:=o7.size;have ahk:=(jc.links wr A0).size;have pL:=jc.under;replace pL:=yg pL;have hOt:∀b off,ta=some ⟨b,off,none⟩->T=[]\/b≠b6:=λb off e=>by rcases fJ b off e with h|h|h;(exact .inl h);(exact .inr zM);(exact .inr zM)
 refine B 3 ?_;refine CJ.range2 (f:=255) (cap:=[ptr q.1 0,ptr q.2 0]) (α:=Int×Int) (enc:=AP) (Pre:=xW (jQ T au)) (Fin:=Is (jQ T au)) (RO:=SA q.1 q.2 T ta) (MI:=λ_=>False) rfl call255 (λW' W2 hS hB=>by have mr:=(hS.links wn A0).size;have xb:=(hS.links wr A1).size;exact nqm T zM au pF q.1 q.2 W'.heap.size ta tc W2 hB.size ((oF.toG hS A1 (ao _) (λb off e=>(hOt b off e).imp id (λh _=>⟨λhx=>hx,by simp only[bE,and_true];omega⟩))).up (ao _) (λk hk=>hB.block k hk)) SJ SK) (λ_ _ _ hk=>hk.elim) (λW' hS k hk=>by have mr:=(hS.links wn A0).size;have xb:=(hS.links wr A1).size;simp only[eE,iD,cP,fG,or_false];rcases hk with rfl|rfl|⟨h0,off,e⟩;(exact⟨by omega,by omega,λh=>h⟩);(exact⟨by omega,by omega,λh=>h⟩);exact⟨by have:=(oF.lt e).resolve_left h0;omega,(hOt _ off e).resolve_left h0,λh=>h⟩) (λ_=>rfl) (λpre G' Hc=>G'=Gh.no/\∃r:Rw,r.Fr Gh.no [wn,wr,w3,w]/\r.Fit 4 pre/\Hc=[(b6,.cells #[r.val pre.length] 96 (0,0))]++(r.hp su 164 pre++[])) (λ_ _ _=>False) ⟨rfl,.nil,True.intro,rfl,rfl⟩ zQ ?_ ?_ ?_
 ·rintro pre x G' Hc l Dk rec W1 M V Wy jX ov dU ⟨rfl,r,bG,al,rfl⟩ dr fK Dh oL bj th;simp only[ad]at dr oL;have cM:r.ge wn.heap.size:=Rw.ge_of bG A0;have hpl:=dU.length_le;simp only[cF,dW,lC]at hpl;have RQ:∀p∈r.hp su 164 pre,M p.1\/V p.1:=λp hp=>bj.loc.h p RR;refine B 8 ?_;refine Pb jX ?_;refine B 5 ?_;refine rr (.agg #[.int .i64 x.2,.int .i64 x.1,.int .i64 0,.slice none 0 0]) (bS underlying164 zeroValue164 (bC.c sizeOf3 (bC.c sizeOf3 (bC.c sizeOf162 (bC.n)))) rfl rfl) ?_;refine k9 underlying96 sizeOf164 zeroValue164 rfl rfl rfl rfl rfl rfl rfl ?_;refine yW ?_;intro b34 ahl ahm;refine oY (r:=r) (xs:=pre) (zs:=[x]) (enc:=su) (m:=4) (H0:=[(b34,.cells #[.int .i64 x.2,.int .i64 x.1,.int .i64 0,.slice none 0 0] 164 (0,0)),(b6,.cells #[r.val pre.length] 96 (0,0))]) (H1:=(l,.loop {rec with state:=.busy})::bQ Dk) wQ SH Xh rfl rfl rfl rfl (dt.one (z:=x) Xh Gf underlying96 (bL.own (i:=0) rfl)) al (Rw.Fr_ext RQ) z1 DO ?_;intro b35 LX LY Gj LZ;replace Gj:=yb Gj;refine aZ (i:=1) rfl sizeOf96 rfl rfl rfl rfl rfl rfl ?_;refine B 2 ?_;refine mx ?_;refine DM (G2:=Gh.no) (Hc2:=[(b6,.cells #[(Rw.row b35 LX LY).val (pre++[x]).length] 96 (0,0))]++((Rw.row b35 LX LY).hp su 164 (pre++[x])++[])) bj fK ⟨λ_ h=>h,λ_ h=>.inl h,λ_ h=>.inl h,(WJ rfl (Gj.imp id (λh=>h.1))),zle⟩ (DN jX ov) ?_
  exact⟨rfl,.row b35 LX LY,Gj.elim (λh=>Rw.Fr_at bG h) (λh=>.inr h.2),LZ,rfl⟩
 ·rintro im l Dk rec G' Hc rfl dr fK ⟨rfl,r,bG,al,rfl⟩;replace dr:=yb dr;have cM:r.ge wn.heap.size:=Rw.ge_of bG A0;refine O1 λWd pB=>?_;have kG:=Lc pB;refine B 5 ?_;refine aZ (i:=0) rfl sizeOf96 rfl rfl rfl (Rw.val_size _ _) rfl (Rw.val_one _ _) ?_;refine B 4 ?_;have hq:=λ(k:Nat)=>Rw.mem_ge (enc:=su) (t:=164) (xs:=jQ T au) (k:=k) cM;refine PJ.reH (H':=(b6,.cells #[r.val (jQ T au).length] 96 (0,0))::(r.hp su 164 (jQ T au)++(l,.loop rec)::bQ Dk)) (by simp[book,Rw.val_cells]) ?_;refine zV (b:=b6) (r:=r) (xs:=jQ T au) (.inl rfl) results146 isAgg96 rfl rfl z1 A0 (kG _ A0).1 rfl al (λp hp=>⟨.tail _ (cO.2 (.inl hp)),(kG p (cO.2 (.inr (cO.2 (.inl hp))))).1⟩) (Rw.ge_of bG A3) (λW H' hS bO=>(hS.links w A3).below λk hk hx=>?_);exact zMj
 exact RT
theorem nRb(G:Gv)(N:Nat)(w:World)(hN:N<=w.heap.size)(hG:aL N w G)(l:List Ch)(cb:l.length<=1000000)(a:Option Addr)(cp:Nat)(aJ:ah eR 5 N w a l)(au:Int)(pF:dM au):Calls prog 146 #[.agg (aX G),.int .i64 au,.slice a l.length cp] w (nC w su 4 164 (gI G.g au l) (λs=>.tuple #[s,.int .i64 (gr G.g au l)])):=by
 cases hv:eG G.g with
 |false=>rw[show gI G.g au l=[] by simp[gI,hv],show gr G.g au l=1 by simp[gr,hv]];exact n7n G N w hN hG l cb a cp aJ au hv
 |true=>cases hf:jm l with
  |false=>rw[show gI G.g au l=[] by simp[gI,AQ,hf],show gr G.g au l=221 by simp[gr,AQ,hv,hf]];exact nHm G N w hN hG l cb a cp aJ au hv hf
  |true=>cases hp:o5 G.g au l with
   |false=>rw[show gI G.g au l=[] by simp[gI,AQ,hp],show gr G.g au l=221 by simp[gr,AQ,hv,hp]];exact nzm G N w hN hG l cb a cp aJ au hv hf hp
   |true=>rw[show gI G.g au l=jQ (di G.g.ns l) au by simp[gI,AQ,hv,hf,hp],show gr G.g au l=0 by simp[gr,AQ,hv,hf,hp]];exact ngp G N w hN hG l cb a cp aJ au pF hv hf hp
structure AR where
 u:Int
 ba:Option Addr
 bc:Nat
 body:List UInt8
def wrA (x:AR):Array Value:=#[.int .i64 x.u,.slice x.ba x.body.length x.bc]
structure Bx where
 node:Int
 level:Int
 w:AR
def tk (x:Bx):Array Value:=#[.int .i64 x.node,.int .i64 x.level,.int .i64 x.w.u,.slice x.w.ba x.w.body.length x.w.bc]
structure We where
 dev:Int
 w:AR
def sw (x:We):Array Value:=#[.int .i64 x.dev,.int .i64 x.w.u,.slice x.w.ba x.w.body.length x.w.bc]
structure Cm where
 folder:Int
 epoch:Int
 par:Nat->Int
 author:Int
 chs:List Ch
 ca:Option Addr
 cc:Nat
 path:List Int
 pa:Option Addr
 pc:Nat
 bxs:List Bx
 ba:Option Addr
 bc:Nat
 wes:List We
 wa:Option Addr
 wc:Nat
 conf:Nat->Int
 sr:Int
 ss:Int
def dY (c:Cm):Array Value:=#[.int .i64 c.folder,.int .i64 c.epoch,.int .u8 (c.par 0),.int .u8 (c.par 1),.int .u8 (c.par 2),.int .u8 (c.par 3),.int .u8 (c.par 4),.int .u8 (c.par 5),.int .u8 (c.par 6),.int .u8 (c.par 7),.int .u8 (c.par 8),.int .u8 (c.par 9),.int .u8 (c.par 10),.int .u8 (c.par 11),.int .u8 (c.par 12),.int .u8 (c.par 13),.int .u8 (c.par 14),.int .u8 (c.par 15),.int .u8 (c.par 16),.int .u8 (c.par 17),.int .u8 (c.par 18),.int .u8 (c.par 19),.int .u8 (c.par 20),.int .u8 (c.par 21),.int .u8 (c.par 22),.int .u8 (c.par 23),.int .u8 (c.par 24),.int .u8 (c.par 25),.int .u8 (c.par 26),.int .u8 (c.par 27),.int .u8 (c.par 28),.int .u8 (c.par 29),.int .u8 (c.par 30),.int .u8 (c.par 31),.int .i64 c.author,.slice c.ca c.chs.length c.cc,.slice c.pa c.path.length c.pc,.slice c.ba c.bxs.length c.bc,.slice c.wa c.wes.length c.wc,.int .u8 (c.conf 0),.int .u8 (c.conf 1),.int .u8 (c.conf 2),.int .u8 (c.conf 3),.int .u8 (c.conf 4),.int .u8 (c.conf 5),.int .u8 (c.conf 6),.int .u8 (c.conf 7),.int .u8 (c.conf 8),.int .u8 (c.conf 9),.int .u8 (c.conf 10),.int .u8 (c.conf 11),.int .u8 (c.conf 12),.int .u8 (c.conf 13),.int .u8 (c.conf 14),.int .u8 (c.conf 15),.int .u8 (c.conf 16),.int .u8 (c.conf 17),.int .u8 (c.conf 18),.int .u8 (c.conf 19),.int .u8 (c.conf 20),.int .u8 (c.conf 21),.int .u8 (c.conf 22),.int .u8 (c.conf 23),.int .u8 (c.conf 24),.int .u8 (c.conf 25),.int .u8 (c.conf 26),.int .u8 (c.conf 27),.int .u8 (c.conf 28),.int .u8 (c.conf 29),.int .u8 (c.conf 30),.int .u8 (c.conf 31),.int .i64 c.sr,.int .i64 c.ss]
def qC (N:Nat) (w:World) (x:AR):Prop:=x.body=[]\/∃b off,x.ba=some ⟨b,off,none⟩/\b<N/\cG w b off x.body
theorem qC.up{w:World}{x:AR}(h:qC N w x)(hN:N<=N')(hw:∀k,k<N->w'.heap[k]? =w.heap[k]?):qC N' w' x:=by
 exact z4k
structure dJ (N:Nat) (w:World) (c:Cm):Prop where
 chs:ah eR 5 N w c.ca c.chs
 path:ah encI 1 N w c.pa c.path
 bxs:ah tk 4 N w c.ba c.bxs
 wes:ah sw 3 N w c.wa c.wes
 bb:∀x∈c.bxs,qC N w x.w
 wb:∀x∈c.wes,qC N w x.w
structure pM (c:Cm):Prop where
 bp:jh c.par
 bf:jh c.conf
 chs:c.chs.length<=10
 path:c.path.length<=12
 bxs:c.bxs.length<=40
 wes:c.wes.length<=10
 bb:∀x∈c.bxs,x.w.body.length<=200
 wb:∀x∈c.wes,x.w.body.length<=200
theorem dJ.up{w:World}{c:Cm}(h:dJ N w c)(hN:N<=N')(hw:∀k,k<N->w'.heap[k]? =w.heap[k]?):dJ N' w' c:=⟨h.chs.up hN hw,h.path.up hN hw,h.bxs.up hN hw,h.wes.up hN hw,λx hx=>(h.bb x hx).up hN hw,λx hx=>(h.wb x hx).up hN hw⟩
def xg (x:AR):Prop:=dG x.u/\16<=x.body.length/\x.body.length<=65552
open Classical in
noncomputable def Jb (x:AR):Int:=if xg x then 0 else 90
theorem ny{x:AR}:Jb x=0↔xg x:=by unfold Jb;split<;>simp_all
theorem SL{x:AR}(h:¬xg x):Value.int .i64 90= .int .i64 (Jb x):=by unfold Jb;rw[if_neg h]
theorem npi{x:AR}(h:xg x):Value.int .i64 0= .int .i64 (Jb x):=by unfold Jb;rw[if_pos h]
def lH {α:Type} (p:Nat->α->Prop) (xs:List α) (j:Nat):Prop:=∀i x,i<j->xs[i]? =some x->p i x
theorem lH.next{α:Type}{p:Nat->α->Prop}{xs:List α}{x:α}(h:lH p xs j)(hx:xs[j]? =some x)(hp:p j x):lH p xs (j+1):=by
 exact zfl
theorem lH.all{α:Type}{p:Nat->α->Prop}{xs:List α}(h:lH p xs j)(hj:¬j<xs.length):∀i x,xs[i]? =some x->p i x:=λi x hx=>h i x (by have:=nE hx;omega) hx
def SM (x:Bx):Prop:=(1<=x.node/\x.node<1024/\1<=x.level/\x.level<=9)/\xg x.w
def SN (l:List We) (i:Nat) (x:We):Prop:=dM x.dev/\(∀y,0<i->l[i-1]? =some y->y.dev<x.dev)/\xg x.w
structure Xj (c:Cm):Prop where
 fo:AD c.folder
 e1:1<=c.epoch
 e2:c.epoch<=1099511627776
 au:dM c.author
 ch:jm c.chs=true
 pl:c.path.length=10
 bl:c.bxs.length<=1024
 wl:c.wes.length<=512
 path:∀(i:Nat) x,c.path[i]? =some x->dG x
 box:∀(i:Nat) x,c.bxs[i]? =some x->SM x
 wel:∀i x,c.wes[i]? =some x->SN c.wes i x
open Classical in
noncomputable def qD (c:Cm):Int:=if Xj c then 0 else 220
theorem L0{c:Cm}:qD c=0↔Xj c:=by unfold qD;split<;>simp_all
theorem Gk(c:Cm):qD c=0\/qD c=220:=by unfold qD;split<;>simp
theorem nb{c:Cm}(h:¬Xj c):Value.int .i64 220= .int .i64 (qD c):=by unfold qD;rw[if_neg h]
theorem nnb{c:Cm}(h:Xj c):Value.int .i64 0= .int .i64 (qD c):=by unfold qD;rw[if_pos h]
theorem ncg(x:AR)(w:World):Calls prog 209 #[.agg (wrA x)] w (av w (.int .i64 (Jb x))):=by
 obtain⟨e,he⟩:∃e,(if dG x.u then(0:Int)else 40)=e:=⟨_,rfl⟩;have DU:=Sq x.u;rw[he]at DU;refine enter (vs:=[_]) func209 rfl ntmps209 rfl ?_;refine B 2 ?_;refine yX ?_;intro b1 w1 aR aY gA eK iH;refine B 16 ?_;refine WD ?_;refine B 2 ?_;refine nh (t:=11) rfl (λaj=>?_) (λaj=>?_)
 ·replace aj:=ya aj;refine B 17 ?_;exact Xk
 replace aj:=ya aj;refine B 4 ?_;refine nh (t:=15) rfl (λaN=>?_) (λaN=>?_)
 ·replace aN:=ya aN;refine B 13 ?_;exact Xk
 replace aN:=ya aN;refine B 5 ?_;refine aK ?_ ?_
 ·intro cN;refine B 7 ?_;exact Xk
 intro cN;refine B 8 ?_;exact Xk
theorem ntb(c:Cm)(pN:pM c)(N:Nat)(w:World)(hN:N<=w.heap.size)(hC:dJ N w c):Calls prog 145 #[.agg (dY c)] w (av w (.int .i64 (qD c))):=by
 have ue:=pN.chs;have wB:=pN.path;have Kx:=pN.bxs;have Pc:=pN.wes;have SO:=hC.chs;have qy:=hC.path;have L1:=hC.bxs;have L2:=hC.wes;refine enter (vs:=[_]) func145 rfl ntmps145 rfl ?_;refine B 2 ?_;refine yX ?_;intro b1 w1 aR aY gA eK iH;refine B 8 ?_;refine call call200 rfl rfl rfl (λW hS=>nrl _ W) ?_;refine B 2 ?_;refine nh (t:=13) rfl (λaj=>?_) (λaj=>?_)
 ·replace aj:=ya aj;refine B 49 ?_;exact DX
 replace aj:=ya aj;refine B 5 ?_;refine nh (t:=18) rfl (λaN=>?_) (λaN=>?_)
 ·replace aN:=ya aN;refine B 44 ?_;exact DX
 replace aN:=ya aN;refine B 5 ?_;refine nh (t:=23) rfl (λcN=>?_) (λcN=>?_)
 ·replace cN:=ya cN;refine B 39 ?_;exact DX
 replace cN:=ya cN;refine B 2 ?_;refine call call207 rfl rfl rfl (λW hS=>W6 _ W) ?_;refine B 3 ?_;refine nh (t:=29) rfl (λgf=>?_) (λgf=>?_)
 ·replace gf:=ya gf;refine B 33 ?_;exact DX
 replace gf:=ya gf;refine B 2 ?_;refine call call208 rfl rfl rfl (λW hS=>nRc c.chs zM N c.ca c.cc W (aS hN (hS.links w A1).size) (hC.chs.up (ao _) (hS.same A1 hN zU zP))) ?_;refine B 3 ?_;refine nh (t:=35) rfl (λgM=>?_) (λgM=>?_)
 ·replace gM:=ya gM;refine B 27 ?_;exact DX
 replace gM:=ya gM;refine B 6 ?_;refine nh (t:=41) rfl (λjE=>?_) (λjE=>?_)
 ·replace jE:=ya jE;refine B 21 ?_;exact DX
 replace jE:=ya jE;refine B 6 ?_;refine nh (t:=47) rfl (λjx=>?_) (λjx=>?_)
 ·replace jx:=ya jx;refine B 15 ?_;exact DX
 replace jx:=ya jx;refine B 7 ?_;refine aK ?_ ?_
 ·intro tJ;refine B 7 ?_;exact DX
 intro tJ;refine B 12 ?_;refine CJ.loop (α:=Nat) (λj=>[(1,ptr b1 0),(54,.slice c.pa c.path.length c.pc),(55,.int .i64 (c.path.length:Int)),(56,.int .i64 (j:Int))]) (λj=>[]) (λj=>[w1,w]) (λj=>Gh.no) (λj=>j<=c.path.length/\lH (λ_ x=>dG x) c.path j) (λj=>c.path.length-j) 0 ⟨cZ _,λi x hi=>absurd hi zM⟩ zR rfl rfl z1 ?_;rintro j ⟨hj,dO⟩;refine B 6 ?_;refine aK ?_ ?_
 ·intro qX;refine B 5 ?_;obtain⟨bo,oo,cs0,to,fp,jC,ft,hcs,ar⟩:=qy.get zM;obtain⟨y,hy⟩:=nk c.path j zM;rw[jC];obtain⟨e,he⟩:∃e,(if dG y then(0:Int)else 40)=e:=⟨_,rfl⟩;have DU:=Sq y;rw[he]at DU;refine B 2 ?_;refine rv rfl rfl rfl (aa (v:=.int .i64 y) isAgg3 rfl A1 hcs zX trivial (by have:=nS ar hy rfl zQ;simpa[encI]using this)) ?_;refine B 6 ?_;refine WD ?_;refine B 3 ?_;refine aK ?_ ?_
  ·intro p8;refine B 11 ?_;exact DX
  intro p8;refine B 7 ?_;refine PJ.again (j+1) ⟨by omega,dO.next hy (DU.1 zM)⟩ zM zR rfl rfl z1
 intro qX;refine B 15 ?_;have hA1:=dO.all zM;refine CJ.loop (α:=Nat) (λj=>[(1,ptr b1 0),(65,.slice c.ba c.bxs.length c.bc),(66,.int .i64 (c.bxs.length:Int)),(67,.int .i64 (j:Int))]) (λj=>[]) (λj=>[w1,w]) (λj=>Gh.no) (λj=>j<=c.bxs.length/\lH (λ_ x=>SM x) c.bxs j) (λj=>c.bxs.length-j) 0 ⟨cZ _,λi x hi=>absurd hi zM⟩ zR rfl rfl z1 ?_;rintro j ⟨hj,dO⟩;refine B 6 ?_;refine aK ?_ ?_
 ·intro qa;refine B 5 ?_;obtain⟨bo,oo,cs0,to,fp,jC,ft,hcs,ar⟩:=L1.get zM;obtain⟨x,hx⟩:=nk c.bxs j zM;rw[jC];refine B 2 ?_;refine rq (.agg (tk x)) (ag isAgg164 sizeOf164 rfl A1 hcs zX trivial (ni ar hx rfl)) (va (np ar hx rfl)) ?_;refine aU zeroValue164 rfl rfl ?_;refine yW ?_;intro b6 gS lB;refine Xl ?_;refine B 8 ?_;refine nh (t:=74) rfl (λkQ=>?_) (λkQ=>?_)
  ·replace kQ:=ya kQ;refine B 34 ?_;exact L3
  replace kQ:=ya kQ;refine B 5 ?_;refine nh (t:=79) rfl (λkR=>?_) (λkR=>?_)
  ·replace kR:=ya kR;refine B 29 ?_;exact L3
  replace kR:=ya kR;refine B 5 ?_;refine nh (t:=84) rfl (λtK=>?_) (λtK=>?_)
  ·replace tK:=ya tK;refine B 24 ?_;exact L3
  replace tK:=ya tK;refine B 5 ?_;refine nh (t:=89) rfl (λtL=>?_) (λtL=>?_)
  ·replace tL:=ya tL;refine B 19 ?_;exact L3
  replace tL:=ya tL;refine B 1 ?_;refine zAg ?_;refine call call209 rfl rfl rfl (λW hS=>ncg x.w W) ?_;refine B 4 ?_;refine aK ?_ ?_
  ·intro yC;exact zxl
  intro yC;refine wT ?_;refine PJ.again (j+1) ⟨by omega,dO.next hx ⟨by omega,ny.1 zM⟩⟩ zM zR rfl rfl z1
 intro qa;refine B 15 ?_;have hA2:=dO.all zM;refine CJ.loop (α:=Nat) (λj=>[(1,ptr b1 0),(97,.slice c.wa c.wes.length c.wc),(98,.int .i64 (c.wes.length:Int)),(99,.int .i64 (j:Int))]) (λj=>[]) (λj=>[w1,w]) (λj=>Gh.no) (λj=>j<=c.wes.length/\lH (SN c.wes) c.wes j) (λj=>c.wes.length-j) 0 ⟨cZ _,λi x hi=>absurd hi zM⟩ zR rfl rfl z1 ?_;rintro j ⟨hj,dO⟩;refine B 6 ?_;refine aK ?_ ?_
 ·intro ack;refine B 5 ?_;obtain⟨bo,oo,cs0,to,fp,jC,ft,hcs,ar⟩:=L2.get zM;obtain⟨x,hx⟩:=nk c.wes j zM;rw[jC];refine B 3 ?_;refine rq (.agg (sw x)) (ag isAgg166 sizeOf166 rfl A1 hcs zX trivial (ni ar hx rfl)) (va (np ar hx rfl)) ?_;refine aU zeroValue166 rfl rfl ?_;refine yW ?_;intro b8 wt wu;refine B 1 ?_;refine zYh ?_;refine B 3 ?_;by_cases h1:¬dM x.dev
  ·refine Xm ?_;refine nl 17 [.det [] _,.det [0] _,.det [1] (.bool false),.det [2] _,.det [3] _,.det [4] undef,.det [4,5] undef,.det [4,6] undef,.det [7] undef,.det [7,8] undef,.det [7] undef,.det [7,10] undef,.det [7,9,11] undef,.det [7,12] undef,.det [7,13] undef,.det [7] undef,.det [7,15] undef] zT (xc Jc (xc z2 (xc (by exact λab=>nf call207 rfl rfl (λW hS _=>by have h9:=W6 x.dev W;rw[decide_eq_false h1]at h9;exact h9) (λ_=>rfl)) (xc zsc (xc zO (xc zN (xc zN (xc zN (xc zN (xc zN (xc zN (xc zN (xc zN (xc zN (xc zN (xc zN (xc zN (xn)))))))))))))))))) zT zT zT (λab=>?_);refine B 23 ?_;exact L3
  by_cases h2:j=0
  ·refine Xm ?_;refine nl 17 [.det [] _,.det [0] _,.det [1] (.bool true),.det [2] _,.det [3] _,.det [4] _,.det [4,5] _,.det [4,6] _,.det [7] undef,.det [7,8] undef,.det [7] undef,.det [7,10] undef,.det [7,9,11] undef,.det [7,12] undef,.det [7,13] undef,.det [7] undef,.det [7,15] undef] zT (xc Jc (xc z2 (xc zZb (xc zqc (xc zO (xc zO (xc FT (xc zO (xc zN (xc zN (xc zN (xc zN (xc zN (xc zN (xc zN (xc zN (xc zN (xn)))))))))))))))))) zT zT zT (λab=>?_);refine B 5 ?_;refine zPi ?_;refine aK ?_ ?_
   ·intro acp;exact zxl
   intro acp;exact zZj
  obtain⟨y,hy⟩:=nk c.wes (j-1) zM;by_cases h3:x.dev<=y.dev
  ·refine Xm ?_;refine nl 17 [.det [] _,.det [0] _,.det [1] (.bool true),.det [2] _,.det [3] _,.det [4] _,.det [4,5] _,.det [4,6] _,.det [7] _,.det [7,8] _,.det [7] _,.det [7,10] _,.det [7,9,11] _,.det [7,12] _,.det [7,13] _,.det [7] _,.det [7,15] _] zT (xc Jc (xc z2 (xc zZb (xc zqc (xc zO (xc zO (xc IW (xc zO (xc (by exact λab=>X.val rfl rfl (ak underlying99 rfl sizeOf97 rfl) (λ_ _=>rfl)) (xc zzd (xc zO (xc EE (xc zoe (xc Jc (xc zKd (xc Jc (xc z2 (xn)))))))))))))))))) zT zT zT (λab=>?_);refine z2h ?_;refine B 22 ?_;exact L3
  refine Xm ?_;refine nl 17 [.det [] _,.det [0] _,.det [1] (.bool true),.det [2] _,.det [3] _,.det [4] _,.det [4,5] _,.det [4,6] _,.det [7] _,.det [7,8] _,.det [7] _,.det [7,10] _,.det [7,9,11] _,.det [7,12] _,.det [7,13] _,.det [7] _,.det [7,15] _] zT (xc Jc (xc z2 (xc zZb (xc zqc (xc zO (xc zO (xc IW (xc zO (xc (by exact λab=>X.val rfl rfl (ak underlying99 rfl sizeOf97 rfl) (λ_ _=>rfl)) (xc zzd (xc zO (xc EE (xc zoe (xc Jc (xc zKd (xc Jc (xc z2 (xn)))))))))))))))))) zT zT zT (λab=>?_);refine OZ ?_;refine B 4 ?_;refine zPi ?_;refine aK ?_ ?_
  ·intro acr;exact zxl
  intro acr;exact zZj
 intro ack;refine B 11 ?_;exact DX
abbrev AS (l:List UInt8):ByteArray:=strOfNums (l.map λu=>(u.toNat:Int))
theorem Xo(l:List UInt8):(AS l).size=l.length:=by rw[strOfNums_size,fl]
def mU (N:Nat) (w:World) (a:Option Addr) (l:List UInt8):Prop:=l=[]\/∃b off,a=some ⟨b,off,none⟩/\b<N/\cG w b off l
theorem ngf{P:Program}(w:World)(src e:Nat)(hs:P.underlying src=some (.slice e))(he:P.underlying e=some (.int .u8))(a:Option Addr)(cap:Nat)(dst:Nat)(hd:P.underlying dst=some .string):(convert src dst (.slice a 0 cap)).run P w= .ok (.string (strOfNums [])) w:=by
 cases a with
 |none=>
  have hr:=run_convert_bytes_nil (P:=P) w src e hs he 0 cap dst hd;rw[hr];rfl
 |some a=>
  have hl:(loadCells a 0).run P w= .ok (([]:List Int).map (Value.int .u8)).toArray w:=by simp[loadCells,loadCellsFrom]
  rw[run_convert_bytes_string w src dst e _ 0 cap hs he hd,run_bytesToString w _ 0 cap [] hl,foldl_push_bytes];simp[strOfNums,ByteArray.empty,ByteArray.emptyWithCapacity];rfl
theorem L4{src dst c:Nat}{l:List UInt8}(hs:C.P.underlying src=some (.slice e))(he:C.P.underlying e=some (.int .u8))(hd:C.P.underlying dst=some .string)(hx:ev E x=some (.slice a l.length c))(hm:w1∈L)(hb:mU N w1 a l)(hG:∀b,b<N->¬G.X b/\bE H b):RV C G L H E (.convert src dst x) (.string (AS l)):=λd ty pos aD g ac W hF hS=>by
 rcases hb with h1|⟨b,off,h1,h2,cs,t,fr,h3,h4,h5⟩
 ·subst h1;have hr:=ngf (P:=C.P) W src e hs he a c dst hd;simp only[lC]at hx;simp[execOp,hF.ev hx,hr];rfl
 subst h1;have hW:=hS.old hm h3 (hG b h2).1 (hG b h2).2;have hr:=run_convert_bytes_arg (P:=C.P) W src e hs he b off l.length c (l.map λu=>(u.toNat:Int)) z1 (λi hi=>by
  rw[Dz hW,h5 i hi];simp[fU,List.getD,hi]) dst hd
 simp[execOp,hF.ev hx,hr]
theorem nGb(n:Int)(w:World):Calls prog 142 #[.int .i64 n] w (av w (vI n)):=by
 refine enter (vs:=[_]) func142 rfl ntmps142 rfl ?_;refine B 2 ?_;refine y9 ?_;refine yW ?_;intro b2 cE cX;refine B 5 ?_;refine Rq ?_;refine bJ (.inl rfl) results142 (RS.wA (i:=0) rfl isAgg149 sizeOf149 rfl (aV rfl) (RS.n)) A0 zS ?_;rfl
theorem SP(l:List UInt8)(N:Nat)(a:Option Addr)(c:Nat)(w:World)(hN:N<=w.heap.size)(hb:mU N w a l):Calls prog 143 #[.slice a l.length c] w (av w (vT (AS l))):=by
 refine enter (vs:=[_]) func143 rfl ntmps143 rfl ?_;refine B 2 ?_;refine y9 ?_;refine yW ?_;intro b2 cE cX;refine B 5 ?_;refine rv rfl rfl rfl (L4 underlying64 underlying5 underlying9 rfl A0 hb (λb aH=>⟨λh=>h,by simp only[bE,and_true];omega⟩)) ?_;refine Rq ?_;refine bJ (.inl rfl) results143 (RS.wA (i:=0) rfl isAgg149 sizeOf149 rfl (aV rfl) (RS.n)) A0 zS ?_;rfl
theorem SQ(base:Option Addr)(n c:Nat)(w:World):Calls prog 140 #[.slice base n c] w (av w (vL base n c)):=by
 refine enter (vs:=[_]) func140 rfl ntmps140 rfl ?_;refine B 2 ?_;refine y9 ?_;refine yW ?_;intro b2 cE cX;refine B 5 ?_;refine Rq ?_;refine bJ (.inl rfl) results140 (RS.wA (i:=0) rfl isAgg149 sizeOf149 rfl (aV rfl) (RS.n)) A0 zS ?_;rfl
def qE (n:Int):List Value:=[.int .i64 1,.int .i64 n,.string ⟨#[]⟩,.slice none 0 0]
theorem nNn(n:Int):(qE n).length=4:=rfl
theorem Gl(n:Int):∀u∈qE n,u.oneCell'=true:=by intro u hu;simp[qE]at hu;rcases hu with rfl|rfl|rfl|rfl<;>rfl
theorem L5:prog.info? 149=some Tryz.t149:=by kernel_rfl
theorem vG:lQ prog 146 149 4:=⟨underlying146,Tryz.t149,.agg #[.int .i64 0,.int .i64 0,.string ⟨#[]⟩,.slice none 0 0],L5,rfl,rfl,rfl,by decide⟩
theorem n2i(xs:List Int)(cb:xs.length<=1000)(N:Nat)(a:Option Addr)(cp:Nat)(w:World)(hN:N<=w.heap.size)(aJ:ah encI 1 N w a xs):Calls prog 141 #[.slice a xs.length cp] w (nC w qE 4 149 xs id):=by
 refine enter (vs:=[_]) func141 rfl ntmps141 rfl ?_;refine B 19 ?_;refine CJ.loop (α:=Rw×Nat) (λp=>[(3,p.1.val (xs.take p.2).length),(6,.slice a xs.length cp),(7,.int .i64 (xs.length:Int)),(8,.int .i64 (p.2:Int))]) (λp=>p.1.hp qE 149 (xs.take p.2)++[]) (λp=>[w]) (λp=>Gh.no) (λp=>p.2<=xs.length/\p.1.Fr Gh.no [w]/\p.1.Fit 4 (xs.take p.2)) (λp=>xs.length-p.2) (.nil,0) ⟨cZ _,True.intro,rfl⟩ zR rfl rfl z1 ?_;rintro⟨r,j⟩ ⟨hj,bG,al⟩;dsimp only at hj bG al ⊢;have cM:r.ge w.heap.size:=Rw.ge_of bG A0;refine B 6 ?_;refine aK ?_ ?_
 ·intro aj;refine B 5 ?_;obtain⟨bo,oo,cs0,to,fp,rfl,ft,hcs,ar⟩:=aJ.get zM;obtain⟨x,hx⟩:=nk xs j zM;refine B 2 ?_;refine rv rfl rfl rfl (aa (v:=.int .i64 x) isAgg3 rfl A0 hcs zX (by simp only[bE,ne,dE,and_true];exact Rw.off_ge cM zM) (by have:=nS ar hx rfl zQ;simpa[encI]using this)) ?_;refine B 6 ?_;refine call call142 rfl rfl rfl (λW hS=>nGb _ W) ?_;refine IG ?_;refine yW ?_;intro ei iy Fe;refine oY (r:=r) (xs:=(xs.take j)) (zs:=[x]) (enc:=qE) (m:=4) (H0:=[(ei,.cells #[.int .i64 1,.int .i64 x,.string ⟨#[]⟩,.slice none 0 0] 149 (0,0))]) (H1:=[]) wQ vG nNn rfl rfl rfl rfl (dt.one (z:=x) nNn Gl underlying146 (bL.own (i:=0) rfl)) al bG z1 (by simp only[kj,dW,lC];omega) ?_;intro cq gd gJ jR fO;replace jR:=yb jR;refine SR ?_;refine PJ.again (Rw.row cq gd gJ,j+1) ⟨by dsimp only;omega,jR.elim (λh=>Rw.Fr_at bG h) (λh=>.inr h),by rw[nz hx];exact fO⟩ dL ⟨by rw[nz hx];rfl,rfl,rfl,rfl,trivial⟩ (by rw[nz hx];rfl) rfl z1
 intro aj;refine B 6 ?_;have bW:xs.take j=xs:=iZ zM;rw[bW]at al ⊢;refine B 6 ?_;exact nU (H0:=[]) (H1:=[]) (r:=r) (.inl rfl) results141 (RS.t rfl RS.n) A0 WK rfl al (Rw.ge_of bG A0) z1
abbrev El:=Nat×Nat
def gC (n:Nat) (e:El):List Value:=[.int .i64 3,.int .i64 0,.string ⟨#[]⟩,.slice (some ⟨e.1,0,none⟩) n e.2]
theorem Pd(n:Nat)(e:El):(gC n e).length=4:=rfl
theorem nrj(n:Nat)(e:El):∀u∈gC n e,u.oneCell'=true:=by intro u hu;simp[gC]at hu;rcases hu with rfl|rfl|rfl|rfl<;>rfl
def ib (F:ae) (n:Nat) (es:List El) (ls:List (List V)):Prop:=es.length=ls.length/\∀(i:Nat) (e:El) (l:List V),es[i]? =some e->ls[i]? =some l->l.length=n/\l.all oU=true/\n<=e.2/\∃sp t fr,(e.1,Obj.cells (nF l++sp).toArray t fr)∈F
theorem ib.nil{n:Nat}:ib F n [] []:=⟨rfl,λi e l h=>by simp at h⟩
theorem ib.up{F':ae}{n:Nat}{es:List El}(h:ib F n es ls)(hF:∀p∈F,p∈F'):ib F' n es ls:=⟨h.1,λi e l h1 h2=>by
 obtain⟨g1,g2,g3,sp,t,fr,g4⟩:=h.2 i e l h1 h2;exact⟨g1,g2,g3,sp,t,fr,hF _ g4⟩⟩
theorem n4h{α:Type}{xs:List α}{y z:α}(h:(xs++[y])[i]? =some z):xs[i]? =some z\/(i=xs.length/\z=y):=by
 by_cases hi:i<xs.length
 ·rw[xP hi]at h;exact .inl h
 rw[Dq zM]at h;have h2:i-xs.length<1:=by have:=(gD.1 h).1;simpa using this
 have h3:i=xs.length:=by omega
 subst h3;simp at h;exact .inr ⟨rfl,h.symm⟩
theorem ib.snoc{F':ae}{n c t:Nat}{es:List El}{l:List V}(h:ib F n es ls)(hF:∀p∈F,p∈F')(hl:l.length=n)(hf:l.all oU=true)(hc:n<=c)(hp:(b,Obj.cells (nF l++sp).toArray t fr)∈F'):ib F' n (es++[(b,c)]) (ls++[l]):=by
 refine⟨by simp[h.1],λi e l' h1 h2=>?_⟩;have e1:=h.1;rcases n4h h1 with h1|⟨rfl,rfl⟩
 ·rcases n4h h2 with h2|⟨rfl,rfl⟩
  ·exact(h.up hF).2 i e l' h1 h2
  have:=nE h1;omega
 rcases n4h h2 with h2|⟨_,rfl⟩
 ·have:=nE h2;omega
 exact⟨hl,hf,hc,sp,t,fr,hp⟩
theorem nbn{N:Nat}{w:World}:∀(l:List V) (ys:List (List Value)) (pre yk:List Value),l.length=ys.length->(∀(i:Nat) (x:V) (y:List Value),l[i]? =some x->ys[i]? =some y->y.length=4/\ef N w x (.agg y.toArray))->fb N w (pre++(ys.flatten++yk)).toArray pre.length l
 | [],_,pre,yk,_,_=>by simp[fb]
 |x::l,[],pre,yk,hl,_=>by simp at hl
 |x::l,y::ys,pre,yk,hl,h=>by
  obtain⟨h1,h2⟩:=h 0 x y rfl rfl;have ih:=nbn (N:=N) (w:=w) l ys (pre++y) yk xZ (λi x' y' hx hy=>h (i+1) x' y' (by simpa using hx) (by simpa using hy));have e:pre++y++(ys.flatten++yk)=pre++((y::ys).flatten++yk):=by simp
  rw[e]at ih;simp only[fb];have hc:cut (pre++((y::ys).flatten++yk)).toArray pre.length 4=y.toArray:=by
   unfold cut;simp only[List.flatten_cons,i7];rw[List.drop_left,<-h1,List.take_left]
  refine⟨?_,by rw[hc];exact h2,?_⟩
  ·simp only[rH,cF,List.flatten_cons];omega
  rw[cF,h1]at ih;exact ih
theorem nhl{α:Type}{t:Nat}{w:World}{enc:α->List Value}{xs:List α}{l:List V}(hl:l.length=xs.length)(he:∀(i:Nat) (x:α) (y:V),xs[i]? =some x->l[i]? =some y->(enc x).length=4/\ef N w y (.agg (enc x).toArray))(hr:∀p∈r.hp enc t xs,p.1<N/\w.heap[p.1]? =some p.2)(hf:r.Fit 4 xs):ef N w (.list l) (.agg #[.int .i64 3,.int .i64 0,.string ⟨#[]⟩,r.val xs.length]):=by
 simp only[ef];cases r with
 |nil=>
  have h0:xs=[]:=hf;subst h0;have h1:l=[]:=ja xZ;subst h1;exact⟨none,0,rfl,ao _,.inl rfl⟩
 |row b cap sp=>
  obtain⟨f1,f2⟩:=hf;obtain⟨g1,g2⟩:=hr (b,cD enc t xs sp) vv;refine⟨some ⟨b,0,none⟩,cap,by rw[hl];rfl,by omega,.inr ⟨b,_,t,(0,0),rfl,g1,g2,?_⟩⟩;have h2:=nbn (N:=N) (w:=w) l (xs.map enc) [] sp xZ (λi x y hx hy=>by
   rw[ra]at hy;cases hxs:xs[i]? with
   |none=>rw[hxs]at hy;cases hy
   |some z=>rw[hxs]at hy;cases hy;exact he i z x hxs hx)
  simpa[eJ,List.flatMap]using h2
theorem ib.vat{n t:Nat}{w:World}{es:List El}(h:ib F n es ls)(hw:∀p∈F,p.1<N/\w.heap[p.1]? =some p.2)(hr:∀p∈r.hp (gC n) t es,p∈F)(hf:r.Fit 4 es):ef N w (.list (ls.map V.list)) (.agg #[.int .i64 3,.int .i64 0,.string ⟨#[]⟩,r.val es.length]):=
 nhl (by rw[fl];exact h.1.symm) (λi e y hx hy=>⟨rfl,by
  rw[ra]at hy;cases hl:ls[i]? with
  |none=>rw[hl]at hy;cases hy
  |some l=>
   rw[hl]at hy;cases hy;obtain⟨g1,g2,g3,sp,t',fr,g4⟩:=h.2 i e l hx hl;obtain⟨k1,k2⟩:=hw _ g4;have:=Rp (cap:=e.2) g2 k1 zM k2;rw[g1]at this;exact this⟩) (λp hp=>hw p (hr p hp)) hf
theorem AU{t:Nat}{w:World}{xs:List Int}(hr:∀p∈r.hp qE t xs,p.1<N/\w.heap[p.1]? =some p.2)(hf:r.Fit 4 xs):ef N w (.list (xs.map V.int)) (.agg #[.int .i64 3,.int .i64 0,.string ⟨#[]⟩,r.val xs.length]):=
 nhl z1 (λi x y hx hy=>⟨rfl,by rw[ra,hx]at hy;cases hy;simp only[ef];rfl⟩) hr hf
def yl (x:Ch):List V:=[.int x.kind,.int x.dev,.int x.pub,.int x.ver,.int x.cut]
def qF (x:Bx):List V:=[.int x.node,.int x.level,.int x.w.u,.text (AS x.w.body)]
def qG (x:We):List V:=[.int x.dev,.int x.w.u,.text (AS x.w.body)]
def lZ (c:Cm):List V:=[.int c.folder,.int c.epoch,.text (AS (dn c.par)),.int c.author,.list ((c.chs.map yl).map V.list),.list (c.path.map V.int),.list ((c.bxs.map qF).map V.list),.list ((c.wes.map qG).map V.list),.text (AS (dn c.conf)),.int c.sr,.int c.ss]
theorem nWh{α β:Type}(f:α->β){xs:List α}{x:α}(hx:xs[j]? =some x):(xs.take (j+1)).map f=(xs.take j).map f++[f x]:=by rw[nz hx];simp
theorem cG.dgo{w:World}{t off:Nat}{f:Nat->Int}(h:w.heap[b]? =some (.cells cs t fr))(hc:cut cs off 32=Px.dg f)(hs:off+32<=cs.size)(hf:jh f):cG w b off (dn f):=
 ⟨cs,t,fr,h,by rw[nO];exact hs,λi hi=>by
  rw[nO]at hi;rw[V8 f hf i hi,<-pC f i hi,<-hc];unfold cut;rw[<-xO,<-xO];simp only[Kn hi,wv]⟩
theorem L6{t:Nat}{xs:List Int}(h:W.heap[b]? =some (.cells (xs.map (Value.int .i64)).toArray t fr)):ah encI 1 W.heap.size W (some ⟨b,0,none⟩) xs:=by
 refine .inr ⟨b,0,_,t,fr,rfl,(aM.1 h).1,h,λi hi=>⟨by simp;omega,?_⟩⟩;unfold cut encI;apply Array.ext';simp only[i6,tX];rw[<-List.map_drop,List.drop_eq_getElem_cons hi,eE];rfl
end Px
