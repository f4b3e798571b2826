/- Contracts of functions of the program. No condition beyond those stated. -/
import Derived.Test.YtpgobjebhigaoaaGreatDoorKc
import Derived.Test.YtpgobjebhigaoaaGreatDoorProg
import Derived.Test.YtpgobjebhigaoaaGreatDoorLa
set_option linter.unusedSimpArgs false
set_option linter.unusedVariables false
set_option linter.unusedSectionVars false
set_option maxRecDepth 20000
set_option maxHeartbeats 8000000
namespace Px
open Go Go.RowKit Go.Proofs Go.Proofs.Tryz
variable {ops:Array Oper} {cs:Array Value} {C:Cx} {E:Env} {G:Gh} {F H H':ad} {au d:Int} {ls:List (List V)} {D:List Deferred} {ns:List Nd} {sp:List Value} {L:List World} {N N' T b i j:Nat} {fr:Nat×Nat} {o:Obj} {x:Operand} {a:Option Addr} {r:Rw} {v:Value} {W w' w1:World}
theorem OJ.frz{Q:aF}{l:List Oper}(hi:H[i]? =some (b,o))(hH:H.eraseIdx i=H')(ha:ab L b)(k:∀w1,w1.heap[b]? =some o->b<w1.heap.size->(∀w∈L,w.heap.size<=w1.heap.size)->OJ C ops Q l E D G (w1::L) H'):OJ C ops Q l E D G L H:=by
 subst hH;intro a W hN hD hF hS;have hb:=hS.own _ (cB hi);exact k W hb (aL.1 hb).1 (λw hw=>(hS.links w hw).size) a W hN hD hF (hS.dropAt hi ha).snap
noncomputable def lX (ns:List Nd) (n:Int):List Int:=if iJ ns=0/\1<=n/\n<=1023 then ey (dc ns) 10 n else[]
noncomputable def Ji (ns:List Nd) (n:Int):Int:=if iJ ns=0 then(if 1<=n/\n<=1023 then 0 else 200)else 210
theorem Xj(kv:List (Int×Int)):∀(k:Nat) (n:Int),(ey kv k n).length<=2^k
 |0,n=>by simp[ey]
 |k+1,n=>by
  have h1:=Xj kv k (2*n);have h2:=Xj kv k (2*n+1);have h3:2^(k+1)=2^k+2^k:=by rw[Nat.pow_succ];omega
  have h4:0<2^k:=Nat.pow_pos zQ;by_cases h5:(aC kv n).isSome=true
  ·rw[n1h h5];simp;omega
  by_cases h6:512<=n
  ·rw[n9j h5 h6];simp
  rw[nWg h5 h6,cC];omega
theorem nTj(ns:List Nd)(n:Int):(lX ns n).length<=1024:=by
 unfold lX;split
 ·exact Xj _ 10 n
 simp
theorem Gk:dU prog 312:=call312
theorem nKj(ns:List Nd)(hn:ns.length<=100000)(N:Nat)(a:Option Addr)(cp:Nat)(w:World)(hN:N<=w.heap.size)(aN:ah gf 2 N w a ns)(eX:iJ ns=210)(n:Int):Calls prog 257 #[.agg #[.slice a ns.length cp],.int .i64 n] w (nB w ai 1 3 [] (λs=>.tuple #[s,.int .i64 (210)])):=by
 refine zwi ?_;refine yV ?_;intro b2 w2 aI aE dY cA db;refine B 7 ?_;refine Xk ?_;refine zGg ?_;refine B 6 ?_;refine FB ?_;refine B 12 ?_;exact zNj
theorem nsk(ns:List Nd)(hn:ns.length<=100000)(N:Nat)(a:Option Addr)(cp:Nat)(w:World)(hN:N<=w.heap.size)(aN:ah gf 2 N w a ns)(eX:iJ ns=0)(n:Int)(eN:¬(1<=n/\n<=1023)):Calls prog 257 #[.agg #[.slice a ns.length cp],.int .i64 n] w (nB w ai 1 3 [] (λs=>.tuple #[s,.int .i64 (200)])):=by
 refine zwi ?_;refine yV ?_;intro b2 w2 aI aE dY cA db;refine B 7 ?_;refine Xk ?_;refine z3e ?_;refine IJ ?_;refine B 7 ?_;by_cases h1:n<1
 ·refine B 2 ?_;refine I0 ?_;refine B 15 ?_;exact zNj
 refine KY ?_;refine B 2 ?_;refine QT ?_;refine B 12 ?_;exact zNj
theorem nKk(ns:List Nd)(hn:ns.length<=100000)(N:Nat)(a:Option Addr)(cp:Nat)(w:World)(hN:N<=w.heap.size)(aN:ah gf 2 N w a ns)(eX:iJ ns=0)(n:Int)(eN:1<=n/\n<=1023):Calls prog 257 #[.agg #[.slice a ns.length cp],.int .i64 n] w (nB w ai 1 3 (ey (dc ns) 10 n) (λs=>.tuple #[s,.int .i64 (0)])):=by
 have vl:=eN.1;have Ku:=eN.2;refine zwi ?_;refine yV ?_;intro b2 w2 aI aE dY cA db;refine B 7 ?_;refine Xk ?_;refine z3e ?_;refine IJ ?_;refine B 9 ?_;refine wD ?_;refine B 2 ?_;refine KL ?_;refine B 8 ?_;refine Xk ?_;refine zzf ?_;intro bf m vJ Pq hm;replace vJ:=yb vJ;refine B 1 ?_;refine OJ.frz (i:=0) (H':=[]) rfl rfl zX ?_;intro wf hwf hlf hzf;have ahw:=hzf w A1;refine nr (α:=Nat×Nat) (v:=λq:Nat×Nat=>.func (.func 312) #[] #[ptr q.1 0,ptr q.2 0]) (Φ:=λ(W:World) (q:Nat×Nat) (w1:World)=>W.heap.size<=q.1/\W.heap.size<=q.2/\w1.heap[q.1]? =some (.cells #[.map (some bf)] 319 (0,0))/\w1.heap[q.2]? =some (.cells #[.int .i64 n] 3 (0,0))) call293 rfl rfl rfl (λW hS=>nRe (some bf) n W) ?_;rintro Wk q wk vF F4 ⟨gX,gY,eO,eY⟩;try dsimp only at gX gY eO eY
 have qJ:=(aL.1 eO).1;have qK:=(aL.1 eY).1;have W8:=F4.size;have hzw:=(vF.links wf A0).size;refine Sl (enc:=ai) (m:=1) (t:=3) (Fin:=Is (ey (dc ns) 10 n)) (v:=id) call118 rfl rfl rfl (λW hS=>W6 (f:=312) (cap:=[ptr q.1 0,ptr q.2 0]) (Pre:=yn (ey (dc ns) 10 n)) (Fin:=Is (ey (dc ns) 10 n)) (RO:=SF q.1 q.2 bf) Gk W ?_ ?_ ?_) ?_
 ·have mB:=(hS.links wk A0).size;rintro j (rfl|rfl|rfl)<;>omega
 ·intro p hp;have h1:p.length<=_:=hp.length_le;have h2:=Xj (dc ns) 10 n;omega
 ·intro W2 hB;have mB:=(hS.links wk A0).size;exact SI (dc ns) 10 n q.1 q.2 bf m W2 zM zM zM hm (by rw[hB.block q.1 zM];exact hS.old A0 eO zZ trivial) (by rw[hB.block q.2 zM];exact hS.old A0 eY zZ trivial) (by rw[hB.block bf zM];exact hS.old A1 hwf zZ trivial)
 intro xs r bV bH al;cases bV
 refine B 5 ?_;exact nT (H0:=[]) (H1:=[]) (r:=r) (.inl rfl) results257 (RS.t rfl (RS.t rfl RS.n)) A3 (by rw[dN];exact Rw.over (Rw.ge_of bH A3)) rfl al (Rw.ge_of bH A3) z1
theorem nIg(ns:List Nd)(hn:ns.length<=100000)(N:Nat)(a:Option Addr)(cp:Nat)(w:World)(hN:N<=w.heap.size)(aN:ah gf 2 N w a ns)(n:Int):Calls prog 257 #[.agg #[.slice a ns.length cp],.int .i64 n] w (nB w ai 1 3 (lX ns n) (λs=>.tuple #[s,.int .i64 (Ji ns n)])):=by
 rcases Xa ns with h|h
 ·by_cases h2:1<=n/\n<=1023
  ·have e1:lX ns n=ey (dc ns) 10 n:=by unfold lX;rw[if_pos ⟨h,h2⟩]
   have e2:Ji ns n=0:=by unfold Ji;rw[if_pos h,if_pos h2]
   rw[e1,e2];exact nKk ns hn N a cp w hN aN h n h2
  have e1:lX ns n=[]:=by unfold lX;rw[if_neg λg=>h2 g.2]
  have e2:Ji ns n=200:=by unfold Ji;rw[if_pos h,if_neg h2]
  rw[e1,e2];exact nsk ns hn N a cp w hN aN h n h2
 have e1:lX ns n=[]:=by unfold lX;rw[if_neg λg=>by have:=g.1;omega]
 have e2:Ji ns n=210:=by unfold Ji;rw[if_neg zM]
 rw[e1,e2];exact nKj ns hn N a cp w hN aN h n
structure Mb where
 dev:Int
 since:Int
 ver:Int
def oK (x:Mb):Array Value:=#[.int .i64 x.dev,.int .i64 x.since,.int .i64 x.ver]
def kR (x:Mb):List Value:=[.int .i64 x.dev,.int .i64 x.since,.int .i64 x.ver]
structure Ch where
 kind:Int
 dev:Int
 pub:Int
 ver:Int
 cut:Int
def eR (x:Ch):Array Value:=#[.int .i64 x.kind,.int .i64 x.dev,.int .i64 x.pub,.int .i64 x.ver,.int .i64 x.cut]
def lY (x:Ch):List Value:=[.int .i64 x.kind,.int .i64 x.dev,.int .i64 x.pub,.int .i64 x.ver,.int .i64 x.cut]
theorem xm(x:Mb):(kR x).length=3:=rfl
theorem AP(x:Ch):(lY x).length=5:=rfl
theorem Xl(x:Mb):∀u∈kR x,u.oneCell'=true:=by intro u hu;simp[kR]at hu;rcases hu with rfl|rfl|rfl<;>rfl
theorem ndj(x:Ch):∀u∈lY x,u.oneCell'=true:=by intro u hu;simp[lY]at hu;rcases hu with rfl|rfl|rfl|rfl|rfl<;>rfl
theorem Gl:prog.info? 210=some Tryz.t210:=by kernel_rfl
theorem Gm:prog.info? 233=some Tryz.t233:=by kernel_rfl
def cy (a b:Int):Int:=if a<b then -1 else if b<a then 1 else 0
abbrev AQ (f:Int):Prop:=0<=f/\f<16
theorem nNc{α:Type}{p:α->Bool}{xs:List α}(h:∀i x,i<j->xs[i]? =some x->p x=false)(hj:¬j<xs.length):xs.any p=false:=by
 rw[List.any_eq_false];intro x hx;obtain⟨i,hi⟩:=iQ.1 hx;have:=h i x (by have:=nF hi;omega) hi;simp[this]
theorem Gn{α:Type}{p:α->Bool}{xs:List α}{x:α}(hx:xs[j]? =some x)(h:p x=true):xs.any p=true:=List.any_eq_true.2 ⟨x,cB hx,h⟩
def fY {α:Type} (p:α->Bool) (xs:List α) (j:Nat):Prop:=∀i x,i<j->xs[i]? =some x->p x=false
theorem fY.next{α:Type}{p:α->Bool}{xs:List α}{x:α}(h:fY p xs j)(hx:xs[j]? =some x)(hp:p x=false):fY p xs (j+1):=by
 exact z7k
def cZ {α:Type} (p:α->Bool) (xs:List α) (i:Int):Prop:=(i= -1/\xs.any p=false)\/∃(k:Nat) (x:α),i=(k:Int)/\xs[k]? =some x/\p x=true/\fY p xs k
theorem cZ.any{α:Type}{p:α->Bool}{xs:List α}{i:Int}(h:cZ p xs i):decide (0<=i)=xs.any p:=by
 rcases h with⟨rfl,h⟩|⟨k,x,rfl,hx,hp,_⟩
 ·rw[h];rfl
 rw[Gn hx hp];simp
def yt (xs:List Mb) (d:Int) (i j:Nat):Nat:=
 if h:i<j then(if((xs[(i+j)/2]?).map (·.dev)).getD 0<d then yt xs d ((i+j)/2+1) j else yt xs d i ((i+j)/2))else i
termination_by j-i
decreasing_by all_goals omega
theorem LO{xs:List Mb}{x:Mb}(h:i<j)(hx:xs[(i+j)/2]? =some x)(hd:x.dev<d):yt xs d i j=yt xs d ((i+j)/2+1) j:=by
 rw[yt,dif_pos h,hx];simp[hd]
theorem LP{xs:List Mb}{x:Mb}(h:i<j)(hx:xs[(i+j)/2]? =some x)(hd:¬x.dev<d):yt xs d i j=yt xs d i ((i+j)/2):=by
 rw[yt,dif_pos h,hx];simp[hd]
theorem LQ{xs:List Mb}(h:¬i<j):yt xs d i j=i:=by rw[yt,dif_neg h]
theorem nmj(a b:Int):cy a b<0↔a<b:=by unfold cy;split<;>(try split)<;>omega
theorem Gq(a b:Int):cy a b=0↔a=b:=by unfold cy;split<;>(try split)<;>omega
def lZ (xs:List Mb) (d:Int):Nat:=yt xs d 0 xs.length
def gZ (xs:List Mb) (d:Int):Bool:=decide (((xs[lZ xs d]?).map (·.dev))=some d)
theorem nEl{xs:List Mb}{x:Mb}(h:lZ xs d=i)(hx:xs[i]? =some x):decide (cy x.dev d=0)=gZ xs d:=by
 unfold gZ;rw[h,hx];simp[Gq]
theorem nJj{xs:List Mb}(h:lZ xs d=i)(hi:¬i<xs.length):false=gZ xs d:=by
 unfold gZ;rw[h,um zM];simp
theorem Gr{xs:List Mb}(h:gZ xs d=true):lZ xs d<xs.length:=by
 by_cases h2:lZ xs d<xs.length
 ·exact h2
 rw[<-nJj rfl h2]at h;cases h
theorem n2k(f:Int)(w:World):Calls prog 200 #[.int .i64 f] w (av w (.bool (decide (AQ f)))):=by
 refine enter (vs:=[_]) func200 rfl ntmps200 rfl ?_;refine B 10 ?_;refine nh (t:=5) rfl (λaj=>?_) (λaj=>?_)
 ·exact zSk
 exact zSk
theorem Xm(f:Int)(w:World):Calls prog 207 #[.int .i64 f] w (av w (.bool (decide (dV f)))):=by
 refine enter (vs:=[_]) func207 rfl ntmps207 rfl ?_;refine B 10 ?_;refine nh (t:=5) rfl (λaj=>?_) (λaj=>?_)
 ·exact zRk
 exact zRk
theorem nRj(f:Int)(w:World):Calls prog 193 #[.int .i64 f] w (av w (.bool false)):=by
 refine enter (vs:=[_]) func193 rfl ntmps193 rfl ?_;refine B 14 ?_;refine ay results193 rfl A0 ?_;exact vb z1
theorem nrf(a b:Int)(w:World):Calls prog 125 #[.int .i64 a,.int .i64 b] w (av w (.int .i64 (cy a b))):=by
 refine enter (vs:=[_,_]) func125 rfl ntmps125 rfl ?_;refine B 8 ?_;refine call call193 rfl rfl rfl (λW hS=>nRj _ W) (v:=.bool false) ?_;refine B 6 ?_;refine call call193 rfl rfl rfl (λW hS=>nRj _ W) (v:=.bool false) ?_;refine B 29 ?_;refine aO ?_ ?_
 ·intro aj;refine B 7 ?_;exact zKk
 intro aj;refine B 10 ?_;refine aO ?_ ?_
 ·intro aQ;refine B 7 ?_;exact zKk
 intro aQ;refine B 8 ?_;exact zKk
theorem nrl(x:Mb)(d:Int)(w:World):Calls prog 260 #[.agg (oK x),.int .i64 d] w (av w (.int .i64 (cy x.dev d))):=by
 refine enter (vs:=[_,_]) func260 rfl ntmps260 rfl ?_;refine B 2 ?_;refine yX ?_;intro b2 w2 aI aE dY cA db;refine B 8 ?_;refine call call125 rfl rfl rfl (λW hS=>nrf _ _ W) ?_;refine B 4 ?_;refine ay results260 rfl A1 ?_;rfl
theorem nOo(xs:List Mb)(ck:xs.length<=1000000)(N:Nat)(a:Option Addr)(cp:Nat)(w:World)(hN:N<=w.heap.size)(aN:ah oK 3 N w a xs)(d:Int):Calls prog 259 #[.slice a xs.length cp,.int .i64 d,.func (.func 260) #[] #[]] w (av w (.tuple #[.int .i64 (lZ xs d:Int),.bool (gZ xs d)])):=by
 refine enter (vs:=[_,_,_]) func259 rfl ntmps259 rfl ?_;refine B 22 ?_;refine CJ.loop (α:=Nat×Nat) (λp=>[(0,.slice a xs.length cp),(1,.int .i64 d),(2,.func (.func 260) #[] #[]),(8,.int .i64 (xs.length:Int)),(9,.int .i64 (p.1:Int)),(10,.int .i64 (p.2:Int))]) (λp=>[]) (λp=>[w]) (λp=>Gh.no) (λp=>p.1<=p.2/\p.2<=xs.length/\yt xs d p.1 p.2=lZ xs d) (λp=>p.2-p.1) (0,xs.length) ⟨dx _,ao _,rfl⟩ zR rfl rfl z1 ?_;rintro⟨i,j⟩ ⟨xp,lU,Xo⟩;dsimp only at xp lU Xo ⊢;refine B 8 ?_;refine aO ?_ ?_
 ·intro aj;refine B 9 ?_;refine rv rfl rfl rfl (gl 1 2 zQ rfl rfl rfl) ?_;refine rq (.int .i64 (((i+j)/2:Nat):Int)) (tZ underlying189 underlying3 rfl zM zM) ((vi zM)) ?_;refine B 4 ?_;obtain⟨bo,oo,cs0,to,fA,rfl,fG,hcs,ar⟩:=aN.get zM;obtain⟨x,hx⟩:=nj xs ((i+j)/2) zM;refine B 5 ?_;refine zSi ?_;refine B 3 ?_;refine aO ?_ ?_
  ·intro aQ;refine B 6 ?_;refine PJ.again ((i+j)/2+1,j) ⟨by dsimp only;omega,lU,by rw[<-Xo,LO zM hx ((nmj _ _).1 gM)]⟩ dE zR rfl rfl z1
  intro aQ;refine B 5 ?_;refine PJ.again (i,(i+j)/2) ⟨by dsimp only;omega,by dsimp only;omega,by rw[<-Xo,LP zM hx (λh=>(by assumption:¬cy x.dev d<0) ((nmj _ _).2 h))]⟩ dE zR rfl rfl z1
 intro aj;refine B 6 ?_;have SJ:lZ xs d=i:=by rw[<-Xo,LQ zM]
 by_cases h1:i<xs.length
 ·obtain⟨bo,oo,cs0,to,fA,rfl,fG,hcs,ar⟩:=aN.get zM;obtain⟨x,hx⟩:=nj xs i zM;refine B 4 ?_;refine I0 ?_;refine B 5 ?_;refine zSi ?_;refine B 7 ?_;exact zqk
 refine B 4 ?_;refine wD ?_;refine B 15 ?_;exact zqk
theorem Xp(p:Mb->Bool)(f:Nat)(cap:List Value)(ax:dU prog f)(xs:List Mb)(ck:xs.length<=1000000)(N:Nat)(a:Option Addr)(cp:Nat)(w:World)(hN:N<=w.heap.size)(aN:ah oK 3 N w a xs)(hp:∀(j:Nat) (x:Mb),xs[j]? =some x->∀W,Below w.heap.size w W->Calls prog f (.agg (oK x)::cap).toArray W (av W (.bool (p x)))):Calls prog 115 #[.slice a xs.length cp,.func (.func f) #[] cap.toArray] w (cu w (λi:Int=>.int .i64 i) (λi _=>cZ p xs i)):=by
 refine enter (vs:=[_,_]) func115 rfl ntmps115 rfl ?_;refine Jj ?_;rintro j ⟨hj,er⟩;refine B 6 ?_;refine aO ?_ ?_
 ·intro aj;refine B 11 ?_;obtain⟨bo,oo,cs0,to,fA,rfl,fG,hcs,ar⟩:=aN.get zM;obtain⟨x,hx⟩:=nj xs j zM;refine B 5 ?_;refine zhf ?_;refine Jk ?_;refine aO ?_ ?_
  ·intro aQ;refine B 12 ?_;refine jM (j:Int) results115 rfl A0 rfl ?_;exact Jl
  exact Gs
 intro aj;refine B 11 ?_;refine jM (-1:Int) results115 rfl A0 rfl ?_;exact Gt
theorem n6e(p:Mb->Bool)(f:Nat)(cap:List Value)(ax:dU prog f)(xs:List Mb)(ck:xs.length<=1000000)(N:Nat)(a:Option Addr)(cp:Nat)(w:World)(hN:N<=w.heap.size)(aN:ah oK 3 N w a xs)(hp:∀(j:Nat) (x:Mb),xs[j]? =some x->∀W,Below w.heap.size w W->Calls prog f (.agg (oK x)::cap).toArray W (av W (.bool (p x)))):Calls prog 206 #[.slice a xs.length cp,.func (.func f) #[] cap.toArray] w (av w (.bool (xs.any p))):=by
 refine enter (vs:=[_,_]) func206 rfl ntmps206 rfl ?_;refine B 9 ?_;refine nr (α:=Int) (v:=λi:Int=>.int .i64 i) (Φ:=λ_ i _=>cZ p xs i) call115 rfl rfl rfl (λW hS=>Xp p f cap ax xs ck N a cp W (aS hN (hS.links w A0).size) (aN.up (ao _) (hS.same A0 hN zU trivial)) (λj x hx W2 hB=>hp j x hx W2 (((hS.links w A0).below Lw).trans (hB.mono (hS.links w A0).size)))) ?_;intro Wi i wi sC sD hi;refine B 5 ?_;refine ay results206 rfl A1 ?_;exact vb hi.any
theorem nMe(p:Ch->Bool)(f:Nat)(cap:List Value)(ax:dU prog f)(xs:List Ch)(ck:xs.length<=1000000)(N:Nat)(a:Option Addr)(cp:Nat)(w:World)(hN:N<=w.heap.size)(aN:ah eR 5 N w a xs)(hp:∀(j:Nat) (x:Ch),xs[j]? =some x->∀W,Below w.heap.size w W->Calls prog f (.agg (eR x)::cap).toArray W (av W (.bool (p x)))):Calls prog 223 #[.slice a xs.length cp,.func (.func f) #[] cap.toArray] w (cu w (λi:Int=>.int .i64 i) (λi _=>cZ p xs i)):=by
 refine enter (vs:=[_,_]) func223 rfl ntmps223 rfl ?_;refine Jj ?_;rintro j ⟨hj,er⟩;refine B 6 ?_;refine aO ?_ ?_
 ·intro aj;refine B 11 ?_;obtain⟨bo,oo,cs0,to,fA,rfl,fG,hcs,ar⟩:=aN.get zM;obtain⟨x,hx⟩:=nj xs j zM;refine B 5 ?_;refine rq (.agg (eR x)) (ag isAgg233 sizeOf233 rfl A0 hcs zZ trivial (nl ar hx rfl)) (va (nq ar hx rfl)) ?_;refine Jk ?_;refine aO ?_ ?_
  ·intro aQ;refine B 12 ?_;refine jM (j:Int) results223 rfl A0 rfl ?_;exact Jl
  exact Gs
 intro aj;refine B 11 ?_;refine jM (-1:Int) results223 rfl A0 rfl ?_;exact Gt
theorem nFc(p:Ch->Bool)(f:Nat)(cap:List Value)(ax:dU prog f)(xs:List Ch)(ck:xs.length<=1000000)(N:Nat)(a:Option Addr)(cp:Nat)(w:World)(hN:N<=w.heap.size)(aN:ah eR 5 N w a xs)(hp:∀(j:Nat) (x:Ch),xs[j]? =some x->∀W,Below w.heap.size w W->Calls prog f (.agg (eR x)::cap).toArray W (av W (.bool (p x)))):Calls prog 157 #[.slice a xs.length cp,.func (.func f) #[] cap.toArray] w (av w (.bool (xs.any p))):=by
 refine enter (vs:=[_,_]) func157 rfl ntmps157 rfl ?_;refine B 9 ?_;refine nr (α:=Int) (v:=λi:Int=>.int .i64 i) (Φ:=λ_ i _=>cZ p xs i) call223 rfl rfl rfl (λW hS=>nMe p f cap ax xs ck N a cp W (aS hN (hS.links w A0).size) (aN.up (ao _) (hS.same A0 hN zU trivial)) (λj x hx W2 hB=>hp j x hx W2 (((hS.links w A0).below Lw).trans (hB.mono (hS.links w A0).size)))) ?_;intro Wi i wi sC sD hi;refine B 5 ?_;refine ay results157 rfl A1 ?_;exact vb hi.any
structure Gp where
 folder:Int
 epoch:Int
 last:Nat->Int
 ms:List Mb
 ns:List Nd
structure Gv where
 g:Gp
 ma:Option Addr
 mc:Nat
 na:Option Addr
 nc:Nat
def aZ (x:Gv):Array Value:=#[.int .i64 x.g.folder,.int .i64 x.g.epoch,.int .u8 (x.g.last 0),.int .u8 (x.g.last 1),.int .u8 (x.g.last 2),.int .u8 (x.g.last 3),.int .u8 (x.g.last 4),.int .u8 (x.g.last 5),.int .u8 (x.g.last 6),.int .u8 (x.g.last 7),.int .u8 (x.g.last 8),.int .u8 (x.g.last 9),.int .u8 (x.g.last 10),.int .u8 (x.g.last 11),.int .u8 (x.g.last 12),.int .u8 (x.g.last 13),.int .u8 (x.g.last 14),.int .u8 (x.g.last 15),.int .u8 (x.g.last 16),.int .u8 (x.g.last 17),.int .u8 (x.g.last 18),.int .u8 (x.g.last 19),.int .u8 (x.g.last 20),.int .u8 (x.g.last 21),.int .u8 (x.g.last 22),.int .u8 (x.g.last 23),.int .u8 (x.g.last 24),.int .u8 (x.g.last 25),.int .u8 (x.g.last 26),.int .u8 (x.g.last 27),.int .u8 (x.g.last 28),.int .u8 (x.g.last 29),.int .u8 (x.g.last 30),.int .u8 (x.g.last 31),.slice x.ma x.g.ms.length x.mc,.slice x.na x.g.ns.length x.nc]
structure aM (N:Nat) (w:World) (x:Gv):Prop where
 ms:ah oK 3 N w x.ma x.g.ms
 ns:ah gf 2 N w x.na x.g.ns
 mn:x.g.ms.length<=10000
 nn:x.g.ns.length<=80000
theorem aM.up{w:World}{x:Gv}(h:aM N w x)(hN:N<=N')(hw:∀k,k<N->w'.heap[k]? =w.heap[k]?):aM N' w' x:=⟨h.ms.up hN hw,h.ns.up hN hw,h.mn,h.nn⟩
def PA (ep:Int) (x:Mb):Bool:=decide (x.since<1\/ep<x.since\/¬cE x.ver)
def LR (g:Gp):Prop:=(AQ g.folder/\0<=g.epoch/\g.epoch<=1099511627776/\iJ g.ns=0)/\¬(g.epoch=0/\(0<g.ms.length\/fE g.last (λ_=>0)=false))/\g.ms.map (·.dev)=dm g.ns/\g.ms.any (PA g.epoch)=false
open Classical in
noncomputable def eH (g:Gp):Bool:=decide (LR g)
theorem SK(a:Int):(if cE a then(0:Int)else 40)=0↔cE a:=by
 by_cases h:cE a
 ·rw[if_pos h];exact⟨λ_=>h,λ_=>rfl⟩
 rw[if_neg h];exact⟨λe=>absurd e zQ,λg=>absurd g h⟩
theorem n2m(G:Gv)(b:Nat)(x:Mb)(w:World)(aP:w.heap[b]? =some (.cells (aZ G) 57 (0,0))):Calls prog 202 #[.agg (oK x),ptr b 0] w (av w (.bool (PA G.g.epoch x))):=by
 have aX:¬Gh.no.X b:=λh=>h;have mB:=(aL.1 aP).1;obtain⟨e,he⟩:∃e,(if cE x.ver then(0:Int)else 40)=e:=⟨_,rfl⟩;have D2:=SK x.ver;rw[he]at D2;refine enter (vs:=[_,_]) func202 rfl ntmps202 rfl ?_;refine B 2 ?_;refine yX ?_;intro b2 w2 aI aE dY cA db;refine B 9 ?_;refine nh (t:=7) rfl (λaj=>?_) (λaj=>?_)
 ·replace aj:=ya aj;refine B 16 ?_;exact zWk
 replace aj:=ya aj;refine B 7 ?_;refine nh (t:=14) rfl (λaQ=>?_) (λaQ=>?_)
 ·replace aQ:=ya aQ;refine B 9 ?_;exact zWk
 replace aQ:=ya aQ;refine B 2 ?_;refine WT ?_;refine B 6 ?_;exact zWk
theorem Gu(x:Mb)(d:Int)(w:World):Calls prog 203 #[.agg (oK x),.int .i64 d] w (av w (.bool (decide (x.dev=d)))):=by
 refine enter (vs:=[_,_]) func203 rfl ntmps203 rfl ?_;refine B 2 ?_;refine yX ?_;intro b2 w2 aI aE dY cA db;refine B 13 ?_;refine ay results203 rfl A1 ?_;rfl
theorem n6g{α β:Type}{f:α->β}{xs:List α}{ys:List β}(hl:xs.length=ys.length)(h:∀i x y,i<xs.length->xs[i]? =some x->ys[i]? =some y->f x=y):xs.map f=ys:=by
 apply List.ext_getElem yq;intro i h1 h2;simp only[fy]at h1;simpa using h i _ _ h1 (gR h1) (gR h2)
theorem n4g{α β:Type}{f:α->β}{xs:List α}{ys:List β}{x:α}{y:β}(hx:xs[i]? =some x)(hy:ys[i]? =some y)(dG:f x≠y):xs.map f≠ys:=by
 intro e;have h:(xs.map f)[i]? =ys[i]? :=by rw[e]
 rw[rC,hx,hy]at h;simp only[wO,rS]at h;exact dG h
def qM {α β:Type} (f:α->β) (xs:List α) (ys:List β) (j:Nat):Prop:=∀i x y,i<j->xs[i]? =some x->ys[i]? =some y->f x=y
theorem qM.next{α β:Type}{f:α->β}{xs:List α}{ys:List β}{x:α}{y:β}(h:qM f xs ys j)(hx:xs[j]? =some x)(hy:ys[j]? =some y)(e:f x=y):qM f xs ys (j+1):=by
 exact zyk
theorem n9c(xs:List Mb)(ck:xs.length<=1000000)(N:Nat)(a:Option Addr)(cp:Nat)(w:World)(hN:N<=w.heap.size)(aN:ah oK 3 N w a xs)(ys:List Int)(a2:Option Addr)(Jm:Nat)(AR:ah (λx=>(ai x).toArray) 1 N w a2 ys):Calls prog 204 #[.slice a xs.length cp,.slice a2 ys.length Jm,.func (.func 203) #[] #[]] w (av w (.bool (decide (xs.map (·.dev)=ys)))):=by
 refine enter (vs:=[_,_,_]) func204 rfl ntmps204 rfl ?_;refine B 15 ?_;refine aO ?_ ?_
 ·intro aj;refine B 7 ?_;refine ay results204 rfl A0 ?_;exact vb zjd
 intro aj;refine B 11 ?_;refine CJ.loop (α:=Nat) (λj=>[(1,.slice a2 ys.length Jm),(2,.func (.func 203) #[] #[]),(15,.slice a xs.length cp),(16,.int .i64 (xs.length:Int)),(17,.int .i64 (j:Int))]) (λj=>[]) (λj=>[w]) (λj=>Gh.no) (λj=>j<=xs.length/\qM (·.dev) xs ys j) (λj=>xs.length-j) 0 ⟨dx _,λi x y hi=>absurd hi zM⟩ zR rfl rfl z1 ?_;rintro j ⟨hj,er⟩;refine B 6 ?_;refine aO ?_ ?_
 ·intro aQ;refine B 5 ?_;obtain⟨bo,oo,cs0,to,fA,rfl,fG,hcs,ar⟩:=aN.get zM;obtain⟨x,hx⟩:=nj xs j zM;refine B 3 ?_;refine zhf ?_;refine aY zeroValue210 rfl rfl ?_;refine yW ?_;intro b8 ua uc;refine B 1 ?_;refine zSh ?_;refine B 3 ?_;obtain⟨bp,op,csp,tp,frp,rfl,Zb,AS,uO⟩:=AR.get zM;obtain⟨y,hy⟩:=nj ys j zM;refine B 4 ?_;refine rv rfl rfl rfl (aa (v:=.int .i64 y) isAgg3 rfl A0 AS zZ jS (by have:=nR (enc:=λx=>(ai x).toArray) (n:=1) uO hy rfl zQ;simpa[ai]using this)) ?_;refine B 8 ?_;refine nJ (f:=203) (cap:=[]) rfl call203 rfl rfl rfl (λW hS=>Gu x y W) ?_;refine B 3 ?_;refine aO ?_ ?_
  ·intro cY;refine B 11 ?_;refine bG (.inl rfl) results204 (RS.t rfl (RS.n)) A0 zS ?_;exact vb zjd
  intro cY;refine wY ?_;refine PJ.again (j+1) ⟨by omega,er.next hx hy qC⟩ zM zR rfl rfl z1
 intro aQ;refine B 11 ?_;refine ay results204 rfl A0 ?_;exact vb zjd
variable {g:Gp}
theorem AU:eH g=true↔LR g:=by unfold eH;simp
theorem LS(h:¬LR g):Value.bool false= .bool (eH g):=vb (by
 cases e:eH g with
 |false=>rfl
 |true=>exact absurd (AU.1 e) h)
theorem nzn(h1:AQ g.folder/\0<=g.epoch/\g.epoch<=1099511627776/\iJ g.ns=0)(h2:¬(g.epoch=0/\(0<g.ms.length\/fE g.last (λ_=>0)=false)))(h3:g.ms.map (·.dev)=dm g.ns):Value.bool (!g.ms.any (PA g.epoch))= .bool (eH g):=vb (by
 by_cases h:g.ms.any (PA g.epoch)=false
 ·rw[h,AU.2 ⟨h1,h2,h3,h⟩];rfl
 cases e:eH g with
 |false=>simpa using h
 |true=>exact absurd (AU.1 e).2.2.2 h)
theorem nV(G:Gv)(N:Nat)(w:World)(hN:N<=w.heap.size)(hG:aM N w G):Calls prog 144 #[.agg (aZ G)] w (av w (.bool (eH G.g))):=by
 have hn:G.g.ns.length<=100000:=by have:=hG.nn;omega
 have rB:G.g.ms.length<=1000000:=by have:=hG.mn;omega
 have aN:=hG.ns;refine enter (vs:=[_]) func144 rfl ntmps144 rfl ?_;refine B 2 ?_;refine yX ?_;intro b1 w1 aP aX fW eb ir;refine B 8 ?_;refine call call200 rfl rfl rfl (λW hS=>n2k _ W) ?_;refine B 2 ?_;refine nh (t:=9) rfl (λaj=>?_) (λaj=>?_)
 ·replace aj:=ya aj;refine B 25 ?_;refine ay results144 rfl A1 ?_;exact LS (λh=>aj h.1.1)
 replace aj:=ya aj;refine B 5 ?_;refine nh (t:=14) rfl (λaQ=>?_) (λaQ=>?_)
 ·replace aQ:=ya aQ;refine B 20 ?_;refine ay results144 rfl A1 ?_;exact LS (λh=>by have:=h.1.2.1;omega)
 replace aQ:=ya aQ;refine B 5 ?_;refine nh (t:=19) rfl (λcY=>?_) (λcY=>?_)
 ·replace cY:=ya cY;refine B 15 ?_;refine ay results144 rfl A1 ?_;exact LS (λh=>by have:=h.1.2.2.1;omega)
 replace cY:=ya cY;refine B 1 ?_;refine rr (.agg #[.slice G.na G.g.ns.length G.nc]) (ag isAgg55 sizeOf55 rfl A0 aP aX trivial (aT rfl)) ?_;refine call call201 rfl rfl rfl (λW hS=>nMb G.g.ns hn N G.na G.nc W (aS hN (hS.links w A1).size) (aN.up (ao _) (hS.same A1 hN zU z7))) ?_;refine B 4 ?_;refine aO ?_ ?_
 ·intro gb;refine B 7 ?_;refine ay results144 rfl A1 ?_;exact LS (λh=>gb h.1.2.2.2)
 intro gb;refine B 9 ?_;refine nh (t:=28) rfl (λgL=>?_) (λgL=>?_)
 ·replace gL:=ya gL;refine B 5 ?_;refine nh (t:=33) rfl (λjL=>?_) (λjL=>?_)
  ·replace jL:=ya jL;refine B 16 ?_;refine ay results144 rfl A1 ?_;exact LS (λh=>h.2.1 ⟨gL,.inl zM⟩)
  replace jL:=ya jL;refine B 1 ?_;refine rv rfl rfl rfl (ag isAgg34 sizeOf34 rfl A0 aP aX trivial (aT rfl)) ?_;refine B 1 ?_;refine rr (.bool (!fE G.g.last (λ_=>0))) (jR uB zQ nX rfl rfl rfl) ?_;refine B 4 ?_;refine aO ?_ ?_
  ·intro jE;refine B 7 ?_;refine ay results144 rfl A1 ?_;exact LS (λh=>h.2.1 ⟨gL,.inr jE⟩)
  intro jE;refine B 14 ?_;by_cases h1:G.g.ms.map (·.dev)=dm G.g.ns
  ·refine zAe ?_;refine nK 11 [4] [([],some _),([0],some (.slice G.ma G.g.ms.length G.mc)),([],some _),([2],some (.agg #[.slice G.na G.g.ns.length G.nc])),([3],none),([],some _),([1,4,5],some (.bool true)),([6],some _),([7],some _),([7,8],some _),([7],some _)] (λcv L' H'=>match cv with| []=>L'=[w1,w]/\H'=[]| [v1]=>∃(a7:Option Addr) (c7:Nat) (w7:World),v1= .slice a7 (dm G.g.ns).length c7/\L'=[w7,w1,w]/\H'=[]/\ah (λx=>(ai x).toArray) 1 w7.heap.size w7 a7 (dm G.g.ns)|_=>False) zT ⟨rfl,rfl⟩ zT zT zT zT zT zT (pc SL (pc Jn (pc SM (pc Jn (pk (pc zW (pc (λcv L' H' hd hP=>match cv,hd,hP with| [],hd,hP=>(absurd (show false=true from hd) zQ)| [v1],hd,hP=>zod|_::_::_,_,hP=>hP.elim) (pc zW (pc SL (pc Jn (pc zW (pn)))))))))))) ?_ ?_
   ·exact zfj
   intro cv L' H' hl hP;obtain⟨v1,rfl⟩:=di hl;obtain⟨a7,c7,w7,rfl,rfl,rfl,iD⟩:=hP;refine zMf ?_;refine B 6 ?_;refine ay results144 rfl A2 ?_;exact nzn ⟨aj,by omega,by omega,gb⟩ (λh=>h.2.elim (λh=>by omega) (λh=>by rw[jE]at h;cases h)) h1
  exact z9i
 replace gL:=ya gL;refine B 28 ?_;by_cases h1:G.g.ms.map (·.dev)=dm G.g.ns
 ·refine zAe ?_;refine nK 11 [4] [([],some _),([0],some (.slice G.ma G.g.ms.length G.mc)),([],some _),([2],some (.agg #[.slice G.na G.g.ns.length G.nc])),([3],none),([],some _),([1,4,5],some (.bool true)),([6],some _),([7],some _),([7,8],some _),([7],some _)] (λcv L' H'=>match cv with| []=>L'=[w1,w]/\H'=[]| [v1]=>∃(a7:Option Addr) (c7:Nat) (w7:World),v1= .slice a7 (dm G.g.ns).length c7/\L'=[w7,w1,w]/\H'=[]/\ah (λx=>(ai x).toArray) 1 w7.heap.size w7 a7 (dm G.g.ns)|_=>False) zT ⟨rfl,rfl⟩ zT zT zT zT zT zT (pc SL (pc Jn (pc SM (pc Jn (pk (pc zW (pc (λcv L' H' hd hP=>match cv,hd,hP with| [],hd,hP=>(absurd (show false=true from hd) zQ)| [v1],hd,hP=>zod|_::_::_,_,hP=>hP.elim) (pc zW (pc SL (pc Jn (pc zW (pn)))))))))))) ?_ ?_
  ·exact zfj
  intro cv L' H' hl hP;obtain⟨v1,rfl⟩:=di hl;obtain⟨a7,c7,w7,rfl,rfl,rfl,iD⟩:=hP;refine zMf ?_;refine B 6 ?_;refine ay results144 rfl A2 ?_;exact nzn ⟨aj,by omega,by omega,gb⟩ (λh=>gL h.1) h1
 exact z9i
section
variable {C:Cx} {Q:aF} {E E0:Env} {D:List Deferred} {G:Gh} {L:List World} {H:ad}
def SN (C:Cx) (E:Env) (D:List Deferred) (G:Gh) (L:List World) (H:ad):aF:=λe a W=>e= .normal/\a.tmps.size=C.N/\a.defers=D/\Fits E a/\St G L H W
theorem CJ.mid{c:Code}{t:Nat}(h0:Sub E0 E)(h:CJ C c (SN C ((t,v)::E0) D G L H) E D G L H)(k:PJ C Q .normal ((t,v)::E0) D G L H):CJ C c Q E D G L H:=by
 intro a W hN hD hF hS;refine wpIn_mono (h a W hN hD hF hS) ?_;rintro e a' W' ⟨rfl,h1,h2,h3,h4⟩;exact k a' W' h1 h2 h3 h4
theorem PJ.mid{E':Env}(hE:Sub E' E):PJ C (SN C E' D G L H) .normal E D G L H:=λa W hN hD hF hS=>⟨rfl,hN,hD,hE.fits hF,hS⟩
end
def acm (x:Ch):Prop:=((x.kind=1/\(cE x.pub/\cE x.ver)/\x.cut=0)\/(x.kind=2/\x.pub=0/\x.ver=0/\(0<=x.cut/\x.cut<=1048576))\/(x.kind=3/\(cE x.pub/\cE x.ver)/\(0<=x.cut/\x.cut<=1048576)))/\dV x.dev
def Jo (kv:List (Int×Bool)) (x:Ch):List (Int×Bool):=cq kv x.dev true
def LU (l:List Ch):List (Int×Bool):=l.foldl Jo []
theorem nki{l:List Ch}{x:Ch}(hx:l[j]? =some x):LU (l.take (j+1))=cq (LU (l.take j)) x.dev true:=by rw[nC hx];simp[LU,Jo,DY]
def LV (l:List Ch) (i:Nat) (x:Ch):Prop:=acm x/\(aC (LU (l.take i)) x.dev).getD false=false
def uP (l:List Ch) (j:Nat):Prop:=∀i x,i<j->l[i]? =some x->LV l i x
theorem uP.next{l:List Ch}{x:Ch}(h:uP l j)(hx:l[j]? =some x)(hk:LV l j x):uP l (j+1):=by
 exact z8k
def SO (l:List Ch):Prop:=uP l l.length/\l.length<=64
open Classical in
noncomputable def jw (l:List Ch):Bool:=decide (SO l)
theorem SP{l:List Ch}:jw l=true↔SO l:=by unfold jw;simp
theorem nvc{l:List Ch}{x:Ch}(hx:l[j]? =some x)(h:¬LV l j x):Value.bool false= .bool (jw l):=vb (by
 cases e:jw l with
 |false=>rfl
 |true=>exact absurd ((SP.1 e).1 j x (nF hx) hx) h)
theorem nAh{l:List Ch}(h:uP l j)(hj:¬j<l.length):Value.bool (decide ((l.length:Int)<=64))= .bool (jw l):=vb (by
 have h1:uP l l.length:=λi x hi hx=>h i x zM hx;cases e:jw l with
 |false=>exact decide_eq_false (λh2=>absurd (SP.2 ⟨h1,by omega⟩) (by rw[e];decide))
 |true=>have:=(SP.1 e).2;exact decide_eq_true zM)
theorem n1c(l:List Ch)(ck:l.length<=1000000)(N:Nat)(a:Option Addr)(cp:Nat)(w:World)(hN:N<=w.heap.size)(aN:ah eR 5 N w a l):Calls prog 208 #[.slice a l.length cp] w (av w (.bool (jw l))):=by
 refine enter (vs:=[_]) func208 rfl ntmps208 rfl ?_;refine B 7 ?_;refine F0 Value.bool rfl rfl ?_;refine yW ?_;intro b9 qt EN;refine B 12 ?_;refine CJ.loop (α:=Mp×Nat) (λp=>[(0,.slice a l.length cp),(3,.map (some b9)),(10,.slice a l.length cp),(11,.int .i64 (l.length:Int)),(12,.int .i64 (p.2:Int))]) (λp=>[(b9,p.1.obj Value.bool (LU (l.take p.2)))]) (λp=>[w]) (λp=>Gh.no) (λp=>p.2<=l.length/\p.1.Ok (LU (l.take p.2))/\uP l p.2) (λp=>l.length-p.2) (⟨[],0⟩,0) ⟨dx _,Mp.nil,λi x hi=>absurd hi zM⟩ zR rfl rfl z1 ?_;rintro⟨m,j⟩ ⟨hj,hm,er⟩;dsimp only at hj hm er ⊢;refine B 6 ?_;refine aO ?_ ?_
 ·intro aj;refine B 5 ?_;obtain⟨bo,oo,cs0,to,fA,rfl,fG,hcs,ar⟩:=aN.get zM;obtain⟨x,hx⟩:=nj l j zM;obtain⟨e1,si⟩:∃e,(if cE x.pub then(0:Int)else 40)=e:=⟨_,rfl⟩;obtain⟨e2,Ag⟩:∃e,(if cE x.ver then(0:Int)else 40)=e:=⟨_,rfl⟩;have LW:=SK x.pub;rw[si]at LW;have LX:=SK x.ver;rw[Ag]at LX;refine B 2 ?_;refine rq (.agg (eR x)) (ag isAgg233 sizeOf233 rfl A0 hcs zZ yo (nl ar hx rfl)) (va (nq ar hx rfl)) ?_;refine LY ?_;refine yW ?_;intro b5 iu iv;refine LZ ?_;refine B 3 ?_;refine CJ.mid (t:=6) (v:=.bool (decide (e1=0/\e2=0))) (E0:=[(0,_),(3,_),(5,_),(10,_),(11,_),(12,_),(13,_),(14,_),(15,_)]) zR ?_ ?_
  ·refine B 3 ?_;refine call call63 rfl rfl rfl (λW hS=>by rw[<-si];exact nE _ W) (v:=.int .i64 e1) ?_;refine B 2 ?_;refine nh (t:=20) rfl (λaQ=>?_) (λaQ=>?_)
   ·replace aQ:=ya aQ;refine B 2 ?_;refine call call63 rfl rfl rfl (λW hS=>by rw[<-Ag];exact nE _ W) (v:=.int .i64 e2) ?_;refine B 4 ?_;exact zXk
   replace aQ:=ya aQ;refine B 7 ?_;exact zXk
  refine B 2 ?_;refine CJ.mid (t:=7) (v:=.bool (decide (0<=x.cut/\x.cut<=1048576))) (E0:=[(0,_),(3,_),(5,_),(6,_),(10,_),(11,_),(12,_),(13,_),(14,_),(15,_)]) zR ?_ ?_
  ·refine B 5 ?_;refine nh (t:=29) rfl (λcY=>?_) (λcY=>?_)
   ·exact zkk
   exact zkk
  refine B 13 ?_;refine CJ.mid (t:=8) (v:=.bool (decide ((x.kind=1/\(e1=0/\e2=0)/\x.cut=0)\/(x.kind=2/\x.pub=0/\x.ver=0/\(0<=x.cut/\x.cut<=1048576))\/(x.kind=3/\(e1=0/\e2=0)/\(0<=x.cut/\x.cut<=1048576))))) (E0:=[(0,_),(3,_),(5,_),(6,_),(7,_),(10,_),(11,_),(12,_),(13,_),(14,_),(15,_),(34,_),(35,_)]) zR ?_ ?_
  ·refine B 7 ?_;refine aO ?_ ?_
   ·intro gb;refine B 3 ?_;refine nh (t:=39) rfl (λgL=>?_) (λgL=>?_)
    ·replace gL:=ya gL;refine B 7 ?_;exact SQ
    replace gL:=ya gL;refine B 7 ?_;exact SQ
   intro gb;refine B 6 ?_;refine aO ?_ ?_
   ·intro jL;refine B 5 ?_;refine nh (t:=49) rfl (λjE=>?_) (λjE=>?_)
    ·replace jE:=ya jE;refine B 5 ?_;refine nh (t:=54) rfl (λtT=>?_) (λtT=>?_)
     ·replace tT:=ya tT;exact Xq
     replace tT:=ya tT;exact Xq
    replace jE:=ya jE;refine B 10 ?_;exact SQ
   intro jL;refine B 6 ?_;refine aO ?_ ?_
   ·intro rn;refine B 3 ?_;refine nh (t:=60) rfl (λqh=>?_) (λqh=>?_)
    ·replace qh:=ya qh;exact Xq
    replace qh:=ya qh;exact Xq
   intro rn;refine B 2 ?_;exact SQ
  refine B 7 ?_;refine nh (t:=65) rfl (λqi=>?_) (λqi=>?_)
  ·replace qi:=ya qi;refine B 26 ?_;exact Xr
  replace qi:=ya qi;refine B 2 ?_;refine call call207 rfl rfl rfl (λW hS=>Xm _ W) ?_;refine B 3 ?_;refine nh (t:=71) rfl (λkY=>?_) (λkY=>?_)
  ·replace kY:=ya kY;refine B 20 ?_;exact Xr
  replace kY:=ya kY;refine B 3 ?_;refine rq (.bool ((aC (LU (l.take j)) x.dev).getD false)) (qF (ev:=Value.bool) underlying351 underlying3 zeroValue4 hm (bN.own (i:=1) rfl) rfl rfl) (nsj _) ?_;refine B 3 ?_;refine aO ?_ ?_
  ·intro kZ;refine B 12 ?_;exact Xr
  intro kZ;refine B 6 ?_;refine Ja (i:=1) (ev:=Value.bool) (v:=true) rfl hm underlying351 underlying3 rfl rfl rfl rfl ?_;intro m3 aD;refine wY ?_;refine PJ.again (m3,j+1) ⟨by dsimp only;omega,by rw[nki hx];exact aD,er.next hx ⟨⟨by rw[<-LW,<-LX];assumption,by assumption⟩,by assumption⟩⟩ dE zR (by rw[nki hx];rfl) rfl z1
 intro aj;refine B 14 ?_;exact Xr
theorem AV{U:Nat}{y:Operand}{a b:Bool}(hU:C.P.underlying T=some .bool)(hx:ev E x=some (.bool a))(hy:ev E y=some (.bool b)):RV C G L H E (.binOp .neq T x y U) (.bool (a != b)):=λd ty pos aB g ac W hF _=>by
 have h1:(Op.equalIn (9999+1) T (.bool a) (.bool b)).run C.P W= .ok (a==b) W:=by
  generalize 9999=n;exact O9
 have h2:(binOp .neq T (.bool a) (.bool b)).run C.P W= .ok (.bool (a != b)) W:=by
  have e:binOp .neq T (.bool a) (.bool b)=(do pure (.bool (!(<-Op.equalIn (9999+1) T (.bool a) (.bool b))))):=rfl;rw[e,Sem.run_bind,h1];rfl
 have h3:(eqGuard .neq T x y (.bool a) (.bool b)).run C.P W= .ok () W:=by simp[eqGuard]
 simp only[execOp,hF.ev hx,hF.ev hy,Sem.run_bind,h3,h2,Result.andThen];rfl
def Gw (g:Gp) (own:Bool) (au:Int) (x:Ch):Bool:=(gZ g.ms x.dev==decide (x.kind=1))||(own&&decide (x.dev=au))
def pf (g:Gp) (au:Int) (l:List Ch):Bool:= !((gZ g.ms au != decide (0<g.epoch))||(decide (g.epoch=0)&&(decide (l.length=0)|| !decide ((l[0]?.map (·.dev))=some au))))&& !(l.any (Gw g (gZ g.ms au) au))
theorem nMd(G:Gv)(N:Nat)(w:World)(hN:N<=w.heap.size)(hG:aM N w G)(d:Int):Calls prog 217 #[.agg (aZ G),.int .i64 d] w (av w (.tuple #[.int .i64 (lZ G.g.ms d:Int),.bool (gZ G.g.ms d)])):=by
 refine enter (vs:=[_,_]) func217 rfl ntmps217 rfl ?_;refine B 2 ?_;refine yX ?_;intro b2 w2 aI aE dY cA db;refine B 9 ?_;refine call call259 rfl rfl rfl (λW hS=>nOo G.g.ms (by have:=hG.mn;omega) N G.ma G.mc W (aS hN (hS.links w A1).size) (hG.ms.up (ao _) (hS.same A1 hN zU zP)) d) ?_;refine B 7 ?_;refine nS results217 rfl rfl A1 ?_ ?_;all_goals rfl
theorem nei(G:Gv)(N:Nat)(w:World)(hN:N<=w.heap.size)(hG:aM N w G)(b1 b2 b3:Nat)(own:Bool)(au:Int)(aP:w.heap[b1]? =some (.cells (aZ G) 57 (0,0)))(aI:w.heap[b2]? =some (.cells #[.bool own] 4 (0,0)))(aJ:w.heap[b3]? =some (.cells #[.int .i64 au] 3 (0,0)))(x:Ch):Calls prog 254 #[.agg (eR x),ptr b1 0,ptr b2 0,ptr b3 0] w (av w (.bool (Gw G.g own au x))):=by
 have aX:¬Gh.no.X b1:=λh=>h;have aE:¬Gh.no.X b2:=λh=>h;have aD:¬Gh.no.X b3:=λh=>h;refine enter (vs:=[_,_,_,_]) func254 rfl ntmps254 rfl ?_;refine B 2 ?_;refine yX ?_;intro b4 w4 cT dI k4 dD dH;refine B 5 ?_;refine rr (.agg (aZ G)) (ag isAgg57 sizeOf57 rfl A1 aP aX trivial (aT rfl)) ?_;refine B 2 ?_;refine call call217 rfl rfl rfl (λW hS=>nMd G N W (aS hN (hS.links w A1).size) (hG.up (ao _) (hS.same A1 hN zU zP)) x.dev) ?_;refine B 13 ?_;refine rv rfl rfl rfl (AW underlying4 rfl rfl) ?_;refine B 1 ?_;refine nh (t:=20) rfl (λaj=>?_) (λaj=>?_)
 ·replace aj:=ya aj;refine B 12 ?_;exact znk
 replace aj:=ya aj;refine B 2 ?_;refine nh (t:=22) rfl (λaQ=>?_) (λaQ=>?_)
 ·replace aQ:=ya aQ;refine B 10 ?_;exact znk
 replace aQ:=ya aQ;refine B 10 ?_;exact znk
theorem nSe(G:Gv)(N:Nat)(w:World)(hN:N<=w.heap.size)(hG:aM N w G)(l:List Ch)(ck:l.length<=1000000)(a:Option Addr)(cp:Nat)(aN:ah eR 5 N w a l)(au:Int):Calls prog 210 #[.agg (aZ G),.int .i64 au,.slice a l.length cp] w (av w (.bool (pf G.g au l))):=by
 refine enter (vs:=[_,_,_]) func210 rfl ntmps210 rfl ?_;refine B 2 ?_;refine yX ?_;intro b3 w3 aJ aD dr bY cR;refine yX ?_;intro b4 w4 cT dI k4 dD dH;refine B 5 ?_;refine rr (.agg (aZ G)) (af isAgg57 sizeOf57 rfl A1 aJ aD trivial rfl) ?_;refine B 1 ?_;refine call call217 rfl rfl rfl (λW hS=>nMd G N W (aS hN (hS.links w A2).size) (hG.up (ao _) (hS.same A2 hN zU zP)) au) ?_;refine B 3 ?_;refine aY zeroValue4 rfl rfl ?_;refine yW ?_;intro b8 ua uc;refine B 1 ?_;refine Pj ?_;refine B 4 ?_;by_cases h1:gZ G.g.ms au≠decide (0<G.g.epoch)
 ·refine Xs ?_;refine nk 19 [.det [] _,.det [] _,.det [1] _,.det [2] _,.det [0,3] _,.det [4] _,.det [5] undef,.det [5,6] undef,.det [5,7] undef,.det [5,8] undef,.det [9] undef,.det [9,10] undef,.det [9,11] undef,.det [9,12] undef,.det [13] undef,.det [13,14] undef,.det [13,15] undef,.det [13,16] undef,.det [13] undef] zT (xc Xt (xc AX (xc L0 (xc Xu (xc (by exact λae=>X.val rfl rfl (RV.re (v':=.bool true) (AV underlying4 rfl rfl) (vb AY)) (λ_ _=>rfl)) (xc zO (xc zN (xc zN (xc zN (xc zN (xc zN (xc zN (xc zN (xc zN (xc zN (xc zN (xc zN (xc zN (xc zN (xn)))))))))))))))))))) zT zT zT (λae=>?_);refine B 14 ?_;exact SR
 by_cases h2:¬G.g.epoch=0
 ·refine Xs ?_;refine nk 19 [.det [] _,.det [] _,.det [1] _,.det [2] _,.det [0,3] _,.det [4] _,.det [5] _,.det [5,6] _,.det [5,7] _,.det [5,8] _,.det [9] undef,.det [9,10] undef,.det [9,11] undef,.det [9,12] undef,.det [13] undef,.det [13,14] undef,.det [13,15] undef,.det [13,16] undef,.det [13] undef] zT (xc Xt (xc AX (xc L0 (xc Xu (xc zyd (xc zO (xc AX (xc L0 (xc zUd (xc zO (xc zN (xc zN (xc zN (xc zN (xc zN (xc zN (xc zN (xc zN (xc zN (xn)))))))))))))))))))) zT zT zT (λae=>?_);refine B 19 ?_;refine zSe ?_;refine B 5 ?_;exact SR
 by_cases h3:l.length=0
 ·refine Xs ?_;refine nk 19 [.det [] _,.det [] _,.det [1] _,.det [2] _,.det [0,3] _,.det [4] _,.det [5] _,.det [5,6] _,.det [5,7] _,.det [5,8] _,.det [9] _,.det [9,10] _,.det [9,11] _,.det [9,12] _,.det [13] undef,.det [13,14] undef,.det [13,15] undef,.det [13,16] undef,.det [13] undef] zT (xc Xt (xc AX (xc L0 (xc Xu (xc zyd (xc zO (xc AX (xc L0 (xc zxd (xc zO (xc zO (xc (by exact λae=>X.val rfl rfl (iP underlying95 rfl) (λ_ _=>rfl)) (xc zxd (xc zO (xc zN (xc zN (xc zN (xc zN (xc zN (xn)))))))))))))))))))) zT zT zT (λae=>?_);refine B 14 ?_;exact SR
 obtain⟨bo,oo,cs0,to,fA,rfl,fG,hcs,ar⟩:=aN.get zM;obtain⟨x,hx⟩:=nj l 0 zM;refine Xs ?_;refine nk 19 [.det [] _,.det [] _,.det [1] _,.det [2] _,.det [0,3] _,.det [4] _,.det [5] _,.det [5,6] _,.det [5,7] _,.det [5,8] _,.det [9] _,.det [9,10] _,.det [9,11] _,.det [9,12] _,.det [13] _,.det [13,14] _,.det [13,15] _,.det [13,16] _,.det [13] _] zT (xc Xt (xc AX (xc L0 (xc Xu (xc zyd (xc zO (xc AX (xc L0 (xc zxd (xc zO (xc zO (xc (by exact λae=>X.val rfl rfl (iP underlying95 rfl) (λ_ _=>rfl)) (xc zUd (xc zO (xc zO (xc (by exact λae=>X.val rfl rfl (cL underlying95 sizeOf233 rfl rfl zM zM) (λ_ _=>rfl)) (xc (by exact λae=>X.val rfl rfl (ak underlying233 rfl sizeOf3 rfl) (λ_ _=>rfl)) (xc (by exact λae=>X.val rfl rfl (aa (v:=.int .i64 x.dev) isAgg3 rfl A2 hcs zZ jS (by have:=D3 ar hx (i:=0) rfl 1 zQ;simpa[eR]using this)) (λ_ _=>rfl)) (xc (by exact λae=>X.val rfl rfl (aa isAgg3 rfl A0 cT dI zL rfl) (λ_ _=>rfl)) (xn)))))))))))))))))))) zT zT zT (λae=>?_);refine B 6 ?_;refine aO ?_ ?_
 ·intro aj;refine B 7 ?_;exact SR
 intro aj;refine B 12 ?_;refine zSe ?_;refine B 5 ?_;exact SR
noncomputable def me (ns:List Nd) (d:Int):List Nd:=if iJ ns=0/\(aC (dc ns) (512+d)).isSome=true then oJ (lW (dc ns) d)else[]
noncomputable def sE (ns:List Nd) (d:Int):Int:=if iJ ns=0 then(if(aC (dc ns) (512+d)).isSome=true then 0 else 200)else 210
open Classical in
noncomputable def mg (ns:List Nd) (d p:Int):List Nd:=if iJ ns=0/\cE p then oJ (cq (lW (dc ns) d) (512+d) p)else[]
open Classical in
noncomputable def sF (ns:List Nd) (d p:Int):Int:=if iJ ns=0 then(if cE p then 0 else 50)else 210
theorem AZ(ns:List Nd)(d:Int):(me ns d).length<=ns.length:=by
 unfold me;split
 ·rw[n3g];exact aS (SD _ _) (Pu _)
 simp
theorem Ba(ns:List Nd)(d p:Int):(mg ns d p).length<=ns.length+1:=by
 unfold mg;split
 ·rw[n3g];exact aS (Pt _ _ _) (Nat.succ_le_succ (aS (SD _ _) (Pu _)))
 simp
theorem nBj(ns:List Nd)(hn:ns.length<=100000)(N:Nat)(a:Option Addr)(cp:Nat)(w:World)(hN:N<=w.heap.size)(aN:ah gf 2 N w a ns)(d:Int)(hd:dV d):Calls prog 221 #[.agg #[.slice a ns.length cp],.int .i64 d] w (nB w fw 2 355 (me ns d) (λs=>.tuple #[.agg #[s],.int .i64 (sE ns d)])):=by
 rcases Xa ns with h|h
 ·by_cases h2:(aC (dc ns) (512+d)).isSome=true
  ·have e1:me ns d=oJ (lW (dc ns) d):=by unfold me;rw[if_pos ⟨h,h2⟩]
   have e2:sE ns d=0:=by unfold sE;rw[if_pos h,if_pos h2]
   rw[e1,e2];exact n8o ns hn N a cp w hN aN h d hd h2
  have e1:me ns d=[]:=by unfold me;rw[if_neg λg=>h2 g.2]
  have e2:sE ns d=200:=by unfold sE;rw[if_pos h,if_neg h2]
  rw[e1,e2];exact nrp ns hn N a cp w hN aN h d hd Jp
 have e1:me ns d=[]:=by unfold me;rw[if_neg λg=>by have:=g.1;omega]
 have e2:sE ns d=210:=by unfold sE;rw[if_neg zM]
 rw[e1,e2];exact nto ns hn N a cp w hN aN h d
theorem nLm(ns:List Nd)(hn:ns.length<=100000)(N:Nat)(a:Option Addr)(cp:Nat)(w:World)(hN:N<=w.heap.size)(aN:ah gf 2 N w a ns)(d p:Int)(hd:dV d)(vl:ns.length<100000):Calls prog 222 #[.agg #[.slice a ns.length cp],.int .i64 d,.int .i64 p] w (nB w fw 2 355 (mg ns d p) (λs=>.tuple #[.agg #[s],.int .i64 (sF ns d p)])):=by
 rcases Xa ns with h|h
 ·by_cases h2:cE p
  ·have e1:mg ns d p=oJ (cq (lW (dc ns) d) (512+d) p):=by unfold mg;rw[if_pos ⟨h,h2⟩]
   have e2:sF ns d p=0:=by unfold sF;rw[if_pos h,if_pos h2]
   rw[e1,e2];exact LF ns hn N a cp w hN aN h d p hd vl (if_pos h2)
  have e1:mg ns d p=[]:=by unfold mg;rw[if_neg λg=>h2 g.2]
  have e2:sF ns d p=50:=by unfold sF;rw[if_pos h,if_neg h2]
  rw[e1,e2];exact Gd ns hn N a cp w hN aN h d p hd (if_neg h2)
 have e1:mg ns d p=[]:=by unfold mg;rw[if_neg λg=>by have:=g.1;omega]
 have e2:sF ns d p=210:=by unfold sF;rw[if_neg zM]
 rw[e1,e2];exact Gc ns hn N a cp w hN aN h d p
noncomputable def uQ (ns:List Nd) (x:Ch):List Nd:=if x.kind=2 then me ns x.dev else mg ns x.dev x.pub
noncomputable def dn (ns:List Nd) (l:List Ch):List Nd:=l.foldl uQ ns
theorem nWj{l:List Ch}{x:Ch}(hx:l[j]? =some x):dn ns (l.take (j+1))=uQ (dn ns (l.take j)) x:=by rw[nC hx];simp[dn,DY]
theorem nQk{l:List Ch}{x:Ch}(hx:l[j]? =some x)(h:x.kind=2):dn ns (l.take (j+1))=me (dn ns (l.take j)) x.dev:=by rw[nWj hx];unfold uQ;rw[if_pos h]
theorem n6l{l:List Ch}{x:Ch}(hx:l[j]? =some x)(h:¬x.kind=2):dn ns (l.take (j+1))=mg (dn ns (l.take j)) x.dev x.pub:=by rw[nWj hx];unfold uQ;rw[if_neg h]
theorem Xv(l:List Ch):∀ns:List Nd,(dn ns l).length<=ns.length+l.length:=by
 induction l with
 |nil=>intro ns;simp[dn]
 |cons x l ih=>
  intro ns;have h1:=ih (uQ ns x);have h2:(uQ ns x).length<=ns.length+1:=by
   unfold uQ;split
   ·have:=AZ ns x.dev;omega
   exact Ba _ _ _
  simp only[dn,List.foldl_cons,ec]at *;omega
theorem nlp(ns:List Nd)(l:List Ch)(j:Nat)(hj:j<=l.length):(dn ns (l.take j)).length<=ns.length+l.length:=by
 have:=Xv (l.take j) ns;rw[kx]at this;omega
theorem Bb(ns:List Nd)(l:List Ch)(j:Nat)(h:¬j<l.length):dn ns (l.take j)=dn ns l:=by rw[jo zM]
theorem ah.to{α:Type}{enc:α->Array Value}{n:Nat}{w:World}{xs:List α}(h:ah enc n N w a xs)(hS:St Gh.no L H W)(hw:w∈L)(hN:N<=w.heap.size)(ho:∀b off,a=some ⟨b,off,none⟩->xs=[]\/bE H b):ah enc n W.heap.size W a xs:=by
 by_cases h0:xs=[]
 ·exact .inl h0
 exact h.blk λb off e hb=>⟨by have:=(hS.links w hw).size;omega,(hS.links w hw).block b zM (λhx=>hx.elim id ((ho b off e).resolve_left h0).mem)⟩
abbrev SS {α:Type} (N:Nat) (w:World) (enc:α->Array Value) (n:Nat) (xs:List α) (v:Value->Value):Ending->World->Prop:=cu w (λq:Option Addr×Nat=>v (.slice q.1 xs.length q.2)) (λq w'=>ah enc n w'.heap.size w' q.1 xs/\∀b off,q.1=some ⟨b,off,none⟩->xs=[]\/b<N\/w.heap.size<=b)
theorem ah.lt{α:Type}{enc:α->Array Value}{n:Nat}{w:World}{xs:List α}(h:ah enc n N w a xs){off:Nat}(e:a=some ⟨b,off,none⟩):xs=[]\/b<N:=by
 rcases h with h|⟨b',off',cs,t,fr,h1,h2,_⟩
 ·exact .inl h
 rw[h1]at e;cases e;exact .inr h2
theorem nvd(G:Gv)(N:Nat)(w:World)(hN:N<=w.heap.size)(hG:aM N w G)(l:List Ch)(ck:l.length<=1000000)(a:Option Addr)(cp:Nat)(aN:ah eR 5 N w a l)(uq:l.length<=64)(PB:∀x∈l,dV x.dev):Calls prog 155 #[.agg (aZ G),.slice a l.length cp] w (SS N w gf 2 (dn G.g.ns l) (λs=>.agg #[s])):=by
 have O7:=hG.nn;refine enter (vs:=[_,_]) func155 rfl ntmps155 rfl ?_;refine B 2 ?_;refine yX ?_;intro b2 w2 aI aE dY cA db;refine xd ?_;refine yW ?_;intro b4 dD dH;refine B 5 ?_;refine rr (.agg #[.slice G.na G.g.ns.length G.nc]) (ag isAgg55 sizeOf55 rfl A0 aI aE zL (aT rfl)) ?_;refine xd ?_;refine yW ?_;intro b5 iu iv;refine Sx ?_;refine B 11 ?_;refine CJ.loop (α:=(Option Addr×Nat)×World×Nat) (λp=>[(4,ptr b4 0),(5,ptr b5 0),(10,.slice a l.length cp),(11,.int .i64 (l.length:Int)),(12,.int .i64 (p.2.2:Int))]) (λp=>[(b5,.cells #[.slice p.1.1 (dn G.g.ns (l.take p.2.2)).length p.1.2] 55 (0,0)),(b4,.cells #[.slice none 0 0] 55 (0,0))]) (λp=>[p.2.1,w]) (λp=>Gh.no) (λp=>p.2.2<=l.length/\w.heap.size<=p.2.1.heap.size/\ah gf 2 p.2.1.heap.size p.2.1 p.1.1 (dn G.g.ns (l.take p.2.2))/\∀b off,p.1.1=some ⟨b,off,none⟩->dn G.g.ns (l.take p.2.2)=[]\/(b≠b5/\b≠b4/\(b<N\/w.heap.size<=b))) (λp=>l.length-p.2.2) ((G.na,G.nc),w,0) ⟨dx _,ao _,hG.ns.up hN R2,λb off e=>by rcases hG.ns.lt e with h|h;(exact .inl h);exact .inr zM⟩ zR rfl rfl z1 ?_;rintro⟨⟨ta,tc⟩,wk,j⟩ ⟨hj,hwk,bS,er⟩;dsimp only at hj hwk bS er ⊢;refine B 6 ?_;refine aO ?_ ?_
 ·intro aj;refine B 5 ?_;obtain⟨bo,oo,cs0,to,fA,rfl,fG,hcs,ar⟩:=aN.get zM;obtain⟨x,hx⟩:=nj l j zM;have hd:=PB x (cB hx);have mh:=nlp G.g.ns l j zM;refine B 2 ?_;refine rq (.agg (eR x)) (ag isAgg233 sizeOf233 rfl A1 hcs zZ jS (nl ar hx rfl)) (va (nq ar hx rfl)) ?_;refine LY ?_;refine yW ?_;intro b7 fu lG;refine LZ ?_;refine B 9 ?_;refine aO ?_ ?_
  ·intro aQ;refine B 4 ?_;refine OJ.dropAt (i:=0) rfl zX ?_;refine xe (enc:=fw) (m:=2) (t:=355) (xs:=me (dn G.g.ns (l.take j)) x.dev) (v:=λs=>.tuple #[.agg #[s],.int .i64 (sE (dn G.g.ns (l.take j)) x.dev)]) (first:=[]) (cap:=[]) rfl call221 rfl rfl rfl Si (λW hS=>nBj (dn G.g.ns (l.take j)) zM W.heap.size ta tc W (ao _) (bS.to hS A0 (ao _) (λb off e=>by rcases er b off e with h9|h9;(exact .inl h9);rcases bS.lt e with h8|h8;(exact .inl h8);refine .inr ?_;simp only[bE,dC,fk,qx,and_true];omega)) x.dev hd) ?_;intro W9 a9 cp9 wk9 lI vN lp Bc;have hU9:=lI.under;simp only[xS,dC,fk,qx,and_true]at hU9;have mF:=vN.size;have Zu:=(lI.links w A1).size;refine B 3 ?_;refine Sx ?_;refine B 7 ?_;refine PJ.again ((a9,cp9),wk9,j+1) ⟨by dsimp only;omega,by dsimp only;omega,by dsimp only;rw[nQk hx gM];exact lp,λb off e=>by have:=Bc _ e;dsimp only at this;exact .inr zM⟩ dE zR (by rw[nQk hx gM];rfl) rfl z1
  intro aQ;refine B 6 ?_;refine OJ.dropAt (i:=0) rfl zX ?_;refine xe (enc:=fw) (m:=2) (t:=355) (xs:=mg (dn G.g.ns (l.take j)) x.dev x.pub) (v:=λs=>.tuple #[.agg #[s],.int .i64 (sF (dn G.g.ns (l.take j)) x.dev x.pub)]) (first:=[]) (cap:=[]) rfl call222 rfl rfl rfl Si (λW hS=>nLm (dn G.g.ns (l.take j)) zM W.heap.size ta tc W (ao _) (bS.to hS A0 (ao _) (λb off e=>by rcases er b off e with h9|h9;(exact .inl h9);rcases bS.lt e with h8|h8;(exact .inl h8);refine .inr ?_;simp only[bE,dC,fk,qx,and_true];omega)) x.dev x.pub hd zM) ?_;intro W9 a9 cp9 wk9 lI vN lp Bc;have hU9:=lI.under;simp only[xS,dC,fk,qx,and_true]at hU9;have mF:=vN.size;have Zu:=(lI.links w A1).size;refine B 3 ?_;refine Sx ?_;refine B 7 ?_;refine PJ.again ((a9,cp9),wk9,j+1) ⟨by dsimp only;omega,by dsimp only;omega,by dsimp only;rw[n6l hx gM];exact lp,λb off e=>by have:=Bc _ e;dsimp only at this;exact .inr zM⟩ dE zR (by rw[n6l hx gM];rfl) rfl z1
 intro aj;refine B 6 ?_;rw[Bb _ _ _ zM]at bS er ⊢;refine B 2 ?_;refine aV (i:=1) rfl sizeOf55 rfl rfl rfl rfl rfl rfl ?_;refine B 3 ?_;exact bJ (.inl rfl) results155 (RS.wA (i:=1) rfl isAgg55 sizeOf55 rfl (aT rfl) RS.n) λW hS=>⟨(ta,tc),rfl,hS.base A1 zP,bS.to hS A0 (ao _) (λb off e=>by rcases er b off e with h9|h9;(exact .inl h9);exact .inr jS),λb off e=>(er b off e).imp id (λh=>h.2.2)⟩
noncomputable def mG (ns:List Nd) (au:Int) (i:Nat):List (Int×Int):=(List.range i).flatMap λ(t:Nat)=>(lX ns (((iR au)[t]?).getD 0)).map λn=>((t:Int)+1,n)
noncomputable def jV (ns:List Nd) (au:Int):List (Int×Int):=mG ns au 9
theorem nem(ns:List Nd)(au:Int){s:Int}(hs:(iR au)[i]? =some s):mG ns au (i+1)=mG ns au i++(lX ns s).map λn=>((i:Int)+1,n):=by simp[mG,List.range_succ,hs]
theorem nIl(ns:List Nd)(au:Int)(i:Nat):∀k,mG ns au i <+:mG ns au (i+k)
 |0=>List.prefix_refl _
 |k+1=>(nIl ns au i k).trans (by
  have:mG ns au (i+(k+1))=mG ns au (i+k)++(lX ns (((iR au)[i+k]?).getD 0)).map λn=>(((i+k:Nat):Int)+1,n):=by rw[<-Nat.add_assoc];simp[mG,List.range_succ]
  rw[this];exact List.prefix_append _ _)
theorem Gx{s:Int}(hs:(iR au)[i]? =some s)(hi:i<9){p:List (Int×Int)}(h:p <+:(lX ns s).map λn=>((i:Int)+1,n)):mG ns au i++p <+:jV ns au:=by
 have h1:mG ns au i++p <+:mG ns au (i+1):=by rw[nem ns au hs];exact(List.prefix_append_right_inj _).2 h
 refine h1.trans ?_;have h2:=nIl ns au (i+1) (8-i);rw[show i+1+(8-i)=9 by omega]at h2;exact h2
theorem ntn(ns:List Nd)(au:Int):∀i,(mG ns au i).length<=1024*i
 |0=>by simp[mG]
 |i+1=>by
  have h1:=ntn ns au i;have h2:=nTj ns (((iR au)[i]?).getD 0);have:mG ns au (i+1)=mG ns au i++(lX ns (((iR au)[i]?).getD 0)).map λn=>((i:Int)+1,n):=by simp[mG,List.range_succ]
  rw[this,cC,fy];omega
theorem Bd(ns:List Nd)(au:Int):(jV ns au).length<=9216:=ntn ns au 9
noncomputable def D4 (ns:List Nd) (i:Nat) (s:Int) (j:Nat):List (Int×Int):=((lX ns s).take j).map λn=>((i:Int)+1,n)
theorem Be(ns:List Nd)(i:Nat)(s:Int):D4 ns i s 0=[]:=rfl
theorem nWk{s:Int}{n:Int}(h:(lX ns s)[j]? =some n):D4 ns i s (j+1)=D4 ns i s j++[((i:Int)+1,n)]:=by unfold D4;rw[nC h];simp
theorem Gy(ns:List Nd)(i:Nat)(s:Int)(h:¬j<(lX ns s).length):D4 ns i s j=(lX ns s).map λn=>((i:Int)+1,n):=by unfold D4;rw[jo zM]
theorem GA(ns:List Nd)(i:Nat)(s:Int)(j:Nat):D4 ns i s j <+:(lX ns s).map λn=>((i:Int)+1,n):=(List.take_prefix _ _).map _
def Bf (p:Int×Int):List Value:=[.int .i64 p.1,.int .i64 p.2]
def SU (b1 b2:Nat) (ns:List Nd) (ta:Option Addr):aA:=λk=>k=b1\/k=b2\/(ns≠ []/\∃off,ta=some ⟨k,off,none⟩)
theorem ah.toG{α:Type}{enc:α->Array Value}{n:Nat}{w:World}{xs:List α}(h:ah enc n N w a xs)(hS:St G L H W)(hw:w∈L)(hN:N<=w.heap.size)(ho:∀b off,a=some ⟨b,off,none⟩->xs=[]\/(b<N->¬G.X b/\bE H b)):ah enc n W.heap.size W a xs:=by
 by_cases h0:xs=[]
 ·exact .inl h0
 exact h.blk λb off e hb=>⟨by have:=(hS.links w hw).size;omega,(hS.links w hw).block b zM (λhx=>hx.elim ((ho b off e).resolve_left h0 hb).1 ((ho b off e).resolve_left h0 hb).2.mem)⟩
theorem nDm(ns:List Nd)(hn:ns.length<=100000)(au:Int)(pL:dV au)(b1 b2:Nat)(NT:Nat)(ta:Option Addr)(tc:Nat)(W:World)(hNW:NT<=W.heap.size)(bS:ah gf 2 NT W ta ns)(aP:W.heap[b1]? =some (.cells #[.int .i64 au] 3 (0,0)))(aI:W.heap[b2]? =some (.cells #[.slice ta ns.length tc] 55 (0,0))):vz prog 255 [ptr b1 0,ptr b2 0] Bf (yn (jV ns au)) (Is (jV ns au)) (λ_=>False) (SU b1 b2 ns ta) W:=by
 intro l M I X0 hM hI hX hy h0;have aX:¬(cj hM (λ_=>False) (hI [] _)).X b1:=by rintro(h|h);exact(hM _ h).2.2 (.inl rfl);exact h.elim
 have aE:¬(cj hM (λ_=>False) (hI [] _)).X b2:=by rintro(h|h);exact(hM _ h).2.2 (.inr (.inl rfl));exact h.elim
 have mB:=(aL.1 aP).1;have xj:=(aL.1 aI).1;have mj:=nZo pL;refine nM (cj hM (λ_=>False) (hI [] _)) [] (vs:=[_,_,_]) func255 rfl ntmps255 rfl (I6 hM (hI [] _) h0 z1 Jg z1) ?_;refine B 3 ?_;refine xe (enc:=ai) (m:=1) (t:=3) (xs:=iR au) (v:=λs=>.tuple #[s,.int .i64 0]) (first:=[]) (cap:=[]) rfl call256 rfl rfl rfl nu (λW hS=>nfl au pL W) ?_;intro Wq aq cpq wq Xw hBq kE SV;have SX:=Xw.sizes;replace SX:=yb SX;have hzq:=hBq.size;have SY:=Xw.under;replace SY:=yg SY;refine B 15 ?_;refine CJ.loop (α:=Nat×aA) (λp=>[(0,yv l),(1,ptr b1 0),(2,ptr b2 0),(17,.slice aq (iR au).length cpq),(18,.int .i64 ((iR au).length:Int)),(19,.int .i64 (p.1:Int))]) (λp=>[]) (λp=>[wq,W]) (λp=>cj hM p.2 (hI (mG ns au p.1) p.2)) (λp=>p.1<=9/\∀k,p.2 k->wq.heap.size<=k) (λp=>9-p.1) (0,λ_=>False) ⟨dx _,λ_ h=>h.elim⟩ zR rfl rfl z1 ?_;rintro⟨i,V⟩ ⟨hi,hV⟩;dsimp only at hi hV ⊢;have ahx:W.heap.size<=wq.heap.size:=by omega
 clear aX aE;have aX:¬(cj hM V (hI (mG ns au i) V)).X b1:=by rintro(h|h);(exact(hM _ h).2.2 (.inl rfl));(have:=hV _ h;omega)
 have aE:¬(cj hM V (hI (mG ns au i) V)).X b2:=by rintro(h|h);(exact(hM _ h).2.2 (.inr (.inl rfl)));(have:=hV _ h;omega)
 refine B 6 ?_;refine aO ?_ ?_
 ·intro aj;refine B 5 ?_;obtain⟨bq,oq,Xb,tq,Xc,rfl,Xd,sx,sy⟩:=kE.get zM;obtain⟨sb,O1⟩:=nj (iR au) i zM;have acz:=SV _ rfl;dsimp only at acz;refine B 3 ?_;refine rv rfl rfl rfl (aa (v:=.int .i64 sb) isAgg3 rfl A0 sx (λhx=>by rcases hx with hx|hx;(have:=(hM _ hx).1;omega);(have:=hV _ hx;omega)) trivial (by have:=nR (enc:=λx=>(ai x).toArray) (n:=1) sy O1 rfl zQ;simpa[ai]using this)) ?_;refine B 6 ?_;refine rr (.agg #[.slice ta ns.length tc]) (ag isAgg55 sizeOf55 rfl A1 aI aE trivial (aT rfl)) ?_;refine B 1 ?_;refine xe (enc:=ai) (m:=1) (t:=3) (xs:=lX ns sb) (v:=λs=>.tuple #[s,.int .i64 (Ji ns sb)]) (first:=[]) (cap:=[]) rfl call257 rfl rfl rfl nu (λW2 hS=>nIg ns hn W2.heap.size ta tc W2 (ao _) (bS.toG hS A1 hNW (λb off e=>by by_cases h0:ns=[];(exact .inl h0);exact .inr (λhb=>⟨λhx=>by rcases hx with hx|hx;(exact(hM _ hx).2.2 (.inr (.inr ⟨h0,off,e⟩)));(have:=hV _ hx;omega),trivial⟩))) sb) ?_;intro Wr a8 Je wr pg L1 qI xi;have mh:=nTj ns sb;have mH:=L1.size;have ahy:=(pg.links wq A0).size;have hVr:∀j,V j->j<Wr.heap.size:=λj hj=>pg.xlt j (.inr hj);refine B 15 ?_;refine CJ.loop (α:=Nat×aA) (λp=>[(0,yv l),(1,ptr b1 0),(2,ptr b2 0),(6,.int .i64 (i:Int)),(17,.slice (some ⟨bq,oq,none⟩) (iR au).length cpq),(18,.int .i64 ((iR au).length:Int)),(19,.int .i64 (i:Int)),(30,.slice a8 (lX ns sb).length Je),(31,.int .i64 ((lX ns sb).length:Int)),(32,.int .i64 (p.1:Int))]) (λp=>[]) (λp=>[wr,wq,W]) (λp=>cj hM p.2 (hI (mG ns au i++D4 ns i sb p.1) p.2)) (λp=>p.1<=(lX ns sb).length/\∀k,p.2 k->V k\/wr.heap.size<=k) (λp=>(lX ns sb).length-p.1) (0,V) ⟨dx _,λ_ h=>.inl h⟩ zR rfl (by rw[Be,dN]) z1 ?_
  rintro⟨j,V1⟩ ⟨hj,sj⟩;dsimp only at hj sj ⊢;have SZ:∀k,V1 k->W.heap.size<=k:=λk hk=>by rcases sj k hk with h|h;(have:=hV k h;omega);omega
  refine B 6 ?_;refine aO ?_ ?_
  ·intro aQ;refine B 5 ?_;obtain⟨bn,on,csn,tn,IP,rfl,kN,acA,acB⟩:=qI.get zM;obtain⟨n,vl⟩:=nj (lX ns sb) j zM;have acC:=xi _ rfl;dsimp only at acC;refine B 2 ?_;refine rv rfl rfl rfl (aa (v:=.int .i64 n) isAgg3 rfl A0 acA (λhx=>by rcases hx with hx|hx;(have:=(hM _ hx).1;omega);(rcases sj _ hx with h|h;(have:=hVr _ h;omega);omega)) trivial (by have:=nR (enc:=λx=>(ai x).toArray) (n:=1) acB vl rfl zQ;simpa[ai]using this)) ?_;refine B 9 ?_;refine LN (λ_=>False) id L2 (V:=V1) (λV=>hI ((mG ns au i++D4 ns i sb j)++[((i:Int)+1,n)]) V) hX SZ rfl rfl rfl rfl (λW1 S0 kP=>hy (mG ns au i++D4 ns i sb j) ((i:Int)+1,n) V1 W1 (by rw[iH,<-nWk vl];exact Gx O1 zM (GA ns i sb (j+1))) S0 kP) ?_ ?_
   ·intro V2 vM qL;have L3:=qL wr A0;refine B 11 ?_;refine PJ.again (j+1,V2) ⟨by dsimp only;omega,λk hk=>by rcases L3 k hk with h|h;(exact sj k h);exact .inr h⟩ dE zR rfl (by rw[nWk vl,<-iH];rfl) z1
   intro V2 vM qL;have L3:=qL wr A0;refine B 13 ?_;exact FO (.inl rfl) results255 A2 (λk hk=>by rcases L3 k hk with h|h;(exact SZ k h);omega) (by intro k hk hx;simp at hx) (λA hA=>.inr hA)
  intro aQ;refine B 10 ?_;refine PJ.again (i+1,V1) ⟨by dsimp only;omega,λk hk=>by rcases sj k hk with h|h;(exact hV k h);omega⟩ dE zR rfl (by rw[nem ns au O1,Gy ns i sb zM]) z1
 intro aj;refine B 4 ?_;exact FO (.inr rfl) results255 A1 (λk hk=>by have:=hV k hk;omega) (by intro k hk hx;simp at hx) (λA hA=>.inl ⟨mG ns au i,by unfold jV;rw[show i=9 by omega],hA⟩)
def sG (p:Int×Int):List Value:=[.int .i64 p.2,.int .i64 p.1,.int .i64 0,.slice none 0 0]
def L4 (p:Int×Int):Array Value:=#[.int .i64 p.2,.int .i64 p.1,.int .i64 0,.slice none 0 0]
theorem Xx(p:Int×Int):(sG p).length=4:=rfl
theorem GB(p:Int×Int):∀u∈sG p,u.oneCell'=true:=by intro u hu;simp[sG]at hu;rcases hu with rfl|rfl|rfl|rfl<;>rfl
theorem GC:prog.info? 164=some Tryz.t164:=by kernel_rfl
theorem S1:lT prog 96 164 4:=⟨underlying96,Tryz.t164,.agg #[.int .i64 0,.int .i64 0,.int .i64 0,.slice none 0 0],GC,rfl,rfl,rfl,by decide⟩
noncomputable def Bg (g:Gp) (au:Int) (l:List Ch):Bool:=jw l&&pf g au l
noncomputable def gG (g:Gp) (au:Int) (l:List Ch):List (Int×Int):=if eH g=true/\Bg g au l=true then jV (dn g.ns l) au else[]
noncomputable def gq (g:Gp) (au:Int) (l:List Ch):Int:=if eH g=true then(if Bg g au l=true then 0 else 221)else 1
theorem nvl{l:List Ch}(h:jw l=true):(∀x∈l,dV x.dev)/\l.length<=64:=⟨λx hx=>by obtain⟨i,hi⟩:=iQ.1 hx;exact((SP.1 h).1 i x (nF hi) hi).1.2,(SP.1 h).2⟩
theorem nDj(ta:Option Addr)(n tc:Nat)(au:Int)(w:World):Calls prog 211 #[.agg #[.slice ta n tc],.int .i64 au] w (cu w (λq:Nat×Nat=>.func (.func 255) #[] #[ptr q.1 0,ptr q.2 0]) (λq w1=>w.heap.size<=q.1/\w.heap.size<=q.2/\w1.heap[q.1]? =some (.cells #[.int .i64 au] 3 (0,0))/\w1.heap[q.2]? =some (.cells #[.slice ta n tc] 55 (0,0)))):=by
 refine enter (vs:=[_,_]) func211 rfl ntmps211 rfl ?_;refine B 2 ?_;refine yX ?_;intro b2 w2 aI aE dY cA db;refine yX ?_;intro b3 w3 aJ aD dr bY cR;refine B 10 ?_;refine jM (b3,b2) results211 rfl A2 rfl ?_;exact λW hS=>⟨by have:=bY.2.1;omega,by have:=cA.1;omega,hS.old A0 aJ aD trivial,hS.old A1 aI aE trivial⟩
theorem nmo(G:Gv)(N:Nat)(w:World)(hN:N<=w.heap.size)(hG:aM N w G)(l:List Ch)(ck:l.length<=1000000)(a:Option Addr)(cp:Nat)(aN:ah eR 5 N w a l)(au:Int)(hv:eH G.g=false):Calls prog 146 #[.agg (aZ G),.int .i64 au,.slice a l.length cp] w (nB w sG 4 164 [] (λs=>.tuple #[s,.int .i64 1])):=by
 refine zai ?_;refine B 2 ?_;refine yX ?_;intro b3 w3 aJ aD dr bY cR;refine aY zeroValue96 rfl rfl ?_;refine yW ?_;intro b6 gm kg;refine B 6 ?_;refine L5 ?_;refine call call144 rfl rfl rfl (λW hS=>by rw[<-hv];exact nV G N W (aS hN (hS.links w A1).size) (hG.up (ao _) (hS.same A1 hN zU zP))) (v:=.bool false) ?_;refine Xy ?_;refine B 5 ?_;exact zwj
theorem nGm(G:Gv)(N:Nat)(w:World)(hN:N<=w.heap.size)(hG:aM N w G)(l:List Ch)(ck:l.length<=1000000)(a:Option Addr)(cp:Nat)(aN:ah eR 5 N w a l)(au:Int)(hv:eH G.g=true)(hf:jw l=false):Calls prog 146 #[.agg (aZ G),.int .i64 au,.slice a l.length cp] w (nB w sG 4 164 [] (λs=>.tuple #[s,.int .i64 221])):=by
 refine zai ?_;refine B 2 ?_;refine yX ?_;intro b3 w3 aJ aD dr bY cR;refine aY zeroValue96 rfl rfl ?_;refine yW ?_;intro b6 gm kg;refine B 6 ?_;refine L5 ?_;refine zKf ?_;refine S2 ?_;refine B 9 ?_;refine z9f ?_;refine rq (.bool true) (dP rfl) (by rw[hf];rfl) ?_;refine B 12 ?_;exact zwj
theorem nsm(G:Gv)(N:Nat)(w:World)(hN:N<=w.heap.size)(hG:aM N w G)(l:List Ch)(ck:l.length<=1000000)(a:Option Addr)(cp:Nat)(aN:ah eR 5 N w a l)(au:Int)(hv:eH G.g=true)(hf:jw l=true)(hp:pf G.g au l=false):Calls prog 146 #[.agg (aZ G),.int .i64 au,.slice a l.length cp] w (nB w sG 4 164 [] (λs=>.tuple #[s,.int .i64 221])):=by
 refine zai ?_;refine B 2 ?_;refine yX ?_;intro b3 w3 aJ aD dr bY cR;refine aY zeroValue96 rfl rfl ?_;refine yW ?_;intro b6 gm kg;refine B 6 ?_;refine zoi ?_;refine B 1 ?_;refine L5 ?_;refine B 2 ?_;refine zHg ?_;refine rq (.bool true) (dP rfl) (by rw[hp];rfl) ?_;refine B 6 ?_;exact zwj
theorem ndp(G:Gv)(N:Nat)(w:World)(hN:N<=w.heap.size)(hG:aM N w G)(l:List Ch)(ck:l.length<=1000000)(a:Option Addr)(cp:Nat)(aN:ah eR 5 N w a l)(au:Int)(pL:dV au)(hv:eH G.g=true)(hf:jw l=true)(hp:pf G.g au l=true):Calls prog 146 #[.agg (aZ G),.int .i64 au,.slice a l.length cp] w (nB w sG 4 164 (jV (dn G.g.ns l) au) (λs=>.tuple #[s,.int .i64 0])):=by
 obtain⟨PB,uq⟩:=nvl hf;have O7:=hG.nn;have mh:=Xv l G.g.ns;obtain⟨T,hT⟩:∃T,dn G.g.ns l=T:=⟨_,rfl⟩;rw[hT]at mh ⊢;have L6:=Bd T au;refine wy Gh.no [] (vs:=[_,_,_]) func146 rfl ntmps146 rfl (rR w) ?_;refine B 2 ?_;refine yX ?_;intro b3 w3 aJ aD dr bY cR;refine aY zeroValue96 rfl rfl ?_;refine yW ?_;intro b6 gm kg;refine B 6 ?_;refine zoi ?_;refine B 1 ?_;refine L5 ?_;refine B 2 ?_;refine zHg ?_;refine rq (.bool false) (dP rfl) (by rw[hp];rfl) ?_;refine B 9 ?_;refine L5 ?_;refine B 1 ?_;refine nr (α:=Option Addr×Nat) (v:=λq=>.agg #[.slice q.1 T.length q.2]) (Φ:=λW q w1=>ah gf 2 w1.heap.size w1 q.1 T/\∀b off,q.1=some ⟨b,off,none⟩->T=[]\/b<N\/W.heap.size<=b) call155 rfl rfl rfl (λW hS=>by rw[<-hT];exact nvd G N W (aS hN (hS.links w A1).size) (hG.up (ao _) (hS.same A1 hN zU zP)) l ck a cp (aN.up (ao _) (hS.same A1 hN zU zP)) uq PB) ?_;rintro Wr ⟨ta,tc⟩ wr pg L1 ⟨oL,eX⟩;dsimp only at oL eX ⊢;have hUr:=pg.under;replace hUr:=yg hUr;have mH:=L1.size;have ahz:=(pg.links w A1).size;refine B 1 ?_;refine nr (α:=Nat×Nat) (v:=λq:Nat×Nat=>.func (.func 255) #[] #[ptr q.1 0,ptr q.2 0]) (Φ:=λW q w1=>W.heap.size<=q.1/\W.heap.size<=q.2/\w1.heap[q.1]? =some (.cells #[.int .i64 au] 3 (0,0))/\w1.heap[q.2]? =some (.cells #[.slice ta T.length tc] 55 (0,0))) call211 rfl rfl rfl (λW hS=>nDj ta _ tc au W) ?_
 rintro Wn q wn hJ od ⟨gX,gY,eO,eY⟩;try dsimp only at gX gY eO eY
 have qJ:=(aL.1 eO).1;have qK:=(aL.1 eY).1;have Bh:=od.size;have ahA:=(hJ.links wr A0).size;have pR:=hJ.under;replace pR:=yg pR;have hOt:∀b off,ta=some ⟨b,off,none⟩->T=[]\/b≠b6:=λb off e=>by rcases eX b off e with h|h|h;(exact .inl h);(exact .inr zM);(exact .inr zM)
 refine B 3 ?_;refine CJ.range2 (f:=255) (cap:=[ptr q.1 0,ptr q.2 0]) (α:=Int×Int) (enc:=Bf) (Pre:=yn (jV T au)) (Fin:=Is (jV T au)) (RO:=SU q.1 q.2 T ta) (MI:=λ_=>False) rfl call255 (λW' W2 hS hB=>by have mB:=(hS.links wn A0).size;have xj:=(hS.links wr A1).size;exact nDm T zM au pL q.1 q.2 W'.heap.size ta tc W2 hB.size ((oL.toG hS A1 (ao _) (λb off e=>(hOt b off e).imp id (λh _=>⟨λhx=>hx,by simp only[bE,and_true];omega⟩))).up (ao _) (λk hk=>hB.block k hk)) PC PD) (λ_ _ _ hk=>hk.elim) (λW' hS k hk=>by have mB:=(hS.links wn A0).size;have xj:=(hS.links wr A1).size;simp only[eF,iz,cP,fm,or_false];rcases hk with rfl|rfl|⟨h0,off,e⟩;(exact⟨by omega,by omega,λh=>h⟩);(exact⟨by omega,by omega,λh=>h⟩);exact⟨by have:=(oL.lt e).resolve_left h0;omega,(hOt _ off e).resolve_left h0,λh=>h⟩) (λ_=>rfl) (λpre G' Hc=>G'=Gh.no/\∃r:Rw,r.Fr Gh.no [wn,wr,w3,w]/\r.Fit 4 pre/\Hc=[(b6,.cells #[r.val pre.length] 96 (0,0))]++(r.hp sG 164 pre++[])) (λ_ _ _=>False) ⟨rfl,.nil,True.intro,rfl,rfl⟩ zQ ?_ ?_ ?_
 ·rintro pre x G' Hc l Dk rec W1 M V Wy iM mz dF ⟨rfl,r,bH,al,rfl⟩ cQ eW yP mQ aW sk;simp only[ab]at cQ mQ;have cO:r.ge wn.heap.size:=Rw.ge_of bH A0;have hpl:=dF.length_le;simp only[cC,ec,lF]at hpl;have Se:∀p∈r.hp sG 164 pre,M p.1\/V p.1:=λp hp=>aW.loc.h p Sf;refine B 8 ?_;refine L7 iM ?_;refine B 5 ?_;refine rr (.agg #[.int .i64 x.2,.int .i64 x.1,.int .i64 0,.slice none 0 0]) (bL underlying164 zeroValue164 (bA.c sizeOf3 (bA.c sizeOf3 (bA.c sizeOf162 (bA.n)))) rfl rfl) ?_;refine lj underlying96 sizeOf164 zeroValue164 rfl rfl rfl rfl rfl rfl rfl ?_;refine yW ?_;intro b34 ahB ahC;refine o8 (r:=r) (xs:=pre) (zs:=[x]) (enc:=sG) (m:=4) (H0:=[(b34,.cells #[.int .i64 x.2,.int .i64 x.1,.int .i64 0,.slice none 0 0] 164 (0,0)),(b6,.cells #[r.val pre.length] 96 (0,0))]) (H1:=(l,.loop {rec with state:=.busy})::bQ Dk) wU S1 Xx rfl rfl rfl rfl (dy.one (z:=x) Xx GB underlying96 (bN.own (i:=0) rfl)) al (Rw.Fr_ext Se) z1 FX ?_;intro b35 L8 L9 GD Ma;replace GD:=yb GD;refine aV (i:=1) rfl sizeOf96 rfl rfl rfl rfl rfl rfl ?_;refine B 2 ?_;refine mD ?_;refine Aj (G2:=Gh.no) (Hc2:=[(b6,.cells #[(Rw.row b35 L8 L9).val (pre++[x]).length] 96 (0,0))]++((Rw.row b35 L8 L9).hp sG 164 (pre++[x])++[])) aW eW ⟨λ_ h=>h,λ_ h=>.inl h,λ_ h=>.inl h,(WY rfl (GD.imp id (λh=>h.1))),zae⟩ (Ak iM mz) ?_
  exact⟨rfl,.row b35 L8 L9,GD.elim (λh=>Rw.Fr_at bH h) (λh=>.inr h.2),Ma,rfl⟩
 ·rintro gV l Dk rec G' Hc rfl cQ eW ⟨rfl,r,bH,al,rfl⟩;replace cQ:=yb cQ;have cO:r.ge wn.heap.size:=Rw.ge_of bH A0;refine Pr λWd pH=>?_;have kN:=Lp pH;refine B 5 ?_;refine aV (i:=0) rfl sizeOf96 rfl rfl rfl (Rw.val_size _ _) rfl (Rw.val_one _ _) ?_;refine B 4 ?_;have hq:=λ(k:Nat)=>Rw.mem_ge (enc:=sG) (t:=164) (xs:=jV T au) (k:=k) cO;refine PJ.reH (H':=(b6,.cells #[r.val (jV T au).length] 96 (0,0))::(r.hp sG 164 (jV T au)++(l,.loop rec)::bQ Dk)) (by simp[book,Rw.val_cells]) ?_;refine Al (b:=b6) (r:=r) (xs:=jV T au) (.inl rfl) results146 isAgg96 rfl rfl z1 A0 (kN _ A0).1 rfl al (λp hp=>⟨.tail _ (cS.2 (.inl hp)),(kN p (cS.2 (.inr (cS.2 (.inl hp))))).1⟩) (Rw.ge_of bH A3) (λW H' hS bF=>(hS.links w A3).below λk hk hx=>?_);exact zLj
 exact Sg
theorem nSb(G:Gv)(N:Nat)(w:World)(hN:N<=w.heap.size)(hG:aM N w G)(l:List Ch)(ck:l.length<=1000000)(a:Option Addr)(cp:Nat)(aN:ah eR 5 N w a l)(au:Int)(pL:dV au):Calls prog 146 #[.agg (aZ G),.int .i64 au,.slice a l.length cp] w (nB w sG 4 164 (gG G.g au l) (λs=>.tuple #[s,.int .i64 (gq G.g au l)])):=by
 cases hv:eH G.g with
 |false=>rw[show gG G.g au l=[] by simp[gG,hv],show gq G.g au l=1 by simp[gq,hv]];exact nmo G N w hN hG l ck a cp aN au hv
 |true=>cases hf:jw l with
  |false=>rw[show gG G.g au l=[] by simp[gG,Bg,hf],show gq G.g au l=221 by simp[gq,Bg,hv,hf]];exact nGm G N w hN hG l ck a cp aN au hv hf
  |true=>cases hp:pf G.g au l with
   |false=>rw[show gG G.g au l=[] by simp[gG,Bg,hp],show gq G.g au l=221 by simp[gq,Bg,hv,hp]];exact nsm G N w hN hG l ck a cp aN au hv hf hp
   |true=>rw[show gG G.g au l=jV (dn G.g.ns l) au by simp[gG,Bg,hv,hf,hp],show gq G.g au l=0 by simp[gq,Bg,hv,hf,hp]];exact ndp G N w hN hG l ck a cp aN au pL hv hf hp
structure Bi where
 u:Int
 ba:Option Addr
 bc:Nat
 body:List UInt8
def wrA (x:Bi):Array Value:=#[.int .i64 x.u,.slice x.ba x.body.length x.bc]
structure Bx where
 node:Int
 level:Int
 w:Bi
def tC (x:Bx):Array Value:=#[.int .i64 x.node,.int .i64 x.level,.int .i64 x.w.u,.slice x.w.ba x.w.body.length x.w.bc]
structure We where
 dev:Int
 w:Bi
def sH (x:We):Array Value:=#[.int .i64 x.dev,.int .i64 x.w.u,.slice x.w.ba x.w.body.length x.w.bc]
structure Cm where
 folder:Int
 epoch:Int
 par:Nat->Int
 author:Int
 chs:List Ch
 ca:Option Addr
 cc:Nat
 path:List Int
 pa:Option Addr
 pc:Nat
 bxs:List Bx
 ba:Option Addr
 bc:Nat
 wes:List We
 wa:Option Addr
 wc:Nat
 conf:Nat->Int
 sr:Int
 ss:Int
def dZ (c:Cm):Array Value:=#[.int .i64 c.folder,.int .i64 c.epoch,.int .u8 (c.par 0),.int .u8 (c.par 1),.int .u8 (c.par 2),.int .u8 (c.par 3),.int .u8 (c.par 4),.int .u8 (c.par 5),.int .u8 (c.par 6),.int .u8 (c.par 7),.int .u8 (c.par 8),.int .u8 (c.par 9),.int .u8 (c.par 10),.int .u8 (c.par 11),.int .u8 (c.par 12),.int .u8 (c.par 13),.int .u8 (c.par 14),.int .u8 (c.par 15),.int .u8 (c.par 16),.int .u8 (c.par 17),.int .u8 (c.par 18),.int .u8 (c.par 19),.int .u8 (c.par 20),.int .u8 (c.par 21),.int .u8 (c.par 22),.int .u8 (c.par 23),.int .u8 (c.par 24),.int .u8 (c.par 25),.int .u8 (c.par 26),.int .u8 (c.par 27),.int .u8 (c.par 28),.int .u8 (c.par 29),.int .u8 (c.par 30),.int .u8 (c.par 31),.int .i64 c.author,.slice c.ca c.chs.length c.cc,.slice c.pa c.path.length c.pc,.slice c.ba c.bxs.length c.bc,.slice c.wa c.wes.length c.wc,.int .u8 (c.conf 0),.int .u8 (c.conf 1),.int .u8 (c.conf 2),.int .u8 (c.conf 3),.int .u8 (c.conf 4),.int .u8 (c.conf 5),.int .u8 (c.conf 6),.int .u8 (c.conf 7),.int .u8 (c.conf 8),.int .u8 (c.conf 9),.int .u8 (c.conf 10),.int .u8 (c.conf 11),.int .u8 (c.conf 12),.int .u8 (c.conf 13),.int .u8 (c.conf 14),.int .u8 (c.conf 15),.int .u8 (c.conf 16),.int .u8 (c.conf 17),.int .u8 (c.conf 18),.int .u8 (c.conf 19),.int .u8 (c.conf 20),.int .u8 (c.conf 21),.int .u8 (c.conf 22),.int .u8 (c.conf 23),.int .u8 (c.conf 24),.int .u8 (c.conf 25),.int .u8 (c.conf 26),.int .u8 (c.conf 27),.int .u8 (c.conf 28),.int .u8 (c.conf 29),.int .u8 (c.conf 30),.int .u8 (c.conf 31),.int .i64 c.sr,.int .i64 c.ss]
def qN (N:Nat) (w:World) (x:Bi):Prop:=x.body=[]\/∃b off,x.ba=some ⟨b,off,none⟩/\b<N/\cG w b off x.body
theorem qN.up{w:World}{x:Bi}(h:qN N w x)(hN:N<=N')(hw:∀k,k<N->w'.heap[k]? =w.heap[k]?):qN N' w' x:=by
 exact zZk
structure dQ (N:Nat) (w:World) (c:Cm):Prop where
 chs:ah eR 5 N w c.ca c.chs
 path:ah encI 1 N w c.pa c.path
 bxs:ah tC 4 N w c.ba c.bxs
 wes:ah sH 3 N w c.wa c.wes
 bb:∀x∈c.bxs,qN N w x.w
 wb:∀x∈c.wes,qN N w x.w
structure pS (c:Cm):Prop where
 bp:jq c.par
 bf:jq c.conf
 chs:c.chs.length<=10
 path:c.path.length<=12
 bxs:c.bxs.length<=40
 wes:c.wes.length<=10
 bb:∀x∈c.bxs,x.w.body.length<=200
 wb:∀x∈c.wes,x.w.body.length<=200
theorem dQ.up{w:World}{c:Cm}(h:dQ N w c)(hN:N<=N')(hw:∀k,k<N->w'.heap[k]? =w.heap[k]?):dQ N' w' c:=⟨h.chs.up hN hw,h.path.up hN hw,h.bxs.up hN hw,h.wes.up hN hw,λx hx=>(h.bb x hx).up hN hw,λx hx=>(h.wb x hx).up hN hw⟩
def xq (x:Bi):Prop:=cE x.u/\16<=x.body.length/\x.body.length<=65552
open Classical in
noncomputable def Jq (x:Bi):Int:=if xq x then 0 else 90
theorem ny{x:Bi}:Jq x=0↔xq x:=by unfold Jq;split<;>simp_all
theorem S3{x:Bi}(h:¬xq x):Value.int .i64 90= .int .i64 (Jq x):=by unfold Jq;rw[if_neg h]
theorem nXi{x:Bi}(h:xq x):Value.int .i64 0= .int .i64 (Jq x):=by unfold Jq;rw[if_pos h]
def lJ {α:Type} (p:Nat->α->Prop) (xs:List α) (j:Nat):Prop:=∀i x,i<j->xs[i]? =some x->p i x
theorem lJ.next{α:Type}{p:Nat->α->Prop}{xs:List α}{x:α}(h:lJ p xs j)(hx:xs[j]? =some x)(hp:p j x):lJ p xs (j+1):=by
 exact z7k
theorem lJ.all{α:Type}{p:Nat->α->Prop}{xs:List α}(h:lJ p xs j)(hj:¬j<xs.length):∀i x,xs[i]? =some x->p i x:=λi x hx=>h i x (by have:=nF hx;omega) hx
def S4 (x:Bx):Prop:=(1<=x.node/\x.node<1024/\1<=x.level/\x.level<=9)/\xq x.w
def S5 (l:List We) (i:Nat) (x:We):Prop:=dV x.dev/\(∀y,0<i->l[i-1]? =some y->y.dev<x.dev)/\xq x.w
structure Xz (c:Cm):Prop where
 fo:AQ c.folder
 e1:1<=c.epoch
 e2:c.epoch<=1099511627776
 au:dV c.author
 ch:jw c.chs=true
 pl:c.path.length=10
 bl:c.bxs.length<=1024
 wl:c.wes.length<=512
 path:∀(i:Nat) x,c.path[i]? =some x->cE x
 box:∀(i:Nat) x,c.bxs[i]? =some x->S4 x
 wel:∀i x,c.wes[i]? =some x->S5 c.wes i x
open Classical in
noncomputable def qO (c:Cm):Int:=if Xz c then 0 else 220
theorem Mc{c:Cm}:qO c=0↔Xz c:=by unfold qO;split<;>simp_all
theorem GF(c:Cm):qO c=0\/qO c=220:=by unfold qO;split<;>simp
theorem nb{c:Cm}(h:¬Xz c):Value.int .i64 220= .int .i64 (qO c):=by unfold qO;rw[if_neg h]
theorem nob{c:Cm}(h:Xz c):Value.int .i64 0= .int .i64 (qO c):=by unfold qO;rw[if_pos h]
theorem nfg(x:Bi)(w:World):Calls prog 209 #[.agg (wrA x)] w (av w (.int .i64 (Jq x))):=by
 obtain⟨e,he⟩:∃e,(if cE x.u then(0:Int)else 40)=e:=⟨_,rfl⟩;have D2:=SK x.u;rw[he]at D2;refine enter (vs:=[_]) func209 rfl ntmps209 rfl ?_;refine B 2 ?_;refine yX ?_;intro b1 w1 aP aX fW eb ir;refine B 16 ?_;refine WT ?_;refine B 2 ?_;refine nh (t:=11) rfl (λaj=>?_) (λaj=>?_)
 ·replace aj:=ya aj;refine B 17 ?_;exact XA
 replace aj:=ya aj;refine B 4 ?_;refine nh (t:=15) rfl (λaQ=>?_) (λaQ=>?_)
 ·replace aQ:=ya aQ;refine B 13 ?_;exact XA
 replace aQ:=ya aQ;refine B 5 ?_;refine aO ?_ ?_
 ·intro cY;refine B 7 ?_;exact XA
 intro cY;refine B 8 ?_;exact XA
theorem nvb(c:Cm)(pT:pS c)(N:Nat)(w:World)(hN:N<=w.heap.size)(hC:dQ N w c):Calls prog 145 #[.agg (dZ c)] w (av w (.int .i64 (qO c))):=by
 have uw:=pT.chs;have wH:=pT.path;have KK:=pT.bxs;have PE:=pT.wes;have S6:=hC.chs;have qH:=hC.path;have Md:=hC.bxs;have Me:=hC.wes;refine enter (vs:=[_]) func145 rfl ntmps145 rfl ?_;refine B 2 ?_;refine yX ?_;intro b1 w1 aP aX fW eb ir;refine B 8 ?_;refine call call200 rfl rfl rfl (λW hS=>n2k _ W) ?_;refine B 2 ?_;refine nh (t:=13) rfl (λaj=>?_) (λaj=>?_)
 ·replace aj:=ya aj;refine B 49 ?_;exact D5
 replace aj:=ya aj;refine B 5 ?_;refine nh (t:=18) rfl (λaQ=>?_) (λaQ=>?_)
 ·replace aQ:=ya aQ;refine B 44 ?_;exact D5
 replace aQ:=ya aQ;refine B 5 ?_;refine nh (t:=23) rfl (λcY=>?_) (λcY=>?_)
 ·replace cY:=ya cY;refine B 39 ?_;exact D5
 replace cY:=ya cY;refine B 2 ?_;refine call call207 rfl rfl rfl (λW hS=>Xm _ W) ?_;refine B 3 ?_;refine nh (t:=29) rfl (λgb=>?_) (λgb=>?_)
 ·replace gb:=ya gb;refine B 33 ?_;exact D5
 replace gb:=ya gb;refine B 2 ?_;refine call call208 rfl rfl rfl (λW hS=>n1c c.chs zM N c.ca c.cc W (aS hN (hS.links w A1).size) (hC.chs.up (ao _) (hS.same A1 hN zU zP))) ?_;refine B 3 ?_;refine nh (t:=35) rfl (λgL=>?_) (λgL=>?_)
 ·replace gL:=ya gL;refine B 27 ?_;exact D5
 replace gL:=ya gL;refine B 6 ?_;refine nh (t:=41) rfl (λjL=>?_) (λjL=>?_)
 ·replace jL:=ya jL;refine B 21 ?_;exact D5
 replace jL:=ya jL;refine B 6 ?_;refine nh (t:=47) rfl (λjE=>?_) (λjE=>?_)
 ·replace jE:=ya jE;refine B 15 ?_;exact D5
 replace jE:=ya jE;refine B 7 ?_;refine aO ?_ ?_
 ·intro tT;refine B 7 ?_;exact D5
 intro tT;refine B 12 ?_;refine CJ.loop (α:=Nat) (λj=>[(1,ptr b1 0),(54,.slice c.pa c.path.length c.pc),(55,.int .i64 (c.path.length:Int)),(56,.int .i64 (j:Int))]) (λj=>[]) (λj=>[w1,w]) (λj=>Gh.no) (λj=>j<=c.path.length/\lJ (λ_ x=>cE x) c.path j) (λj=>c.path.length-j) 0 ⟨dx _,λi x hi=>absurd hi zM⟩ zR rfl rfl z1 ?_;rintro j ⟨hj,er⟩;refine B 6 ?_;refine aO ?_ ?_
 ·intro rn;refine B 5 ?_;obtain⟨bo,oo,cs0,to,fA,iV,fG,hcs,ar⟩:=qH.get zM;obtain⟨y,hy⟩:=nj c.path j zM;rw[iV];obtain⟨e,he⟩:∃e,(if cE y then(0:Int)else 40)=e:=⟨_,rfl⟩;have D2:=SK y;rw[he]at D2;refine B 2 ?_;refine rv rfl rfl rfl (aa (v:=.int .i64 y) isAgg3 rfl A1 hcs zZ trivial (by have:=nR ar hy rfl zQ;simpa[encI]using this)) ?_;refine B 6 ?_;refine WT ?_;refine B 3 ?_;refine aO ?_ ?_
  ·intro qh;refine B 11 ?_;exact D5
  intro qh;refine B 7 ?_;refine PJ.again (j+1) ⟨by omega,er.next hy (D2.1 zM)⟩ zM zR rfl rfl z1
 intro rn;refine B 15 ?_;have hA1:=er.all zM;refine CJ.loop (α:=Nat) (λj=>[(1,ptr b1 0),(65,.slice c.ba c.bxs.length c.bc),(66,.int .i64 (c.bxs.length:Int)),(67,.int .i64 (j:Int))]) (λj=>[]) (λj=>[w1,w]) (λj=>Gh.no) (λj=>j<=c.bxs.length/\lJ (λ_ x=>S4 x) c.bxs j) (λj=>c.bxs.length-j) 0 ⟨dx _,λi x hi=>absurd hi zM⟩ zR rfl rfl z1 ?_;rintro j ⟨hj,er⟩;refine B 6 ?_;refine aO ?_ ?_
 ·intro qi;refine B 5 ?_;obtain⟨bo,oo,cs0,to,fA,iV,fG,hcs,ar⟩:=Md.get zM;obtain⟨x,hx⟩:=nj c.bxs j zM;rw[iV];refine B 2 ?_;refine rq (.agg (tC x)) (ag isAgg164 sizeOf164 rfl A1 hcs zZ trivial (nl ar hx rfl)) (va (nq ar hx rfl)) ?_;refine aY zeroValue164 rfl rfl ?_;refine yW ?_;intro b6 gm kg;refine XB ?_;refine B 8 ?_;refine nh (t:=74) rfl (λkY=>?_) (λkY=>?_)
  ·replace kY:=ya kY;refine B 34 ?_;exact Mf
  replace kY:=ya kY;refine B 5 ?_;refine nh (t:=79) rfl (λkZ=>?_) (λkZ=>?_)
  ·replace kZ:=ya kZ;refine B 29 ?_;exact Mf
  replace kZ:=ya kZ;refine B 5 ?_;refine nh (t:=84) rfl (λtU=>?_) (λtU=>?_)
  ·replace tU:=ya tU;refine B 24 ?_;exact Mf
  replace tU:=ya tU;refine B 5 ?_;refine nh (t:=89) rfl (λtV=>?_) (λtV=>?_)
  ·replace tV:=ya tV;refine B 19 ?_;exact Mf
  replace tV:=ya tV;refine B 1 ?_;refine zng ?_;refine call call209 rfl rfl rfl (λW hS=>nfg x.w W) ?_;refine B 4 ?_;refine aO ?_ ?_
  ·intro yL;exact zol
  intro yL;refine wY ?_;refine PJ.again (j+1) ⟨by omega,er.next hx ⟨by omega,ny.1 zM⟩⟩ zM zR rfl rfl z1
 intro qi;refine B 15 ?_;have hA2:=er.all zM;refine CJ.loop (α:=Nat) (λj=>[(1,ptr b1 0),(97,.slice c.wa c.wes.length c.wc),(98,.int .i64 (c.wes.length:Int)),(99,.int .i64 (j:Int))]) (λj=>[]) (λj=>[w1,w]) (λj=>Gh.no) (λj=>j<=c.wes.length/\lJ (S5 c.wes) c.wes j) (λj=>c.wes.length-j) 0 ⟨dx _,λi x hi=>absurd hi zM⟩ zR rfl rfl z1 ?_;rintro j ⟨hj,er⟩;refine B 6 ?_;refine aO ?_ ?_
 ·intro acJ;refine B 5 ?_;obtain⟨bo,oo,cs0,to,fA,iV,fG,hcs,ar⟩:=Me.get zM;obtain⟨x,hx⟩:=nj c.wes j zM;rw[iV];refine B 3 ?_;refine rq (.agg (sH x)) (ag isAgg166 sizeOf166 rfl A1 hcs zZ trivial (nl ar hx rfl)) (va (nq ar hx rfl)) ?_;refine aY zeroValue166 rfl rfl ?_;refine yW ?_;intro b8 ua uc;refine B 1 ?_;refine zTh ?_;refine B 3 ?_;by_cases h1:¬dV x.dev
  ·refine XC ?_;refine nk 17 [.det [] _,.det [0] _,.det [1] (.bool false),.det [2] _,.det [3] _,.det [4] undef,.det [4,5] undef,.det [4,6] undef,.det [7] undef,.det [7,8] undef,.det [7] undef,.det [7,10] undef,.det [7,9,11] undef,.det [7,12] undef,.det [7,13] undef,.det [7] undef,.det [7,15] undef] zT (xc Jr (xc z2 (xc (by exact λae=>nf call207 rfl rfl (λW hS _=>by have h9:=Xm x.dev W;rw[decide_eq_false h1]at h9;exact h9) (λ_=>rfl)) (xc zrc (xc zO (xc zN (xc zN (xc zN (xc zN (xc zN (xc zN (xc zN (xc zN (xc zN (xc zN (xc zN (xc zN (xn)))))))))))))))))) zT zT zT (λae=>?_);refine B 23 ?_;exact Mf
  by_cases h2:j=0
  ·refine XC ?_;refine nk 17 [.det [] _,.det [0] _,.det [1] (.bool true),.det [2] _,.det [3] _,.det [4] _,.det [4,5] _,.det [4,6] _,.det [7] undef,.det [7,8] undef,.det [7] undef,.det [7,10] undef,.det [7,9,11] undef,.det [7,12] undef,.det [7,13] undef,.det [7] undef,.det [7,15] undef] zT (xc Jr (xc z2 (xc zYb (xc zpc (xc zO (xc zO (xc Gb (xc zO (xc zN (xc zN (xc zN (xc zN (xc zN (xc zN (xc zN (xc zN (xc zN (xn)))))))))))))))))) zT zT zT (λae=>?_);refine B 5 ?_;refine zOi ?_;refine aO ?_ ?_
   ·intro acN;exact zol
   intro acN;exact zXj
  obtain⟨y,hy⟩:=nj c.wes (j-1) zM;by_cases h3:x.dev<=y.dev
  ·refine XC ?_;refine nk 17 [.det [] _,.det [0] _,.det [1] (.bool true),.det [2] _,.det [3] _,.det [4] _,.det [4,5] _,.det [4,6] _,.det [7] _,.det [7,8] _,.det [7] _,.det [7,10] _,.det [7,9,11] _,.det [7,12] _,.det [7,13] _,.det [7] _,.det [7,15] _] zT (xc Jr (xc z2 (xc zYb (xc zpc (xc zO (xc zO (xc Jc (xc zO (xc (by exact λae=>X.val rfl rfl (ak underlying99 rfl sizeOf97 rfl) (λ_ _=>rfl)) (xc zEd (xc zO (xc EM (xc zde (xc Jr (xc zJd (xc Jr (xc z2 (xn)))))))))))))))))) zT zT zT (λae=>?_);refine zYh ?_;refine B 22 ?_;exact Mf
  refine XC ?_;refine nk 17 [.det [] _,.det [0] _,.det [1] (.bool true),.det [2] _,.det [3] _,.det [4] _,.det [4,5] _,.det [4,6] _,.det [7] _,.det [7,8] _,.det [7] _,.det [7,10] _,.det [7,9,11] _,.det [7,12] _,.det [7,13] _,.det [7] _,.det [7,15] _] zT (xc Jr (xc z2 (xc zYb (xc zpc (xc zO (xc zO (xc Jc (xc zO (xc (by exact λae=>X.val rfl rfl (ak underlying99 rfl sizeOf97 rfl) (λ_ _=>rfl)) (xc zEd (xc zO (xc EM (xc zde (xc Jr (xc zJd (xc Jr (xc z2 (xn)))))))))))))))))) zT zT zT (λae=>?_);refine Pp ?_;refine B 4 ?_;refine zOi ?_;refine aO ?_ ?_
  ·intro acO;exact zol
  intro acO;exact zXj
 intro acJ;refine B 11 ?_;exact D5
abbrev Bj (l:List UInt8):ByteArray:=strOfNums (l.map λu=>(u.toNat:Int))
theorem XD(l:List UInt8):(Bj l).size=l.length:=by rw[strOfNums_size,fy]
def oe (N:Nat) (w:World) (a:Option Addr) (l:List UInt8):Prop:=l=[]\/∃b off,a=some ⟨b,off,none⟩/\b<N/\cG w b off l
theorem nif{P:Program}(w:World)(src e:Nat)(hs:P.underlying src=some (.slice e))(he:P.underlying e=some (.int .u8))(a:Option Addr)(cap:Nat)(dst:Nat)(hd:P.underlying dst=some .string):(convert src dst (.slice a 0 cap)).run P w= .ok (.string (strOfNums [])) w:=by
 cases a with
 |none=>
  have hr:=run_convert_bytes_nil (P:=P) w src e hs he 0 cap dst hd;rw[hr];rfl
 |some a=>
  have hl:(loadCells a 0).run P w= .ok (([]:List Int).map (Value.int .u8)).toArray w:=by simp[loadCells,loadCellsFrom]
  rw[run_convert_bytes_string w src dst e _ 0 cap hs he hd,run_bytesToString w _ 0 cap [] hl,foldl_push_bytes];simp[strOfNums,ByteArray.empty,ByteArray.emptyWithCapacity];rfl
theorem Mg{src dst e c:Nat}{l:List UInt8}(hs:C.P.underlying src=some (.slice e))(he:C.P.underlying e=some (.int .u8))(hd:C.P.underlying dst=some .string)(hx:ev E x=some (.slice a l.length c))(hm:w1∈L)(hb:oe N w1 a l)(hG:∀b,b<N->¬G.X b/\bE H b):RV C G L H E (.convert src dst x) (.string (Bj l)):=λd ty pos aB g ac W hF hS=>by
 rcases hb with h1|⟨b,off,h1,h2,cs,t,fr,h3,h4,h5⟩
 ·subst h1;have hr:=nif (P:=C.P) W src e hs he a c dst hd;simp only[lF]at hx;simp[execOp,hF.ev hx,hr];rfl
 subst h1;have hW:=hS.old hm h3 (hG b h2).1 (hG b h2).2;have hr:=run_convert_bytes_arg (P:=C.P) W src e hs he b off l.length c (l.map λu=>(u.toNat:Int)) z1 (λi hi=>by
  rw[DP hW,h5 i hi];simp[fU,List.getD,hi]) dst hd
 simp[execOp,hF.ev hx,hr]
theorem nHb(n:Int)(w:World):Calls prog 142 #[.int .i64 n] w (av w (vI n)):=by
 refine enter (vs:=[_]) func142 rfl ntmps142 rfl ?_;refine B 2 ?_;refine zj ?_;refine yW ?_;intro b2 cA db;refine B 5 ?_;refine RJ ?_;refine bG (.inl rfl) results142 (RS.wA (i:=0) rfl isAgg149 sizeOf149 rfl (aT rfl) (RS.n)) A0 zS ?_;rfl
theorem S7(l:List UInt8)(N:Nat)(a:Option Addr)(c:Nat)(w:World)(hN:N<=w.heap.size)(hb:oe N w a l):Calls prog 143 #[.slice a l.length c] w (av w (vT (Bj l))):=by
 refine enter (vs:=[_]) func143 rfl ntmps143 rfl ?_;refine B 2 ?_;refine zj ?_;refine yW ?_;intro b2 cA db;refine B 5 ?_;refine rv rfl rfl rfl (Mg underlying64 underlying5 underlying9 rfl A0 hb (λb aI=>⟨λh=>h,by simp only[bE,and_true];omega⟩)) ?_;refine RJ ?_;refine bG (.inl rfl) results143 (RS.wA (i:=0) rfl isAgg149 sizeOf149 rfl (aT rfl) (RS.n)) A0 zS ?_;rfl
theorem S9(base:Option Addr)(n c:Nat)(w:World):Calls prog 140 #[.slice base n c] w (av w (vL base n c)):=by
 refine enter (vs:=[_]) func140 rfl ntmps140 rfl ?_;refine B 2 ?_;refine zj ?_;refine yW ?_;intro b2 cA db;refine B 5 ?_;refine RJ ?_;refine bG (.inl rfl) results140 (RS.wA (i:=0) rfl isAgg149 sizeOf149 rfl (aT rfl) (RS.n)) A0 zS ?_;rfl
def qP (n:Int):List Value:=[.int .i64 1,.int .i64 n,.string ⟨#[]⟩,.slice none 0 0]
theorem nfn(n:Int):(qP n).length=4:=rfl
theorem GG(n:Int):∀u∈qP n,u.oneCell'=true:=by intro u hu;simp[qP]at hu;rcases hu with rfl|rfl|rfl|rfl<;>rfl
theorem Mh:prog.info? 149=some Tryz.t149:=by kernel_rfl
theorem vO:lT prog 146 149 4:=⟨underlying146,Tryz.t149,.agg #[.int .i64 0,.int .i64 0,.string ⟨#[]⟩,.slice none 0 0],Mh,rfl,rfl,rfl,by decide⟩
theorem nji(xs:List Int)(ck:xs.length<=1000)(N:Nat)(a:Option Addr)(cp:Nat)(w:World)(hN:N<=w.heap.size)(aN:ah encI 1 N w a xs):Calls prog 141 #[.slice a xs.length cp] w (nB w qP 4 149 xs id):=by
 refine enter (vs:=[_]) func141 rfl ntmps141 rfl ?_;refine B 19 ?_;refine CJ.loop (α:=Rw×Nat) (λp=>[(3,p.1.val (xs.take p.2).length),(6,.slice a xs.length cp),(7,.int .i64 (xs.length:Int)),(8,.int .i64 (p.2:Int))]) (λp=>p.1.hp qP 149 (xs.take p.2)++[]) (λp=>[w]) (λp=>Gh.no) (λp=>p.2<=xs.length/\p.1.Fr Gh.no [w]/\p.1.Fit 4 (xs.take p.2)) (λp=>xs.length-p.2) (.nil,0) ⟨dx _,True.intro,rfl⟩ zR rfl rfl z1 ?_;rintro⟨r,j⟩ ⟨hj,bH,al⟩;dsimp only at hj bH al ⊢;have cO:r.ge w.heap.size:=Rw.ge_of bH A0;refine B 6 ?_;refine aO ?_ ?_
 ·intro aj;refine B 5 ?_;obtain⟨bo,oo,cs0,to,fA,rfl,fG,hcs,ar⟩:=aN.get zM;obtain⟨x,hx⟩:=nj xs j zM;refine B 2 ?_;refine rv rfl rfl rfl (aa (v:=.int .i64 x) isAgg3 rfl A0 hcs zZ (by simp only[bE,ne,dN,and_true];exact Rw.off_ge cO zM) (by have:=nR ar hx rfl zQ;simpa[encI]using this)) ?_;refine B 6 ?_;refine call call142 rfl rfl rfl (λW hS=>nHb _ W) ?_;refine IX ?_;refine yW ?_;intro eo iC Fs;refine o8 (r:=r) (xs:=(xs.take j)) (zs:=[x]) (enc:=qP) (m:=4) (H0:=[(eo,.cells #[.int .i64 1,.int .i64 x,.string ⟨#[]⟩,.slice none 0 0] 149 (0,0))]) (H1:=[]) wU vO nfn rfl rfl rfl rfl (dy.one (z:=x) nfn GG underlying146 (bN.own (i:=0) rfl)) al bH z1 (by simp only[kx,ec,lF];omega) ?_;intro cF fZ gH jW fH;replace jW:=yb jW;refine Ta ?_;refine PJ.again (Rw.row cF fZ gH,j+1) ⟨by dsimp only;omega,jW.elim (λh=>Rw.Fr_at bH h) (λh=>.inr h),by rw[nC hx];exact fH⟩ dE ⟨by rw[nC hx];rfl,rfl,rfl,rfl,trivial⟩ (by rw[nC hx];rfl) rfl z1
 intro aj;refine B 6 ?_;have bT:xs.take j=xs:=jo zM;rw[bT]at al ⊢;refine B 6 ?_;exact nT (H0:=[]) (H1:=[]) (r:=r) (.inl rfl) results141 (RS.t rfl RS.n) A0 WZ rfl al (Rw.ge_of bH A0) z1
abbrev El:=Nat×Nat
def gz (n:Nat) (e:El):List Value:=[.int .i64 3,.int .i64 0,.string ⟨#[]⟩,.slice (some ⟨e.1,0,none⟩) n e.2]
theorem PF(n:Nat)(e:El):(gz n e).length=4:=rfl
theorem nEj(n:Nat)(e:El):∀u∈gz n e,u.oneCell'=true:=by intro u hu;simp[gz]at hu;rcases hu with rfl|rfl|rfl|rfl<;>rfl
def hQ (F:ad) (n:Nat) (es:List El) (ls:List (List V)):Prop:=es.length=ls.length/\∀(i:Nat) (e:El) (l:List V),es[i]? =some e->ls[i]? =some l->l.length=n/\l.all oZ=true/\n<=e.2/\∃sp t fr,(e.1,Obj.cells (nG l++sp).toArray t fr)∈F
theorem hQ.nil{n:Nat}:hQ F n [] []:=⟨rfl,λi e l h=>by simp at h⟩
theorem hQ.up{F':ad}{n:Nat}{es:List El}(h:hQ F n es ls)(hF:∀p∈F,p∈F'):hQ F' n es ls:=⟨h.1,λi e l h1 h2=>by
 obtain⟨g1,g2,g3,sp,t,fr,g4⟩:=h.2 i e l h1 h2;exact⟨g1,g2,g3,sp,t,fr,hF _ g4⟩⟩
theorem n8h{α:Type}{xs:List α}{y z:α}(h:(xs++[y])[i]? =some z):xs[i]? =some z\/(i=xs.length/\z=y):=by
 by_cases hi:i<xs.length
 ·rw[xX hi]at h;exact .inl h
 rw[DJ zM]at h;have h2:i-xs.length<1:=by have:=(gA.1 h).1;simpa using this
 have h3:i=xs.length:=by omega
 subst h3;simp at h;exact .inr ⟨rfl,h.symm⟩
theorem hQ.snoc{F':ad}{n c t:Nat}{es:List El}{l:List V}(h:hQ F n es ls)(hF:∀p∈F,p∈F')(hl:l.length=n)(hf:l.all oZ=true)(hc:n<=c)(hp:(b,Obj.cells (nG l++sp).toArray t fr)∈F'):hQ F' n (es++[(b,c)]) (ls++[l]):=by
 refine⟨by simp[h.1],λi e l' h1 h2=>?_⟩;have e1:=h.1;rcases n8h h1 with h1|⟨rfl,rfl⟩
 ·rcases n8h h2 with h2|⟨rfl,rfl⟩
  ·exact(h.up hF).2 i e l' h1 h2
  have:=nF h1;omega
 rcases n8h h2 with h2|⟨_,rfl⟩
 ·have:=nF h2;omega
 exact⟨hl,hf,hc,sp,t,fr,hp⟩
theorem nan{N:Nat}{w:World}:∀(l:List V) (ys:List (List Value)) (pre yu:List Value),l.length=ys.length->(∀(i:Nat) (x:V) (y:List Value),l[i]? =some x->ys[i]? =some y->y.length=4/\ef N w x (.agg y.toArray))->fb N w (pre++(ys.flatten++yu)).toArray pre.length l
 | [],_,pre,yu,_,_=>by simp[fb]
 |x::l,[],pre,yu,hl,_=>by simp at hl
 |x::l,y::ys,pre,yu,hl,h=>by
  obtain⟨h1,h2⟩:=h 0 x y rfl rfl;have ih:=nan (N:=N) (w:=w) l ys (pre++y) yu yq (λi x' y' hx hy=>h (i+1) x' y' (by simpa using hx) (by simpa using hy));have e:pre++y++(ys.flatten++yu)=pre++((y::ys).flatten++yu):=by simp
  rw[e]at ih;simp only[fb];have hc:cut (pre++((y::ys).flatten++yu)).toArray pre.length 4=y.toArray:=by
   unfold cut;simp only[List.flatten_cons,iH];rw[List.drop_left,<-h1,List.take_left]
  refine⟨?_,by rw[hc];exact h2,?_⟩
  ·simp only[rU,cC,List.flatten_cons];omega
  rw[cC,h1]at ih;exact ih
theorem nDl{α:Type}{t:Nat}{w:World}{enc:α->List Value}{xs:List α}{l:List V}(hl:l.length=xs.length)(he:∀(i:Nat) (x:α) (y:V),xs[i]? =some x->l[i]? =some y->(enc x).length=4/\ef N w y (.agg (enc x).toArray))(hr:∀p∈r.hp enc t xs,p.1<N/\w.heap[p.1]? =some p.2)(hf:r.Fit 4 xs):ef N w (.list l) (.agg #[.int .i64 3,.int .i64 0,.string ⟨#[]⟩,r.val xs.length]):=by
 simp only[ef];cases r with
 |nil=>
  have h0:xs=[]:=hf;subst h0;have h1:l=[]:=jt yq;subst h1;exact⟨none,0,rfl,ao _,.inl rfl⟩
 |row b cap sp=>
  obtain⟨f1,f2⟩:=hf;obtain⟨g1,g2⟩:=hr (b,cD enc t xs sp) vE;refine⟨some ⟨b,0,none⟩,cap,by rw[hl];rfl,by omega,.inr ⟨b,_,t,(0,0),rfl,g1,g2,?_⟩⟩;have h2:=nan (N:=N) (w:=w) l (xs.map enc) [] sp yq (λi x y hx hy=>by
   rw[rC]at hy;cases hxs:xs[i]? with
   |none=>rw[hxs]at hy;cases hy
   |some z=>rw[hxs]at hy;cases hy;exact he i z x hxs hx)
  simpa[eL,List.flatMap]using h2
theorem hQ.vat{n t:Nat}{w:World}{es:List El}(h:hQ F n es ls)(hw:∀p∈F,p.1<N/\w.heap[p.1]? =some p.2)(hr:∀p∈r.hp (gz n) t es,p∈F)(hf:r.Fit 4 es):ef N w (.list (ls.map V.list)) (.agg #[.int .i64 3,.int .i64 0,.string ⟨#[]⟩,r.val es.length]):=
 nDl (by rw[fy];exact h.1.symm) (λi e y hx hy=>⟨rfl,by
  rw[rC]at hy;cases hl:ls[i]? with
  |none=>rw[hl]at hy;cases hy
  |some l=>
   rw[hl]at hy;cases hy;obtain⟨g1,g2,g3,sp,t',fr,g4⟩:=h.2 i e l hx hl;obtain⟨k1,k2⟩:=hw _ g4;have:=RI (cap:=e.2) g2 k1 zM k2;rw[g1]at this;exact this⟩) (λp hp=>hw p (hr p hp)) hf
theorem Bk{t:Nat}{w:World}{xs:List Int}(hr:∀p∈r.hp qP t xs,p.1<N/\w.heap[p.1]? =some p.2)(hf:r.Fit 4 xs):ef N w (.list (xs.map V.int)) (.agg #[.int .i64 3,.int .i64 0,.string ⟨#[]⟩,r.val xs.length]):=
 nDl z1 (λi x y hx hy=>⟨rfl,by rw[rC,hx]at hy;cases hy;simp only[ef];rfl⟩) hr hf
def yw (x:Ch):List V:=[.int x.kind,.int x.dev,.int x.pub,.int x.ver,.int x.cut]
def qQ (x:Bx):List V:=[.int x.node,.int x.level,.int x.w.u,.text (Bj x.w.body)]
def qR (x:We):List V:=[.int x.dev,.int x.w.u,.text (Bj x.w.body)]
def ml (c:Cm):List V:=[.int c.folder,.int c.epoch,.text (Bj (dt c.par)),.int c.author,.list ((c.chs.map yw).map V.list),.list (c.path.map V.int),.list ((c.bxs.map qQ).map V.list),.list ((c.wes.map qR).map V.list),.text (Bj (dt c.conf)),.int c.sr,.int c.ss]
theorem nbi{α β:Type}(f:α->β){xs:List α}{x:α}(hx:xs[j]? =some x):(xs.take (j+1)).map f=(xs.take j).map f++[f x]:=by rw[nC hx];simp
theorem cG.dgo{w:World}{t off:Nat}{f:Nat->Int}(h:w.heap[b]? =some (.cells cs t fr))(hc:cut cs off 32=Px.dg f)(hs:off+32<=cs.size)(hf:jq f):cG w b off (dt f):=
 ⟨cs,t,fr,h,by rw[nO];exact hs,λi hi=>by
  rw[nO]at hi;rw[WB f hf i hi,<-pI f i hi,<-hc];unfold cut;rw[<-xW,<-xW];simp only[KC hi,wC]⟩
theorem Mi{t:Nat}{xs:List Int}(h:W.heap[b]? =some (.cells (xs.map (Value.int .i64)).toArray t fr)):ah encI 1 W.heap.size W (some ⟨b,0,none⟩) xs:=by
 refine .inr ⟨b,0,_,t,fr,rfl,(aL.1 h).1,h,λi hi=>⟨by simp;omega,?_⟩⟩;unfold cut encI;apply Array.ext';simp only[jg,uk];rw[<-List.map_drop,List.drop_eq_getElem_cons hi,eF];rfl
end Px
