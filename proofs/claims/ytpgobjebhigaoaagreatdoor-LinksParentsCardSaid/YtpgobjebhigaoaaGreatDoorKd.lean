/- Contracts of functions of the program. No condition beyond those stated. -/
import Derived.Test.YtpgobjebhigaoaaGreatDoorKc
import Derived.Test.YtpgobjebhigaoaaGreatDoorProg
import Derived.Test.YtpgobjebhigaoaaGreatDoorLa
set_option linter.unusedSimpArgs false
set_option linter.unusedVariables false
set_option linter.unusedSectionVars false
set_option linter.unnecessarySimpa false
set_option maxRecDepth 20000
set_option maxHeartbeats 8000000
namespace Px
open Go Go.RowKit Go.Proofs Go.Proofs.Tryz
variable {ops:Array Oper} {cs:Array Value} {C:Cx} {E:Env} {G:Gh} {F H H':ab} {au d:Int} {ls:List (List V)} {D:List Deferred} {ns:List Nd} {sp:List Value} {L:List World} {N N' T b e i j:Nat} {fr:Nat×Nat} {o:Obj} {x:Operand} {a:Option Addr} {r:Rw} {v:Value} {W w' w1:World}
theorem OJ.frz{Q:aC}{l:List Oper}(hi:H[i]? =some (b,o))(hH:H.eraseIdx i=H')(ha:ad L b)(k:∀w1,w1.heap[b]? =some o->b<w1.heap.size->(∀w∈L,w.heap.size<=w1.heap.size)->OJ C ops Q l E D G (w1::L) H'):OJ C ops Q l E D G L H:=by
 subst hH;intro a W hN hD hF hS;have hb:=hS.own _ (cb hi);exact k W hb (aT.1 hb).1 (λw hw=>(hS.links w hw).size) a W hN hD hF (hS.dropAt hi ha).snap
noncomputable def lb (ns:List Nd) (n:Int):List Int:=if gW ns=0/\1<=n/\n<=1023 then dV (cL ns) 10 n else[]
noncomputable def HC (ns:List Nd) (n:Int):Int:=if gW ns=0 then(if 1<=n/\n<=1023 then 0 else 200)else 210
theorem Vd(kv:List (Int×Int)):∀(k:Nat) (n:Int),(dV kv k n).length<=2^k
 |0,n=>by simp[dV]
 |k+1,n=>by
  have h1:=Vd kv k (2*n);have h2:=Vd kv k (2*n+1);have h3:2^(k+1)=2^k+2^k:=by rw[Nat.pow_succ];omega
  have h4:0<2^k:=Nat.pow_pos zO;by_cases h5:(av kv n).isSome=true
  ·rw[Z1 h5];simp;omega
  by_cases h6:512<=n
  ·rw[nJj h5 h6];simp
  rw[Z2 h5 h6,cK];omega
theorem nHj(ns:List Nd)(n:Int):(lb ns n).length<=1024:=by
 unfold lb;split
 ·exact Vd _ 10 n
 simp
theorem EA:dP prog 312:=call312
theorem ngj(ns:List Nd)(hn:ns.length<=100000)(N:Nat)(a:Option Addr)(cp:Nat)(w:World)(hN:N<=w.heap.size)(aH:ag fF 2 N w a ns)(eX:gW ns=210)(n:Int):Calls prog 257 #[.agg #[.slice a ns.length cp],.int .i64 n] w (nD w aj 1 3 [] (λs=>.tuple #[s,.int .i64 (210)])):=by
 refine Z7 ?_;refine yV ?_;intro b2 w2 aU aN dY cR cX;refine B 7 ?_;refine Ve ?_;refine zeg ?_;refine B 6 ?_;refine P8 ?_;refine B 12 ?_;exact Z8
theorem n9j(ns:List Nd)(hn:ns.length<=100000)(N:Nat)(a:Option Addr)(cp:Nat)(w:World)(hN:N<=w.heap.size)(aH:ag fF 2 N w a ns)(eX:gW ns=0)(n:Int)(fN:¬(1<=n/\n<=1023)):Calls prog 257 #[.agg #[.slice a ns.length cp],.int .i64 n] w (nD w aj 1 3 [] (λs=>.tuple #[s,.int .i64 (200)])):=by
 refine Z7 ?_;refine yV ?_;intro b2 w2 aU aN dY cR cX;refine B 7 ?_;refine Ve ?_;refine Z9 ?_;refine GW ?_;refine B 7 ?_;by_cases h1:n<1
 ·refine B 2 ?_;refine He ?_;refine B 15 ?_;exact Z8
 refine Jr ?_;refine B 2 ?_;refine O0 ?_;refine B 12 ?_;exact Z8
theorem n7j(ns:List Nd)(hn:ns.length<=100000)(N:Nat)(a:Option Addr)(cp:Nat)(w:World)(hN:N<=w.heap.size)(aH:ag fF 2 N w a ns)(eX:gW ns=0)(n:Int)(fN:1<=n/\n<=1023):Calls prog 257 #[.agg #[.slice a ns.length cp],.int .i64 n] w (nD w aj 1 3 (dV (cL ns) 10 n) (λs=>.tuple #[s,.int .i64 (0)])):=by
 have tM:=fN.1;have IU:=fN.2;refine Z7 ?_;refine yV ?_;intro b2 w2 aU aN dY cR cX;refine B 7 ?_;refine Ve ?_;refine Z9 ?_;refine GW ?_;refine B 9 ?_;refine tR ?_;refine B 2 ?_;refine Jc ?_;refine B 8 ?_;refine Ve ?_;refine zbf ?_;intro bf m uh Nj hm;replace uh:=yb uh;refine B 1 ?_;refine OJ.frz (i:=0) (H':=[]) rfl rfl zW ?_;intro wf hwf hlf hzf;have afj:=hzf w A1;refine nB (α:=Nat×Nat) (v:=λq:Nat×Nat=>.func (.func 312) #[] #[ptr q.1 0,ptr q.2 0]) (Φ:=λ(W:World) (q:Nat×Nat) (w1:World)=>W.heap.size<=q.1/\W.heap.size<=q.2/\w1.heap[q.1]? =some (.cells #[.map (some bf)] 319 (0,0))/\w1.heap[q.2]? =some (.cells #[.int .i64 n] 3 (0,0))) call293 rfl rfl rfl (λW hS=>nLe (some bf) n W) ?_;rintro Wk q wk ue Em ⟨jb,jc,fw,gg⟩;try dsimp only at jb jc fw gg
 have yY:=(aT.1 fw).1;have yZ:=(aT.1 gg).1;have U2:=Em.size;have hzw:=(ue.links wf A0).size;refine QC (enc:=aj) (m:=1) (t:=3) (Fin:=Is (dV (cL ns) 10 n)) (v:=id) call118 rfl rfl rfl (λW hS=>U1 (f:=312) (cap:=[ptr q.1 0,ptr q.2 0]) (Pre:=wt (dV (cL ns) 10 n)) (Fin:=Is (dV (cL ns) 10 n)) (RO:=QS q.1 q.2 bf) EA W ?_ ?_ ?_) ?_
 ·have mE:=(hS.links wk A0).size;rintro j (rfl|rfl|rfl)<;>omega
 ·intro p hp;have h1:p.length<=_:=hp.length_le;have h2:=Vd (cL ns) 10 n;omega
 ·intro W2 hB;have mE:=(hS.links wk A0).size;exact QY (cL ns) 10 n q.1 q.2 bf m W2 zJ zJ zJ hm (by rw[hB.block q.1 zJ];exact hS.old A0 fw zU trivial) (by rw[hB.block q.2 zJ];exact hS.old A0 gg zU trivial) (by rw[hB.block bf zJ];exact hS.old A1 hwf zU trivial)
 intro xs r cB bE ak;cases cB
 refine B 5 ?_;exact nW (H0:=[]) (H1:=[]) (r:=r) (.inl rfl) results257 (RS.t rfl (RS.t rfl RS.n)) A3 (by rw[dH];exact Rw.over (Rw.ge_of bE A3)) rfl ak (Rw.ge_of bE A3) zX
theorem nng(ns:List Nd)(hn:ns.length<=100000)(N:Nat)(a:Option Addr)(cp:Nat)(w:World)(hN:N<=w.heap.size)(aH:ag fF 2 N w a ns)(n:Int):Calls prog 257 #[.agg #[.slice a ns.length cp],.int .i64 n] w (nD w aj 1 3 (lb ns n) (λs=>.tuple #[s,.int .i64 (HC ns n)])):=by
 rcases U3 ns with h|h
 ·by_cases h2:1<=n/\n<=1023
  ·have e1:lb ns n=dV (cL ns) 10 n:=by unfold lb;rw[if_pos ⟨h,h2⟩]
   have e2:HC ns n=0:=by unfold HC;rw[if_pos h,if_pos h2]
   rw[e1,e2];exact n7j ns hn N a cp w hN aH h n h2
  have e1:lb ns n=[]:=by unfold lb;rw[if_neg λg=>h2 g.2]
  have e2:HC ns n=200:=by unfold HC;rw[if_pos h,if_neg h2]
  rw[e1,e2];exact n9j ns hn N a cp w hN aH h n h2
 have e1:lb ns n=[]:=by unfold lb;rw[if_neg λg=>by have:=g.1;omega]
 have e2:HC ns n=210:=by unfold HC;rw[if_neg zJ]
 rw[e1,e2];exact ngj ns hn N a cp w hN aH h n
structure Mb where
 dev:Int
 since:Int
 ver:Int
def mJ (x:Mb):Array Value:=#[.int .i64 x.dev,.int .i64 x.since,.int .i64 x.ver]
def jU (x:Mb):List Value:=[.int .i64 x.dev,.int .i64 x.since,.int .i64 x.ver]
structure Ch where
 kind:Int
 dev:Int
 pub:Int
 ver:Int
 cut:Int
def ez (x:Ch):Array Value:=#[.int .i64 x.kind,.int .i64 x.dev,.int .i64 x.pub,.int .i64 x.ver,.int .i64 x.cut]
def lf (x:Ch):List Value:=[.int .i64 x.kind,.int .i64 x.dev,.int .i64 x.pub,.int .i64 x.ver,.int .i64 x.cut]
theorem vn(x:Mb):(jU x).length=3:=rfl
theorem y4(x:Ch):(lf x).length=5:=rfl
theorem Vf(x:Mb):∀u∈jU x,u.oneCell'=true:=by intro u hu;simp[jU]at hu;rcases hu with rfl|rfl|rfl<;>rfl
theorem nSi(x:Ch):∀u∈lf x,u.oneCell'=true:=by intro u hu;simp[lf]at hu;rcases hu with rfl|rfl|rfl|rfl|rfl<;>rfl
theorem EB:prog.info? 210=some Tryz.t210:=by kernel_rfl
theorem EC:prog.info? 233=some Tryz.t233:=by kernel_rfl
def bZ (a b:Int):Int:=if a<b then -1 else if b<a then 1 else 0
abbrev y6 (f:Int):Prop:=0<=f/\f<16
theorem Nv{α:Type}{p:α->Bool}{xs:List α}(h:∀i x,i<j->xs[i]? =some x->p x=false)(hj:¬j<xs.length):xs.any p=false:=by
 rw[List.any_eq_false];intro x hx;obtain⟨i,hi⟩:=ju.1 hx;have:=h i x (by have:=nE hi;omega) hi;simp[this]
theorem n0g{α:Type}{p:α->Bool}{xs:List α}{x:α}(hx:xs[j]? =some x)(h:p x=true):xs.any p=true:=List.any_eq_true.2 ⟨x,cb hx,h⟩
def eI {α:Type} (p:α->Bool) (xs:List α) (j:Nat):Prop:=∀i x,i<j->xs[i]? =some x->p x=false
theorem eI.next{α:Type}{p:α->Bool}{xs:List α}{x:α}(h:eI p xs j)(hx:xs[j]? =some x)(hp:p x=false):eI p xs (j+1):=by
 exact zgk
def du {α:Type} (p:α->Bool) (xs:List α) (i:Int):Prop:=(i= -1/\xs.any p=false)\/∃(k:Nat) (x:α),i=(k:Int)/\xs[k]? =some x/\p x=true/\eI p xs k
theorem du.any{α:Type}{p:α->Bool}{xs:List α}{i:Int}(h:du p xs i):decide (0<=i)=xs.any p:=by
 rcases h with⟨rfl,h⟩|⟨k,x,rfl,hx,hp,_⟩
 ·rw[h];rfl
 rw[n0g hx hp];simp
def wy (xs:List Mb) (d:Int) (i j:Nat):Nat:=
 if h:i<j then(if((xs[(i+j)/2]?).map (·.dev)).getD 0<d then wy xs d ((i+j)/2+1) j else wy xs d i ((i+j)/2))else i
termination_by j-i
decreasing_by all_goals omega
theorem Kd{xs:List Mb}{x:Mb}(h:i<j)(hx:xs[(i+j)/2]? =some x)(hd:x.dev<d):wy xs d i j=wy xs d ((i+j)/2+1) j:=by
 rw[wy,dif_pos h,hx];simp[hd]
theorem Ke{xs:List Mb}{x:Mb}(h:i<j)(hx:xs[(i+j)/2]? =some x)(hd:¬x.dev<d):wy xs d i j=wy xs d i ((i+j)/2):=by
 rw[wy,dif_pos h,hx];simp[hd]
theorem Kf{xs:List Mb}(h:¬i<j):wy xs d i j=i:=by rw[wy,dif_neg h]
theorem n0i(a b:Int):bZ a b<0↔a<b:=by unfold bZ;split<;>(try split)<;>omega
theorem ED(a b:Int):bZ a b=0↔a=b:=by unfold bZ;split<;>(try split)<;>omega
def lg (xs:List Mb) (d:Int):Nat:=wy xs d 0 xs.length
def gF (xs:List Mb) (d:Int):Bool:=decide (((xs[lg xs d]?).map (·.dev))=some d)
theorem nPk{xs:List Mb}{x:Mb}(h:lg xs d=i)(hx:xs[i]? =some x):decide (bZ x.dev d=0)=gF xs d:=by
 unfold gF;rw[h,hx];simp[ED]
theorem nUi{xs:List Mb}(h:lg xs d=i)(hi:¬i<xs.length):false=gF xs d:=by
 unfold gF;rw[h,so zJ];simp
theorem EE{xs:List Mb}(h:gF xs d=true):lg xs d<xs.length:=by
 by_cases h2:lg xs d<xs.length
 ·exact h2
 rw[<-nUi rfl h2]at h;cases h
theorem nyk(f:Int)(w:World):Calls prog 200 #[.int .i64 f] w (ay w (.bool (decide (y6 f)))):=by
 refine enter (vs:=[_]) func200 rfl ntmps200 rfl ?_;refine B 10 ?_;refine nh (t:=5) rfl (λah=>?_) (λah=>?_)
 ·exact z0j
 exact z0j
theorem Vg(f:Int)(w:World):Calls prog 207 #[.int .i64 f] w (ay w (.bool (decide (dD f)))):=by
 refine enter (vs:=[_]) func207 rfl ntmps207 rfl ?_;refine B 10 ?_;refine nh (t:=5) rfl (λah=>?_) (λah=>?_)
 ·exact zZj
 exact zZj
theorem nAj(f:Int)(w:World):Calls prog 193 #[.int .i64 f] w (ay w (.bool false)):=by
 refine enter (vs:=[_]) func193 rfl ntmps193 rfl ?_;refine B 14 ?_;refine ax results193 rfl A0 ?_;exact vb zX
theorem nxf(a b:Int)(w:World):Calls prog 125 #[.int .i64 a,.int .i64 b] w (ay w (.int .i64 (bZ a b))):=by
 refine enter (vs:=[_,_]) func125 rfl ntmps125 rfl ?_;refine B 8 ?_;refine call call193 rfl rfl rfl (λW hS=>nAj _ W) (v:=.bool false) ?_;refine B 6 ?_;refine call call193 rfl rfl rfl (λW hS=>nAj _ W) (v:=.bool false) ?_;refine B 29 ?_;refine aG ?_ ?_
 ·intro ah;refine B 7 ?_;exact zUj
 intro ah;refine B 10 ?_;refine aG ?_ ?_
 ·intro aJ;refine B 7 ?_;exact zUj
 intro aJ;refine B 8 ?_;exact zUj
theorem nml(x:Mb)(d:Int)(w:World):Calls prog 260 #[.agg (mJ x),.int .i64 d] w (ay w (.int .i64 (bZ x.dev d))):=by
 refine enter (vs:=[_,_]) func260 rfl ntmps260 rfl ?_;refine B 2 ?_;refine yX ?_;intro b2 w2 aU aN dY cR cX;refine B 8 ?_;refine call call125 rfl rfl rfl (λW hS=>nxf _ _ W) ?_;refine B 4 ?_;refine ax results260 rfl A1 ?_;rfl
theorem ndo(xs:List Mb)(cj:xs.length<=1000000)(N:Nat)(a:Option Addr)(cp:Nat)(w:World)(hN:N<=w.heap.size)(aH:ag mJ 3 N w a xs)(d:Int):Calls prog 259 #[.slice a xs.length cp,.int .i64 d,.func (.func 260) #[] #[]] w (ay w (.tuple #[.int .i64 (lg xs d:Int),.bool (gF xs d)])):=by
 refine enter (vs:=[_,_,_]) func259 rfl ntmps259 rfl ?_;refine B 22 ?_;refine CJ.loop (α:=Nat×Nat) (λp=>[(0,.slice a xs.length cp),(1,.int .i64 d),(2,.func (.func 260) #[] #[]),(8,.int .i64 (xs.length:Int)),(9,.int .i64 (p.1:Int)),(10,.int .i64 (p.2:Int))]) (λp=>[]) (λp=>[w]) (λp=>Gh.no) (λp=>p.1<=p.2/\p.2<=xs.length/\wy xs d p.1 p.2=lg xs d) (λp=>p.2-p.1) (0,xs.length) ⟨db _,ao _,rfl⟩ zR rfl rfl zX ?_;rintro⟨i,j⟩ ⟨vo,kZ,Vh⟩;dsimp only at vo kZ Vh ⊢;refine B 8 ?_;refine aG ?_ ?_
 ·intro ah;refine B 9 ?_;refine rv rfl rfl rfl (fK 1 2 zO rfl rfl rfl) ?_;refine rq (.int .i64 (((i+j)/2:Nat):Int)) (sa underlying189 underlying3 rfl zJ zJ) ((vi zJ)) ?_;refine B 4 ?_;obtain⟨bo,oo,cs0,to,fk,rfl,fE,hcs,ar⟩:=aH.get zJ;obtain⟨x,hx⟩:=nj xs ((i+j)/2) zJ;refine z7h ?_;refine B 3 ?_;refine aG ?_ ?_
  ·intro aJ;refine B 6 ?_;refine PJ.again ((i+j)/2+1,j) ⟨by dsimp only;omega,kZ,by rw[<-Vh,Kd zJ hx ((n0i _ _).1 gw)]⟩ dG zR rfl rfl zX
  intro aJ;refine B 5 ?_;refine PJ.again (i,(i+j)/2) ⟨by dsimp only;omega,by dsimp only;omega,by rw[<-Vh,Ke zJ hx (λh=>(by assumption:¬bZ x.dev d<0) ((n0i _ _).2 h))]⟩ dG zR rfl rfl zX
 intro ah;refine B 6 ?_;have QZ:lg xs d=i:=by rw[<-Vh,Kf zJ]
 by_cases h1:i<xs.length
 ·obtain⟨bo,oo,cs0,to,fk,rfl,fE,hcs,ar⟩:=aH.get zJ;obtain⟨x,hx⟩:=nj xs i zJ;refine B 4 ?_;refine He ?_;refine z7h ?_;refine B 7 ?_;exact zCj
 refine B 4 ?_;refine tR ?_;refine B 15 ?_;exact zCj
theorem Vi(p:Mb->Bool)(f:Nat)(cap:List Value)(az:dP prog f)(xs:List Mb)(cj:xs.length<=1000000)(N:Nat)(a:Option Addr)(cp:Nat)(w:World)(hN:N<=w.heap.size)(aH:ag mJ 3 N w a xs)(hp:∀(j:Nat) (x:Mb),xs[j]? =some x->∀W,Below w.heap.size w W->Calls prog f (.agg (mJ x)::cap).toArray W (ay W (.bool (p x)))):Calls prog 115 #[.slice a xs.length cp,.func (.func f) #[] cap.toArray] w (cJ w (λi:Int=>.int .i64 i) (λi _=>du p xs i)):=by
 refine enter (vs:=[_,_]) func115 rfl ntmps115 rfl ?_;refine Nw ?_;rintro j ⟨hj,dm⟩;refine B 6 ?_;refine aG ?_ ?_
 ·intro ah;refine B 11 ?_;obtain⟨bo,oo,cs0,to,fk,rfl,fE,hcs,ar⟩:=aH.get zJ;obtain⟨x,hx⟩:=nj xs j zJ;refine B 5 ?_;refine zWe ?_;refine Nx ?_;refine aG ?_ ?_
  ·intro aJ;refine B 12 ?_;refine kH (j:Int) results115 rfl A0 rfl ?_;exact Ny
  exact Kg
 intro ah;refine B 11 ?_;refine kH (-1:Int) results115 rfl A0 rfl ?_;exact Kh
theorem n7e(p:Mb->Bool)(f:Nat)(cap:List Value)(az:dP prog f)(xs:List Mb)(cj:xs.length<=1000000)(N:Nat)(a:Option Addr)(cp:Nat)(w:World)(hN:N<=w.heap.size)(aH:ag mJ 3 N w a xs)(hp:∀(j:Nat) (x:Mb),xs[j]? =some x->∀W,Below w.heap.size w W->Calls prog f (.agg (mJ x)::cap).toArray W (ay W (.bool (p x)))):Calls prog 206 #[.slice a xs.length cp,.func (.func f) #[] cap.toArray] w (ay w (.bool (xs.any p))):=by
 refine enter (vs:=[_,_]) func206 rfl ntmps206 rfl ?_;refine B 9 ?_;refine nB (α:=Int) (v:=λi:Int=>.int .i64 i) (Φ:=λ_ i _=>du p xs i) call115 rfl rfl rfl (λW hS=>Vi p f cap az xs cj N a cp W (aR hN (hS.links w A0).size) (aH.up (ao _) (hS.same A0 hN zS trivial)) (λj x hx W2 hB=>hp j x hx W2 (((hS.links w A0).below Nq).trans (hB.mono (hS.links w A0).size)))) ?_;intro Wi i wi sV sW hi;refine B 5 ?_;refine ax results206 rfl A1 ?_;exact vb hi.any
theorem nwe(p:Ch->Bool)(f:Nat)(cap:List Value)(az:dP prog f)(xs:List Ch)(cj:xs.length<=1000000)(N:Nat)(a:Option Addr)(cp:Nat)(w:World)(hN:N<=w.heap.size)(aH:ag ez 5 N w a xs)(hp:∀(j:Nat) (x:Ch),xs[j]? =some x->∀W,Below w.heap.size w W->Calls prog f (.agg (ez x)::cap).toArray W (ay W (.bool (p x)))):Calls prog 223 #[.slice a xs.length cp,.func (.func f) #[] cap.toArray] w (cJ w (λi:Int=>.int .i64 i) (λi _=>du p xs i)):=by
 refine enter (vs:=[_,_]) func223 rfl ntmps223 rfl ?_;refine Nw ?_;rintro j ⟨hj,dm⟩;refine B 6 ?_;refine aG ?_ ?_
 ·intro ah;refine B 11 ?_;obtain⟨bo,oo,cs0,to,fk,rfl,fE,hcs,ar⟩:=aH.get zJ;obtain⟨x,hx⟩:=nj xs j zJ;refine B 5 ?_;refine rq (.agg (ez x)) (ai isAgg233 sizeOf233 rfl A0 hcs zU trivial (nk ar hx rfl)) (va (nr ar hx rfl)) ?_;refine Nx ?_;refine aG ?_ ?_
  ·intro aJ;refine B 12 ?_;refine kH (j:Int) results223 rfl A0 rfl ?_;exact Ny
  exact Kg
 intro ah;refine B 11 ?_;refine kH (-1:Int) results223 rfl A0 rfl ?_;exact Kh
theorem nxc(p:Ch->Bool)(f:Nat)(cap:List Value)(az:dP prog f)(xs:List Ch)(cj:xs.length<=1000000)(N:Nat)(a:Option Addr)(cp:Nat)(w:World)(hN:N<=w.heap.size)(aH:ag ez 5 N w a xs)(hp:∀(j:Nat) (x:Ch),xs[j]? =some x->∀W,Below w.heap.size w W->Calls prog f (.agg (ez x)::cap).toArray W (ay W (.bool (p x)))):Calls prog 157 #[.slice a xs.length cp,.func (.func f) #[] cap.toArray] w (ay w (.bool (xs.any p))):=by
 refine enter (vs:=[_,_]) func157 rfl ntmps157 rfl ?_;refine B 9 ?_;refine nB (α:=Int) (v:=λi:Int=>.int .i64 i) (Φ:=λ_ i _=>du p xs i) call223 rfl rfl rfl (λW hS=>nwe p f cap az xs cj N a cp W (aR hN (hS.links w A0).size) (aH.up (ao _) (hS.same A0 hN zS trivial)) (λj x hx W2 hB=>hp j x hx W2 (((hS.links w A0).below Nq).trans (hB.mono (hS.links w A0).size)))) ?_;intro Wi i wi sV sW hi;refine B 5 ?_;refine ax results157 rfl A1 ?_;exact vb hi.any
structure Gp where
 folder:Int
 epoch:Int
 last:Nat->Int
 ms:List Mb
 ns:List Nd
structure Gv where
 g:Gp
 ma:Option Addr
 mc:Nat
 na:Option Addr
 nc:Nat
def bC (x:Gv):Array Value:=#[.int .i64 x.g.folder,.int .i64 x.g.epoch,.int .u8 (x.g.last 0),.int .u8 (x.g.last 1),.int .u8 (x.g.last 2),.int .u8 (x.g.last 3),.int .u8 (x.g.last 4),.int .u8 (x.g.last 5),.int .u8 (x.g.last 6),.int .u8 (x.g.last 7),.int .u8 (x.g.last 8),.int .u8 (x.g.last 9),.int .u8 (x.g.last 10),.int .u8 (x.g.last 11),.int .u8 (x.g.last 12),.int .u8 (x.g.last 13),.int .u8 (x.g.last 14),.int .u8 (x.g.last 15),.int .u8 (x.g.last 16),.int .u8 (x.g.last 17),.int .u8 (x.g.last 18),.int .u8 (x.g.last 19),.int .u8 (x.g.last 20),.int .u8 (x.g.last 21),.int .u8 (x.g.last 22),.int .u8 (x.g.last 23),.int .u8 (x.g.last 24),.int .u8 (x.g.last 25),.int .u8 (x.g.last 26),.int .u8 (x.g.last 27),.int .u8 (x.g.last 28),.int .u8 (x.g.last 29),.int .u8 (x.g.last 30),.int .u8 (x.g.last 31),.slice x.ma x.g.ms.length x.mc,.slice x.na x.g.ns.length x.nc]
structure aL (N:Nat) (w:World) (x:Gv):Prop where
 ms:ag mJ 3 N w x.ma x.g.ms
 ns:ag fF 2 N w x.na x.g.ns
 mn:x.g.ms.length<=10000
 nn:x.g.ns.length<=80000
theorem aL.up{w:World}{x:Gv}(h:aL N w x)(hN:N<=N')(hw:∀k,k<N->w'.heap[k]? =w.heap[k]?):aL N' w' x:=⟨h.ms.up hN hw,h.ns.up hN hw,h.mn,h.nn⟩
def Nz (ep:Int) (x:Mb):Bool:=decide (x.since<1\/ep<x.since\/¬dy x.ver)
def Ki (g:Gp):Prop:=(y6 g.folder/\0<=g.epoch/\g.epoch<=1099511627776/\gW g.ns=0)/\¬(g.epoch=0/\(0<g.ms.length\/jS g.last (λ_=>0)=false))/\g.ms.map (·.dev)=cS g.ns/\g.ms.any (Nz g.epoch)=false
open Classical in
noncomputable def ee (g:Gp):Bool:=decide (Ki g)
theorem Q0(a:Int):(if dy a then(0:Int)else 40)=0↔dy a:=by
 by_cases h:dy a
 ·rw[if_pos h];exact⟨λ_=>h,λ_=>rfl⟩
 rw[if_neg h];exact⟨λe=>absurd e zO,λg=>absurd g h⟩
theorem nQm(G:Gv)(b:Nat)(x:Mb)(w:World)(aQ:w.heap[b]? =some (.cells (bC G) 57 (0,0))):Calls prog 202 #[.agg (mJ x),ptr b 0] w (ay w (.bool (Nz G.g.epoch x))):=by
 have aX:¬Gh.no.X b:=λh=>h;have mE:=(aT.1 aQ).1;obtain⟨e,he⟩:∃e,(if dy x.ver then(0:Int)else 40)=e:=⟨_,rfl⟩;have Cw:=Q0 x.ver;rw[he]at Cw;refine enter (vs:=[_,_]) func202 rfl ntmps202 rfl ?_;refine B 2 ?_;refine yX ?_;intro b2 w2 aU aN dY cR cX;refine B 9 ?_;refine nh (t:=7) rfl (λah=>?_) (λah=>?_)
 ·replace ah:=ya ah;refine B 16 ?_;exact z3j
 replace ah:=ya ah;refine B 7 ?_;refine nh (t:=14) rfl (λaJ=>?_) (λaJ=>?_)
 ·replace aJ:=ya aJ;refine B 9 ?_;exact z3j
 replace aJ:=ya aJ;refine B 2 ?_;refine US ?_;refine B 6 ?_;exact z3j
theorem EF(x:Mb)(d:Int)(w:World):Calls prog 203 #[.agg (mJ x),.int .i64 d] w (ay w (.bool (decide (x.dev=d)))):=by
 refine enter (vs:=[_,_]) func203 rfl ntmps203 rfl ?_;refine B 2 ?_;refine yX ?_;intro b2 w2 aU aN dY cR cX;refine B 13 ?_;refine ax results203 rfl A1 ?_;rfl
theorem nKg{α β:Type}{f:α->β}{xs:List α}{ys:List β}(hl:xs.length=ys.length)(h:∀i x y,i<xs.length->xs[i]? =some x->ys[i]? =some y->f x=y):xs.map f=ys:=by
 apply List.ext_getElem wv;intro i h1 h2;simp only[fp]at h1;simpa using h i _ _ h1 (gB h1) (gB h2)
theorem nDg{α β:Type}{f:α->β}{xs:List α}{ys:List β}{x:α}{y:β}(hx:xs[i]? =some x)(hy:ys[i]? =some y)(dn:f x≠y):xs.map f≠ys:=by
 intro e;have h:(xs.map f)[i]? =ys[i]? :=by rw[e]
 rw[qp,hx,hy]at h;simp only[uW,qE]at h;exact dn h
def pR {α β:Type} (f:α->β) (xs:List α) (ys:List β) (j:Nat):Prop:=∀i x y,i<j->xs[i]? =some x->ys[i]? =some y->f x=y
theorem pR.next{α β:Type}{f:α->β}{xs:List α}{ys:List β}{x:α}{y:β}(h:pR f xs ys j)(hx:xs[j]? =some x)(hy:ys[j]? =some y)(e:f x=y):pR f xs ys (j+1):=by
 exact zLj
theorem n2c(xs:List Mb)(cj:xs.length<=1000000)(N:Nat)(a:Option Addr)(cp:Nat)(w:World)(hN:N<=w.heap.size)(aH:ag mJ 3 N w a xs)(ys:List Int)(a2:Option Addr)(HD:Nat)(y7:ag (λx=>(aj x).toArray) 1 N w a2 ys):Calls prog 204 #[.slice a xs.length cp,.slice a2 ys.length HD,.func (.func 203) #[] #[]] w (ay w (.bool (decide (xs.map (·.dev)=ys)))):=by
 refine enter (vs:=[_,_,_]) func204 rfl ntmps204 rfl ?_;refine B 15 ?_;refine aG ?_ ?_
 ·intro ah;refine B 7 ?_;refine ax results204 rfl A0 ?_;exact vb zfd
 intro ah;refine B 11 ?_;refine CJ.loop (α:=Nat) (λj=>[(1,.slice a2 ys.length HD),(2,.func (.func 203) #[] #[]),(15,.slice a xs.length cp),(16,.int .i64 (xs.length:Int)),(17,.int .i64 (j:Int))]) (λj=>[]) (λj=>[w]) (λj=>Gh.no) (λj=>j<=xs.length/\pR (·.dev) xs ys j) (λj=>xs.length-j) 0 ⟨db _,λi x y hi=>absurd hi zJ⟩ zR rfl rfl zX ?_;rintro j ⟨hj,dm⟩;refine B 6 ?_;refine aG ?_ ?_
 ·intro aJ;refine B 5 ?_;obtain⟨bo,oo,cs0,to,fk,rfl,fE,hcs,ar⟩:=aH.get zJ;obtain⟨x,hx⟩:=nj xs j zJ;refine B 3 ?_;refine zWe ?_;refine aZ zeroValue210 rfl rfl ?_;refine yW ?_;intro b8 vU vV;refine B 1 ?_;refine zfh ?_;refine B 3 ?_;obtain⟨bp,op,csp,tp,frp,rfl,Xm,y9,sX⟩:=y7.get zJ;obtain⟨y,hy⟩:=nj ys j zJ;refine B 4 ?_;refine rv rfl rfl rfl (aa (v:=.int .i64 y) isAgg3 rfl A0 y9 zU z7 (by have:=nR (enc:=λx=>(aj x).toArray) (n:=1) sX hy rfl zO;simpa[aj]using this)) ?_;refine B 8 ?_;refine nK (f:=203) (cap:=[]) rfl call203 rfl rfl rfl (λW hS=>EF x y W) ?_;refine B 3 ?_;refine aG ?_ ?_
  ·intro cO;refine B 11 ?_;refine bF (.inl rfl) results204 (RS.t rfl (RS.n)) A0 zP ?_;exact vb zfd
  intro cO;refine vd ?_;refine PJ.again (j+1) ⟨by omega,dm.next hx hy mH⟩ zJ zR rfl rfl zX
 intro aJ;refine B 11 ?_;refine ax results204 rfl A0 ?_;exact vb zfd
variable {g:Gp}
theorem za:ee g=true↔Ki g:=by unfold ee;simp
theorem Kj(h:¬Ki g):Value.bool false= .bool (ee g):=vb (by
 cases e:ee g with
 |false=>rfl
 |true=>exact absurd (za.1 e) h)
theorem nDm(h1:y6 g.folder/\0<=g.epoch/\g.epoch<=1099511627776/\gW g.ns=0)(h2:¬(g.epoch=0/\(0<g.ms.length\/jS g.last (λ_=>0)=false)))(h3:g.ms.map (·.dev)=cS g.ns):Value.bool (!g.ms.any (Nz g.epoch))= .bool (ee g):=vb (by
 by_cases h:g.ms.any (Nz g.epoch)=false
 ·rw[h,za.2 ⟨h1,h2,h3,h⟩];rfl
 cases e:ee g with
 |false=>simpa using h
 |true=>exact absurd (za.1 e).2.2.2 h)
theorem nU(G:Gv)(N:Nat)(w:World)(hN:N<=w.heap.size)(hG:aL N w G):Calls prog 144 #[.agg (bC G)] w (ay w (.bool (ee G.g))):=by
 have hn:G.g.ns.length<=100000:=by have:=hG.nn;omega
 have qo:G.g.ms.length<=1000000:=by have:=hG.mn;omega
 have aH:=hG.ns;refine enter (vs:=[_]) func144 rfl ntmps144 rfl ?_;refine B 2 ?_;refine yX ?_;intro b1 w1 aQ aX gb eO gZ;refine B 8 ?_;refine call call200 rfl rfl rfl (λW hS=>nyk _ W) ?_;refine B 2 ?_;refine nh (t:=9) rfl (λah=>?_) (λah=>?_)
 ·replace ah:=ya ah;refine B 25 ?_;refine ax results144 rfl A1 ?_;exact Kj (λh=>ah h.1.1)
 replace ah:=ya ah;refine B 5 ?_;refine nh (t:=14) rfl (λaJ=>?_) (λaJ=>?_)
 ·replace aJ:=ya aJ;refine B 20 ?_;refine ax results144 rfl A1 ?_;exact Kj (λh=>by have:=h.1.2.1;omega)
 replace aJ:=ya aJ;refine B 5 ?_;refine nh (t:=19) rfl (λcO=>?_) (λcO=>?_)
 ·replace cO:=ya cO;refine B 15 ?_;refine ax results144 rfl A1 ?_;exact Kj (λh=>by have:=h.1.2.2.1;omega)
 replace cO:=ya cO;refine B 1 ?_;refine rr (.agg #[.slice G.na G.g.ns.length G.nc]) (ai isAgg55 sizeOf55 rfl A0 aQ aX trivial (bj rfl)) ?_;refine call call201 rfl rfl rfl (λW hS=>ZE G.g.ns hn N G.na G.nc W (aR hN (hS.links w A1).size) (aH.up (ao _) (hS.same A1 hN zS Cs))) ?_;refine B 4 ?_;refine aG ?_ ?_
 ·intro gL;refine B 7 ?_;refine ax results144 rfl A1 ?_;exact Kj (λh=>gL h.1.2.2.2)
 intro gL;refine B 9 ?_;refine nh (t:=28) rfl (λgv=>?_) (λgv=>?_)
 ·replace gv:=ya gv;refine B 5 ?_;refine nh (t:=33) rfl (λje=>?_) (λje=>?_)
  ·replace je:=ya je;refine B 16 ?_;refine ax results144 rfl A1 ?_;exact Kj (λh=>h.2.1 ⟨gv,.inl zJ⟩)
  replace je:=ya je;refine B 1 ?_;refine rv rfl rfl rfl (ai isAgg34 sizeOf34 rfl A0 aQ aX trivial (bj rfl)) ?_;refine B 1 ?_;refine rr (.bool (!jS G.g.last (λ_=>0))) (ie xX zO xY rfl rfl rfl) ?_;refine B 4 ?_;refine aG ?_ ?_
  ·intro iU;refine B 7 ?_;refine ax results144 rfl A1 ?_;exact Kj (λh=>h.2.1 ⟨gv,.inr iU⟩)
  intro iU;refine B 14 ?_;by_cases h1:G.g.ms.map (·.dev)=cS G.g.ns
  ·refine zhe ?_;refine nP 11 [4] [([],some _),([0],some (.slice G.ma G.g.ms.length G.mc)),([],some _),([2],some (.agg #[.slice G.na G.g.ns.length G.nc])),([3],none),([],some _),([1,4,5],some (.bool true)),([6],some _),([7],some _),([7,8],some _),([7],some _)] (λcv L' H'=>match cv with| []=>L'=[w1,w]/\H'=[]| [v1]=>∃(a7:Option Addr) (c7:Nat) (w7:World),v1= .slice a7 (cS G.g.ns).length c7/\L'=[w7,w1,w]/\H'=[]/\ag (λx=>(aj x).toArray) 1 w7.heap.size w7 a7 (cS G.g.ns)|_=>False) zQ ⟨rfl,rfl⟩ zQ zQ zQ zQ zQ zQ (pc Q1 (pc HE (pc Q2 (pc HE (pk (pc zT (pc (λcv L' H' hd hP=>match cv,hd,hP with| [],hd,hP=>(absurd (show false=true from hd) zO)| [v1],hd,hP=>zld|_::_::_,_,hP=>hP.elim) (pc zT (pc Q1 (pc HE (pc zT (pn)))))))))))) ?_ ?_
   ·exact zui
   intro cv L' H' hl hP;obtain⟨v1,rfl⟩:=cM hl;obtain⟨a7,c7,w7,rfl,rfl,rfl,jH⟩:=hP;refine zpf ?_;refine B 6 ?_;refine ax results144 rfl A2 ?_;exact nDm ⟨ah,by omega,by omega,gL⟩ (λh=>h.2.elim (λh=>by omega) (λh=>by rw[iU]at h;cases h)) h1
  exact zpi
 replace gv:=ya gv;refine B 28 ?_;by_cases h1:G.g.ms.map (·.dev)=cS G.g.ns
 ·refine zhe ?_;refine nP 11 [4] [([],some _),([0],some (.slice G.ma G.g.ms.length G.mc)),([],some _),([2],some (.agg #[.slice G.na G.g.ns.length G.nc])),([3],none),([],some _),([1,4,5],some (.bool true)),([6],some _),([7],some _),([7,8],some _),([7],some _)] (λcv L' H'=>match cv with| []=>L'=[w1,w]/\H'=[]| [v1]=>∃(a7:Option Addr) (c7:Nat) (w7:World),v1= .slice a7 (cS G.g.ns).length c7/\L'=[w7,w1,w]/\H'=[]/\ag (λx=>(aj x).toArray) 1 w7.heap.size w7 a7 (cS G.g.ns)|_=>False) zQ ⟨rfl,rfl⟩ zQ zQ zQ zQ zQ zQ (pc Q1 (pc HE (pc Q2 (pc HE (pk (pc zT (pc (λcv L' H' hd hP=>match cv,hd,hP with| [],hd,hP=>(absurd (show false=true from hd) zO)| [v1],hd,hP=>zld|_::_::_,_,hP=>hP.elim) (pc zT (pc Q1 (pc HE (pc zT (pn)))))))))))) ?_ ?_
  ·exact zui
  intro cv L' H' hl hP;obtain⟨v1,rfl⟩:=cM hl;obtain⟨a7,c7,w7,rfl,rfl,rfl,jH⟩:=hP;refine zpf ?_;refine B 6 ?_;refine ax results144 rfl A2 ?_;exact nDm ⟨ah,by omega,by omega,gL⟩ (λh=>gv h.1) h1
 exact zpi
section
variable {C:Cx} {Q:aC} {E E0:Env} {D:List Deferred} {G:Gh} {L:List World} {H:ab}
def Q3 (C:Cx) (E:Env) (D:List Deferred) (G:Gh) (L:List World) (H:ab):aC:=λe a W=>e= .normal/\a.tmps.size=C.N/\a.defers=D/\Fits E a/\St G L H W
theorem CJ.mid{c:Code}{t:Nat}(h0:Sub E0 E)(h:CJ C c (Q3 C ((t,v)::E0) D G L H) E D G L H)(k:PJ C Q .normal ((t,v)::E0) D G L H):CJ C c Q E D G L H:=by
 intro a W hN hD hF hS;refine wpIn_mono (h a W hN hD hF hS) ?_;rintro e a' W' ⟨rfl,h1,h2,h3,h4⟩;exact k a' W' h1 h2 h3 h4
theorem PJ.mid{E':Env}(hE:Sub E' E):PJ C (Q3 C E' D G L H) .normal E D G L H:=λa W hN hD hF hS=>⟨rfl,hN,hD,hE.fits hF,hS⟩
end
def aal (x:Ch):Prop:=((x.kind=1/\(dy x.pub/\dy x.ver)/\x.cut=0)\/(x.kind=2/\x.pub=0/\x.ver=0/\(0<=x.cut/\x.cut<=1048576))\/(x.kind=3/\(dy x.pub/\dy x.ver)/\(0<=x.cut/\x.cut<=1048576)))/\dD x.dev
def HF (kv:List (Int×Bool)) (x:Ch):List (Int×Bool):=bQ kv x.dev true
def Kk (l:List Ch):List (Int×Bool):=l.foldl HF []
theorem nCi{l:List Ch}{x:Ch}(hx:l[j]? =some x):Kk (l.take (j+1))=bQ (Kk (l.take j)) x.dev true:=by rw[nC hx];simp[Kk,HF,Cq]
def Kl (l:List Ch) (i:Nat) (x:Ch):Prop:=aal x/\(av (Kk (l.take i)) x.dev).getD false=false
def sY (l:List Ch) (j:Nat):Prop:=∀i x,i<j->l[i]? =some x->Kl l i x
theorem sY.next{l:List Ch}{x:Ch}(h:sY l j)(hx:l[j]? =some x)(hk:Kl l j x):sY l (j+1):=by
 exact zhk
def Q4 (l:List Ch):Prop:=sY l l.length/\l.length<=64
open Classical in
noncomputable def iO (l:List Ch):Bool:=decide (Q4 l)
theorem Q5{l:List Ch}:iO l=true↔Q4 l:=by unfold iO;simp
theorem nmc{l:List Ch}{x:Ch}(hx:l[j]? =some x)(h:¬Kl l j x):Value.bool false= .bool (iO l):=vb (by
 cases e:iO l with
 |false=>rfl
 |true=>exact absurd ((Q5.1 e).1 j x (nE hx) hx) h)
theorem n8g{l:List Ch}(h:sY l j)(hj:¬j<l.length):Value.bool (decide ((l.length:Int)<=64))= .bool (iO l):=vb (by
 have h1:sY l l.length:=λi x hi hx=>h i x zJ hx;cases e:iO l with
 |false=>exact decide_eq_false (λh2=>absurd (Q5.2 ⟨h1,by omega⟩) (by rw[e];decide))
 |true=>have:=(Q5.1 e).2;exact decide_eq_true zJ)
theorem nLc(l:List Ch)(cj:l.length<=1000000)(N:Nat)(a:Option Addr)(cp:Nat)(w:World)(hN:N<=w.heap.size)(aH:ag ez 5 N w a l):Calls prog 208 #[.slice a l.length cp] w (ay w (.bool (iO l))):=by
 refine enter (vs:=[_]) func208 rfl ntmps208 rfl ?_;refine B 7 ?_;refine Eh Value.bool rfl rfl ?_;refine yW ?_;intro b9 qD I0;refine B 12 ?_;refine CJ.loop (α:=Mp×Nat) (λp=>[(0,.slice a l.length cp),(3,.map (some b9)),(10,.slice a l.length cp),(11,.int .i64 (l.length:Int)),(12,.int .i64 (p.2:Int))]) (λp=>[(b9,p.1.obj Value.bool (Kk (l.take p.2)))]) (λp=>[w]) (λp=>Gh.no) (λp=>p.2<=l.length/\p.1.Ok (Kk (l.take p.2))/\sY l p.2) (λp=>l.length-p.2) (⟨[],0⟩,0) ⟨db _,Mp.nil,λi x hi=>absurd hi zJ⟩ zR rfl rfl zX ?_;rintro⟨m,j⟩ ⟨hj,hm,dm⟩;dsimp only at hj hm dm ⊢;refine B 6 ?_;refine aG ?_ ?_
 ·intro ah;refine B 5 ?_;obtain⟨bo,oo,cs0,to,fk,rfl,fE,hcs,ar⟩:=aH.get zJ;obtain⟨x,hx⟩:=nj l j zJ;obtain⟨e1,tY⟩:∃e,(if dy x.pub then(0:Int)else 40)=e:=⟨_,rfl⟩;obtain⟨e2,yn⟩:∃e,(if dy x.ver then(0:Int)else 40)=e:=⟨_,rfl⟩;have Km:=Q0 x.pub;rw[tY]at Km;have Kn:=Q0 x.ver;rw[yn]at Kn;refine B 2 ?_;refine rq (.agg (ez x)) (ai isAgg233 sizeOf233 rfl A0 hcs zU Ej (nk ar hx rfl)) (va (nr ar hx rfl)) ?_;refine Ko ?_;refine yW ?_;intro b5 iH iI;refine Kp ?_;refine B 3 ?_;refine CJ.mid (t:=6) (v:=.bool (decide (e1=0/\e2=0))) (E0:=[(0,_),(3,_),(5,_),(10,_),(11,_),(12,_),(13,_),(14,_),(15,_)]) zR ?_ ?_
  ·refine B 3 ?_;refine call call63 rfl rfl rfl (λW hS=>by rw[<-tY];exact nJ _ W) (v:=.int .i64 e1) ?_;refine B 2 ?_;refine nh (t:=20) rfl (λaJ=>?_) (λaJ=>?_)
   ·replace aJ:=ya aJ;refine B 2 ?_;refine call call63 rfl rfl rfl (λW hS=>by rw[<-yn];exact nJ _ W) (v:=.int .i64 e2) ?_;refine B 4 ?_;exact z4j
   replace aJ:=ya aJ;refine B 7 ?_;exact z4j
  refine B 2 ?_;refine CJ.mid (t:=7) (v:=.bool (decide (0<=x.cut/\x.cut<=1048576))) (E0:=[(0,_),(3,_),(5,_),(6,_),(10,_),(11,_),(12,_),(13,_),(14,_),(15,_)]) zR ?_ ?_
  ·refine B 5 ?_;refine nh (t:=29) rfl (λcO=>?_) (λcO=>?_)
   ·exact zwj
   exact zwj
  refine B 13 ?_;refine CJ.mid (t:=8) (v:=.bool (decide ((x.kind=1/\(e1=0/\e2=0)/\x.cut=0)\/(x.kind=2/\x.pub=0/\x.ver=0/\(0<=x.cut/\x.cut<=1048576))\/(x.kind=3/\(e1=0/\e2=0)/\(0<=x.cut/\x.cut<=1048576))))) (E0:=[(0,_),(3,_),(5,_),(6,_),(7,_),(10,_),(11,_),(12,_),(13,_),(14,_),(15,_),(34,_),(35,_)]) zR ?_ ?_
  ·refine B 7 ?_;refine aG ?_ ?_
   ·intro gL;refine B 3 ?_;refine nh (t:=39) rfl (λgv=>?_) (λgv=>?_)
    ·replace gv:=ya gv;refine B 7 ?_;exact Q6
    replace gv:=ya gv;refine B 7 ?_;exact Q6
   intro gL;refine B 6 ?_;refine aG ?_ ?_
   ·intro je;refine B 5 ?_;refine nh (t:=49) rfl (λiU=>?_) (λiU=>?_)
    ·replace iU:=ya iU;refine B 5 ?_;refine nh (t:=54) rfl (λrZ=>?_) (λrZ=>?_)
     ·replace rZ:=ya rZ;exact Vj
     replace rZ:=ya rZ;exact Vj
    replace iU:=ya iU;refine B 10 ?_;exact Q6
   intro je;refine B 6 ?_;refine aG ?_ ?_
   ·intro qg;refine B 3 ?_;refine nh (t:=60) rfl (λpv=>?_) (λpv=>?_)
    ·replace pv:=ya pv;exact Vj
    replace pv:=ya pv;exact Vj
   intro qg;refine B 2 ?_;exact Q6
  refine B 7 ?_;refine nh (t:=65) rfl (λpw=>?_) (λpw=>?_)
  ·replace pw:=ya pw;refine B 26 ?_;exact Vk
  replace pw:=ya pw;refine B 2 ?_;refine call call207 rfl rfl rfl (λW hS=>Vg _ W) ?_;refine B 3 ?_;refine nh (t:=71) rfl (λkb=>?_) (λkb=>?_)
  ·replace kb:=ya kb;refine B 20 ?_;exact Vk
  replace kb:=ya kb;refine B 3 ?_;refine rq (.bool ((av (Kk (l.take j)) x.dev).getD false)) (pN (ev:=Value.bool) underlying351 underlying3 zeroValue4 hm (bL.own (i:=1) rfl) rfl rfl) (nyj _) ?_;refine B 3 ?_;refine aG ?_ ?_
  ·intro ke;refine B 12 ?_;exact Vk
  intro ke;refine B 6 ?_;refine Hr (i:=1) (ev:=Value.bool) (v:=true) rfl hm underlying351 underlying3 rfl rfl rfl rfl ?_;intro m3 aD;refine vd ?_;refine PJ.again (m3,j+1) ⟨by dsimp only;omega,by rw[nCi hx];exact aD,dm.next hx ⟨⟨by rw[<-Km,<-Kn];assumption,by assumption⟩,by assumption⟩⟩ dG zR (by rw[nCi hx];rfl) rfl zX
 intro ah;refine B 14 ?_;exact Vk
theorem zb{U:Nat}{y:Operand}{a b:Bool}(hU:C.P.underlying T=some .bool)(hx:ev E x=some (.bool a))(hy:ev E y=some (.bool b)):RV C G L H E (.binOp .neq T x y U) (.bool (a != b)):=λd ty pos aA g ac W hF _=>by
 have h1:(Op.equalIn (9999+1) T (.bool a) (.bool b)).run C.P W= .ok (a==b) W:=by
  generalize 9999=n;exact PD
 have h2:(binOp .neq T (.bool a) (.bool b)).run C.P W= .ok (.bool (a != b)) W:=by
  have e:binOp .neq T (.bool a) (.bool b)=(do pure (.bool (!(<-Op.equalIn (9999+1) T (.bool a) (.bool b))))):=rfl;rw[e,Sem.run_bind,h1];rfl
 have h3:(eqGuard .neq T x y (.bool a) (.bool b)).run C.P W= .ok () W:=by simp[eqGuard]
 simp only[execOp,hF.ev hx,hF.ev hy,Sem.run_bind,h3,h2,Result.andThen];rfl
def EG (g:Gp) (own:Bool) (au:Int) (x:Ch):Bool:=(gF g.ms x.dev==decide (x.kind=1))||(own&&decide (x.dev=au))
def ow (g:Gp) (au:Int) (l:List Ch):Bool:= !((gF g.ms au != decide (0<g.epoch))||(decide (g.epoch=0)&&(decide (l.length=0)|| !decide ((l[0]?.map (·.dev))=some au))))&& !(l.any (EG g (gF g.ms au) au))
theorem nHd(G:Gv)(N:Nat)(w:World)(hN:N<=w.heap.size)(hG:aL N w G)(d:Int):Calls prog 217 #[.agg (bC G),.int .i64 d] w (ay w (.tuple #[.int .i64 (lg G.g.ms d:Int),.bool (gF G.g.ms d)])):=by
 refine enter (vs:=[_,_]) func217 rfl ntmps217 rfl ?_;refine B 2 ?_;refine yX ?_;intro b2 w2 aU aN dY cR cX;refine B 9 ?_;refine call call259 rfl rfl rfl (λW hS=>ndo G.g.ms (by have:=hG.mn;omega) N G.ma G.mc W (aR hN (hS.links w A1).size) (hG.ms.up (ao _) (hS.same A1 hN zS zM)) d) ?_;refine B 7 ?_;refine nS results217 rfl rfl A1 ?_ ?_;all_goals rfl
theorem nZh(G:Gv)(N:Nat)(w:World)(hN:N<=w.heap.size)(hG:aL N w G)(b1 b2 b3:Nat)(own:Bool)(au:Int)(aQ:w.heap[b1]? =some (.cells (bC G) 57 (0,0)))(aU:w.heap[b2]? =some (.cells #[.bool own] 4 (0,0)))(aM:w.heap[b3]? =some (.cells #[.int .i64 au] 3 (0,0)))(x:Ch):Calls prog 254 #[.agg (ez x),ptr b1 0,ptr b2 0,ptr b3 0] w (ay w (.bool (EG G.g own au x))):=by
 have aX:¬Gh.no.X b1:=λh=>h;have aN:¬Gh.no.X b2:=λh=>h;have aD:¬Gh.no.X b3:=λh=>h;refine enter (vs:=[_,_,_,_]) func254 rfl ntmps254 rfl ?_;refine B 2 ?_;refine yX ?_;intro b4 w4 ew eR pA dO dU;refine B 5 ?_;refine rr (.agg (bC G)) (ai isAgg57 sizeOf57 rfl A1 aQ aX trivial (bj rfl)) ?_;refine B 2 ?_;refine call call217 rfl rfl rfl (λW hS=>nHd G N W (aR hN (hS.links w A1).size) (hG.up (ao _) (hS.same A1 hN zS zM)) x.dev) ?_;refine B 13 ?_;refine rv rfl rfl rfl (Kq underlying4 rfl rfl) ?_;refine B 1 ?_;refine nh (t:=20) rfl (λah=>?_) (λah=>?_)
 ·replace ah:=ya ah;refine B 12 ?_;exact zzj
 replace ah:=ya ah;refine B 2 ?_;refine nh (t:=22) rfl (λaJ=>?_) (λaJ=>?_)
 ·replace aJ:=ya aJ;refine B 10 ?_;exact zzj
 replace aJ:=ya aJ;refine B 10 ?_;exact zzj
theorem nse(G:Gv)(N:Nat)(w:World)(hN:N<=w.heap.size)(hG:aL N w G)(l:List Ch)(cj:l.length<=1000000)(a:Option Addr)(cp:Nat)(aH:ag ez 5 N w a l)(au:Int):Calls prog 210 #[.agg (bC G),.int .i64 au,.slice a l.length cp] w (ay w (.bool (ow G.g au l))):=by
 refine enter (vs:=[_,_,_]) func210 rfl ntmps210 rfl ?_;refine B 2 ?_;refine yX ?_;intro b3 w3 aM aD da cd cP;refine yX ?_;intro b4 w4 ew eR pA dO dU;refine B 5 ?_;refine rr (.agg (bC G)) (ae isAgg57 sizeOf57 rfl A1 aM aD trivial rfl) ?_;refine B 1 ?_;refine call call217 rfl rfl rfl (λW hS=>nHd G N W (aR hN (hS.links w A2).size) (hG.up (ao _) (hS.same A2 hN zS zM)) au) ?_;refine B 3 ?_;refine aZ zeroValue4 rfl rfl ?_;refine yW ?_;intro b8 vU vV;refine B 1 ?_;refine Qi ?_;refine B 4 ?_;by_cases h1:gF G.g.ms au≠decide (0<G.g.epoch)
 ·refine Vl ?_;refine nl 19 [.det [] _,.det [] _,.det [1] _,.det [2] _,.det [0,3] _,.det [4] _,.det [5] undef,.det [5,6] undef,.det [5,7] undef,.det [5,8] undef,.det [9] undef,.det [9,10] undef,.det [9,11] undef,.det [9,12] undef,.det [13] undef,.det [13,14] undef,.det [13,15] undef,.det [13,16] undef,.det [13] undef] zQ (xc Vm (xc EH (xc Kr (xc Vn (xc (by exact λaf=>X.val rfl rfl (RV.re (v':=.bool true) (zb underlying4 rfl rfl) (vb zc)) (λ_ _=>rfl)) (xc zN (xc zL (xc zL (xc zL (xc zL (xc zL (xc zL (xc zL (xc zL (xc zL (xc zL (xc zL (xc zL (xc zL (xn)))))))))))))))))))) zQ zQ zQ (λaf=>?_);refine B 14 ?_;exact Q7
 by_cases h2:¬G.g.epoch=0
 ·refine Vl ?_;refine nl 19 [.det [] _,.det [] _,.det [1] _,.det [2] _,.det [0,3] _,.det [4] _,.det [5] _,.det [5,6] _,.det [5,7] _,.det [5,8] _,.det [9] undef,.det [9,10] undef,.det [9,11] undef,.det [9,12] undef,.det [13] undef,.det [13,14] undef,.det [13,15] undef,.det [13,16] undef,.det [13] undef] zQ (xc Vm (xc EH (xc Kr (xc Vn (xc ztd (xc zN (xc EH (xc Kr (xc zNd (xc zN (xc zL (xc zL (xc zL (xc zL (xc zL (xc zL (xc zL (xc zL (xc zL (xn)))))))))))))))))))) zQ zQ zQ (λaf=>?_);refine B 19 ?_;refine zxe ?_;refine B 5 ?_;exact Q7
 by_cases h3:l.length=0
 ·refine Vl ?_;refine nl 19 [.det [] _,.det [] _,.det [1] _,.det [2] _,.det [0,3] _,.det [4] _,.det [5] _,.det [5,6] _,.det [5,7] _,.det [5,8] _,.det [9] _,.det [9,10] _,.det [9,11] _,.det [9,12] _,.det [13] undef,.det [13,14] undef,.det [13,15] undef,.det [13,16] undef,.det [13] undef] zQ (xc Vm (xc EH (xc Kr (xc Vn (xc ztd (xc zN (xc EH (xc Kr (xc zsd (xc zN (xc zN (xc (by exact λaf=>X.val rfl rfl (ib underlying95 rfl) (λ_ _=>rfl)) (xc zsd (xc zN (xc zL (xc zL (xc zL (xc zL (xc zL (xn)))))))))))))))))))) zQ zQ zQ (λaf=>?_);refine B 14 ?_;exact Q7
 obtain⟨bo,oo,cs0,to,fk,rfl,fE,hcs,ar⟩:=aH.get zJ;obtain⟨x,hx⟩:=nj l 0 zJ;refine Vl ?_;refine nl 19 [.det [] _,.det [] _,.det [1] _,.det [2] _,.det [0,3] _,.det [4] _,.det [5] _,.det [5,6] _,.det [5,7] _,.det [5,8] _,.det [9] _,.det [9,10] _,.det [9,11] _,.det [9,12] _,.det [13] _,.det [13,14] _,.det [13,15] _,.det [13,16] _,.det [13] _] zQ (xc Vm (xc EH (xc Kr (xc Vn (xc ztd (xc zN (xc EH (xc Kr (xc zsd (xc zN (xc zN (xc (by exact λaf=>X.val rfl rfl (ib underlying95 rfl) (λ_ _=>rfl)) (xc zNd (xc zN (xc zN (xc (by exact λaf=>X.val rfl rfl (cD underlying95 sizeOf233 rfl rfl zJ zJ) (λ_ _=>rfl)) (xc (by exact λaf=>X.val rfl rfl (al underlying233 rfl sizeOf3 rfl) (λ_ _=>rfl)) (xc (by exact λaf=>X.val rfl rfl (aa (v:=.int .i64 x.dev) isAgg3 rfl A2 hcs zU z7 (by have:=wz ar hx (i:=0) rfl 1 zO;simpa[ez]using this)) (λ_ _=>rfl)) (xc (by exact λaf=>X.val rfl rfl (aa isAgg3 rfl A0 ew eR zI rfl) (λ_ _=>rfl)) (xn)))))))))))))))))))) zQ zQ zQ (λaf=>?_);refine B 6 ?_;refine aG ?_ ?_
 ·intro ah;refine B 7 ?_;exact Q7
 intro ah;refine B 12 ?_;refine zxe ?_;refine B 5 ?_;exact Q7
noncomputable def lh (ns:List Nd) (d:Int):List Nd:=if gW ns=0/\(av (cL ns) (512+d)).isSome=true then mI (k9 (cL ns) d)else[]
noncomputable def qX (ns:List Nd) (d:Int):Int:=if gW ns=0 then(if(av (cL ns) (512+d)).isSome=true then 0 else 200)else 210
open Classical in
noncomputable def lj (ns:List Nd) (d p:Int):List Nd:=if gW ns=0/\dy p then mI (bQ (k9 (cL ns) d) (512+d) p)else[]
open Classical in
noncomputable def qY (ns:List Nd) (d p:Int):Int:=if gW ns=0 then(if dy p then 0 else 50)else 210
theorem zd(ns:List Nd)(d:Int):(lh ns d).length<=ns.length:=by
 unfold lh;split
 ·rw[ZN];exact aR (QQ _ _) (Np _)
 simp
theorem ze(ns:List Nd)(d p:Int):(lj ns d p).length<=ns.length+1:=by
 unfold lj;split
 ·rw[ZN];exact aR (Nn _ _ _) (Nat.succ_le_succ (aR (QQ _ _) (Np _)))
 simp
theorem ncj(ns:List Nd)(hn:ns.length<=100000)(N:Nat)(a:Option Addr)(cp:Nat)(w:World)(hN:N<=w.heap.size)(aH:ag fF 2 N w a ns)(d:Int)(hd:dD d):Calls prog 221 #[.agg #[.slice a ns.length cp],.int .i64 d] w (nD w eW 2 355 (lh ns d) (λs=>.tuple #[.agg #[s],.int .i64 (qX ns d)])):=by
 rcases U3 ns with h|h
 ·by_cases h2:(av (cL ns) (512+d)).isSome=true
  ·have e1:lh ns d=mI (k9 (cL ns) d):=by unfold lh;rw[if_pos ⟨h,h2⟩]
   have e2:qX ns d=0:=by unfold qX;rw[if_pos h,if_pos h2]
   rw[e1,e2];exact nmo ns hn N a cp w hN aH h d hd h2
  have e1:lh ns d=[]:=by unfold lh;rw[if_neg λg=>h2 g.2]
  have e2:qX ns d=200:=by unfold qX;rw[if_pos h,if_neg h2]
  rw[e1,e2];exact nvo ns hn N a cp w hN aH h d hd HG
 have e1:lh ns d=[]:=by unfold lh;rw[if_neg λg=>by have:=g.1;omega]
 have e2:qX ns d=210:=by unfold qX;rw[if_neg zJ]
 rw[e1,e2];exact nDn ns hn N a cp w hN aH h d
theorem ngm(ns:List Nd)(hn:ns.length<=100000)(N:Nat)(a:Option Addr)(cp:Nat)(w:World)(hN:N<=w.heap.size)(aH:ag fF 2 N w a ns)(d p:Int)(hd:dD d)(tM:ns.length<100000):Calls prog 222 #[.agg #[.slice a ns.length cp],.int .i64 d,.int .i64 p] w (nD w eW 2 355 (lj ns d p) (λs=>.tuple #[.agg #[s],.int .i64 (qY ns d p)])):=by
 rcases U3 ns with h|h
 ·by_cases h2:dy p
  ·have e1:lj ns d p=mI (bQ (k9 (cL ns) d) (512+d) p):=by unfold lj;rw[if_pos ⟨h,h2⟩]
   have e2:qY ns d p=0:=by unfold qY;rw[if_pos h,if_pos h2]
   rw[e1,e2];exact J6 ns hn N a cp w hN aH h d p hd tM (if_pos h2)
  have e1:lj ns d p=[]:=by unfold lj;rw[if_neg λg=>h2 g.2]
  have e2:qY ns d p=50:=by unfold qY;rw[if_pos h,if_neg h2]
  rw[e1,e2];exact Ew ns hn N a cp w hN aH h d p hd (if_neg h2)
 have e1:lj ns d p=[]:=by unfold lj;rw[if_neg λg=>by have:=g.1;omega]
 have e2:qY ns d p=210:=by unfold qY;rw[if_neg zJ]
 rw[e1,e2];exact Ev ns hn N a cp w hN aH h d p
noncomputable def sZ (ns:List Nd) (x:Ch):List Nd:=if x.kind=2 then lh ns x.dev else lj ns x.dev x.pub
noncomputable def cT (ns:List Nd) (l:List Ch):List Nd:=l.foldl sZ ns
theorem nPj{l:List Ch}{x:Ch}(hx:l[j]? =some x):cT ns (l.take (j+1))=sZ (cT ns (l.take j)) x:=by rw[nC hx];simp[cT,Cq]
theorem nRk{l:List Ch}{x:Ch}(hx:l[j]? =some x)(h:x.kind=2):cT ns (l.take (j+1))=lh (cT ns (l.take j)) x.dev:=by rw[nPj hx];unfold sZ;rw[if_pos h]
theorem nWk{l:List Ch}{x:Ch}(hx:l[j]? =some x)(h:¬x.kind=2):cT ns (l.take (j+1))=lj (cT ns (l.take j)) x.dev x.pub:=by rw[nPj hx];unfold sZ;rw[if_neg h]
theorem Vo(l:List Ch):∀ns:List Nd,(cT ns l).length<=ns.length+l.length:=by
 induction l with
 |nil=>intro ns;simp[cT]
 |cons x l ih=>
  intro ns;have h1:=ih (sZ ns x);have h2:(sZ ns x).length<=ns.length+1:=by
   unfold sZ;split
   ·have:=zd ns x.dev;omega
   exact ze _ _ _
  simp only[cT,List.foldl_cons,dQ]at *;omega
theorem nao(ns:List Nd)(l:List Ch)(j:Nat)(hj:j<=l.length):(cT ns (l.take j)).length<=ns.length+l.length:=by
 have:=Vo (l.take j) ns;rw[jD]at this;omega
theorem zf(ns:List Nd)(l:List Ch)(j:Nat)(h:¬j<l.length):cT ns (l.take j)=cT ns l:=by rw[iV zJ]
theorem ag.to{α:Type}{enc:α->Array Value}{n:Nat}{w:World}{xs:List α}(h:ag enc n N w a xs)(hS:St Gh.no L H W)(hw:w∈L)(hN:N<=w.heap.size)(ho:∀b off,a=some ⟨b,off,none⟩->xs=[]\/bD H b):ag enc n W.heap.size W a xs:=by
 by_cases h0:xs=[]
 ·exact .inl h0
 exact h.blk λb off e hb=>⟨by have:=(hS.links w hw).size;omega,(hS.links w hw).block b zJ (λhx=>hx.elim id ((ho b off e).resolve_left h0).mem)⟩
abbrev Q8 {α:Type} (N:Nat) (w:World) (enc:α->Array Value) (n:Nat) (xs:List α) (v:Value->Value):Ending->World->Prop:=cJ w (λq:Option Addr×Nat=>v (.slice q.1 xs.length q.2)) (λq w'=>ag enc n w'.heap.size w' q.1 xs/\∀b off,q.1=some ⟨b,off,none⟩->xs=[]\/b<N\/w.heap.size<=b)
theorem ag.lt{α:Type}{enc:α->Array Value}{n:Nat}{w:World}{xs:List α}(h:ag enc n N w a xs){off:Nat}(e:a=some ⟨b,off,none⟩):xs=[]\/b<N:=by
 rcases h with h|⟨b',off',cs,t,fr,h1,h2,_⟩
 ·exact .inl h
 rw[h1]at e;cases e;exact .inr h2
theorem ngd(G:Gv)(N:Nat)(w:World)(hN:N<=w.heap.size)(hG:aL N w G)(l:List Ch)(cj:l.length<=1000000)(a:Option Addr)(cp:Nat)(aH:ag ez 5 N w a l)(su:l.length<=64)(NA:∀x∈l,dD x.dev):Calls prog 155 #[.agg (bC G),.slice a l.length cp] w (Q8 N w fF 2 (cT G.g.ns l) (λs=>.agg #[s])):=by
 have M6:=hG.nn;refine enter (vs:=[_,_]) func155 rfl ntmps155 rfl ?_;refine B 2 ?_;refine yX ?_;intro b2 w2 aU aN dY cR cX;refine vf ?_;refine yW ?_;intro b4 dO dU;refine B 5 ?_;refine rr (.agg #[.slice G.na G.g.ns.length G.nc]) (ai isAgg55 sizeOf55 rfl A0 aU aN zI (bj rfl)) ?_;refine vf ?_;refine yW ?_;intro b5 iH iI;refine QL ?_;refine B 11 ?_;refine CJ.loop (α:=(Option Addr×Nat)×World×Nat) (λp=>[(4,ptr b4 0),(5,ptr b5 0),(10,.slice a l.length cp),(11,.int .i64 (l.length:Int)),(12,.int .i64 (p.2.2:Int))]) (λp=>[(b5,.cells #[.slice p.1.1 (cT G.g.ns (l.take p.2.2)).length p.1.2] 55 (0,0)),(b4,.cells #[.slice none 0 0] 55 (0,0))]) (λp=>[p.2.1,w]) (λp=>Gh.no) (λp=>p.2.2<=l.length/\w.heap.size<=p.2.1.heap.size/\ag fF 2 p.2.1.heap.size p.2.1 p.1.1 (cT G.g.ns (l.take p.2.2))/\∀b off,p.1.1=some ⟨b,off,none⟩->cT G.g.ns (l.take p.2.2)=[]\/(b≠b5/\b≠b4/\(b<N\/w.heap.size<=b))) (λp=>l.length-p.2.2) ((G.na,G.nc),w,0) ⟨db _,ao _,hG.ns.up hN R2,λb off e=>by rcases hG.ns.lt e with h|h;(exact .inl h);exact .inr zJ⟩ zR rfl rfl zX ?_;rintro⟨⟨ta,tc⟩,wk,j⟩ ⟨hj,hwk,bV,dm⟩;dsimp only at hj hwk bV dm ⊢;refine B 6 ?_;refine aG ?_ ?_
 ·intro ah;refine B 5 ?_;obtain⟨bo,oo,cs0,to,fk,rfl,fE,hcs,ar⟩:=aH.get zJ;obtain⟨x,hx⟩:=nj l j zJ;have hd:=NA x (cb hx);have Ks:=nao G.g.ns l j zJ;refine B 2 ?_;refine rq (.agg (ez x)) (ai isAgg233 sizeOf233 rfl A1 hcs zU z7 (nk ar hx rfl)) (va (nr ar hx rfl)) ?_;refine Ko ?_;refine yW ?_;intro b7 gd oN;refine Kp ?_;refine B 9 ?_;refine aG ?_ ?_
  ·intro aJ;refine B 4 ?_;refine OJ.dropAt (i:=0) rfl zW ?_;refine n0 (enc:=eW) (m:=2) (t:=355) (xs:=lh (cT G.g.ns (l.take j)) x.dev) (v:=λs=>.tuple #[.agg #[s],.int .i64 (qX (cT G.g.ns (l.take j)) x.dev)]) (first:=[]) (cap:=[]) rfl call221 rfl rfl rfl Qz (λW hS=>ncj (cT G.g.ns (l.take j)) zJ W.heap.size ta tc W (ao _) (bV.to hS A0 (ao _) (λb off e=>by rcases dm b off e with h9|h9;(exact .inl h9);rcases bV.lt e with h8|h8;(exact .inl h8);refine .inr ?_;simp only[bD,cZ,eB,pG,and_true];omega)) x.dev hd) ?_;intro W9 a9 cp9 wk9 kL ui kx zg;have hU9:=kL.under;simp only[nY,cZ,eB,pG,and_true]at hU9;have lG:=ui.size;have Ui:=(kL.links w A1).size;refine B 3 ?_;refine QL ?_;refine B 7 ?_;refine PJ.again ((a9,cp9),wk9,j+1) ⟨by dsimp only;omega,by dsimp only;omega,by dsimp only;rw[nRk hx gw];exact kx,λb off e=>by have:=zg _ e;dsimp only at this;exact .inr zJ⟩ dG zR (by rw[nRk hx gw];rfl) rfl zX
  intro aJ;refine B 6 ?_;refine OJ.dropAt (i:=0) rfl zW ?_;refine n0 (enc:=eW) (m:=2) (t:=355) (xs:=lj (cT G.g.ns (l.take j)) x.dev x.pub) (v:=λs=>.tuple #[.agg #[s],.int .i64 (qY (cT G.g.ns (l.take j)) x.dev x.pub)]) (first:=[]) (cap:=[]) rfl call222 rfl rfl rfl Qz (λW hS=>ngm (cT G.g.ns (l.take j)) zJ W.heap.size ta tc W (ao _) (bV.to hS A0 (ao _) (λb off e=>by rcases dm b off e with h9|h9;(exact .inl h9);rcases bV.lt e with h8|h8;(exact .inl h8);refine .inr ?_;simp only[bD,cZ,eB,pG,and_true];omega)) x.dev x.pub hd zJ) ?_;intro W9 a9 cp9 wk9 kL ui kx zg;have hU9:=kL.under;simp only[nY,cZ,eB,pG,and_true]at hU9;have lG:=ui.size;have Ui:=(kL.links w A1).size;refine B 3 ?_;refine QL ?_;refine B 7 ?_;refine PJ.again ((a9,cp9),wk9,j+1) ⟨by dsimp only;omega,by dsimp only;omega,by dsimp only;rw[nWk hx gw];exact kx,λb off e=>by have:=zg _ e;dsimp only at this;exact .inr zJ⟩ dG zR (by rw[nWk hx gw];rfl) rfl zX
 intro ah;refine B 6 ?_;rw[zf _ _ _ zJ]at bV dm ⊢;refine B 2 ?_;refine bh (i:=1) rfl sizeOf55 rfl rfl rfl rfl rfl rfl ?_;refine B 3 ?_;exact bH (.inl rfl) results155 (RS.wA (i:=1) rfl isAgg55 sizeOf55 rfl (bj rfl) RS.n) λW hS=>⟨(ta,tc),rfl,hS.base A1 zM,bV.to hS A0 (ao _) (λb off e=>by rcases dm b off e with h9|h9;(exact .inl h9);exact .inr z7),λb off e=>(dm b off e).imp id (λh=>h.2.2)⟩
noncomputable def lH (ns:List Nd) (au:Int) (i:Nat):List (Int×Int):=(List.range i).flatMap λ(t:Nat)=>(lb ns (((ig au)[t]?).getD 0)).map λn=>((t:Int)+1,n)
noncomputable def jl (ns:List Nd) (au:Int):List (Int×Int):=lH ns au 9
theorem nEl(ns:List Nd)(au:Int){s:Int}(hs:(ig au)[i]? =some s):lH ns au (i+1)=lH ns au i++(lb ns s).map λn=>((i:Int)+1,n):=by simp[lH,List.range_succ,hs]
theorem nIk(ns:List Nd)(au:Int)(i:Nat):∀k,lH ns au i <+:lH ns au (i+k)
 |0=>List.prefix_refl _
 |k+1=>(nIk ns au i k).trans (by
  have:lH ns au (i+(k+1))=lH ns au (i+k)++(lb ns (((ig au)[i+k]?).getD 0)).map λn=>(((i+k:Nat):Int)+1,n):=by rw[<-Nat.add_assoc];simp[lH,List.range_succ]
  rw[this];exact List.prefix_append _ _)
theorem EI{s:Int}(hs:(ig au)[i]? =some s)(hi:i<9){p:List (Int×Int)}(h:p <+:(lb ns s).map λn=>((i:Int)+1,n)):lH ns au i++p <+:jl ns au:=by
 have h1:lH ns au i++p <+:lH ns au (i+1):=by rw[nEl ns au hs];exact(List.prefix_append_right_inj _).2 h
 refine h1.trans ?_;have h2:=nIk ns au (i+1) (8-i);rw[show i+1+(8-i)=9 by omega]at h2;exact h2
theorem n5m(ns:List Nd)(au:Int):∀i,(lH ns au i).length<=1024*i
 |0=>by simp[lH]
 |i+1=>by
  have h1:=n5m ns au i;have h2:=nHj ns (((ig au)[i]?).getD 0);have:lH ns au (i+1)=lH ns au i++(lb ns (((ig au)[i]?).getD 0)).map λn=>((i:Int)+1,n):=by simp[lH,List.range_succ]
  rw[this,cK,fp];omega
theorem zh(ns:List Nd)(au:Int):(jl ns au).length<=9216:=n5m ns au 9
noncomputable def Cy (ns:List Nd) (i:Nat) (s:Int) (j:Nat):List (Int×Int):=((lb ns s).take j).map λn=>((i:Int)+1,n)
theorem zi(ns:List Nd)(i:Nat)(s:Int):Cy ns i s 0=[]:=rfl
theorem n8k{s:Int}{n:Int}(h:(lb ns s)[j]? =some n):Cy ns i s (j+1)=Cy ns i s j++[((i:Int)+1,n)]:=by unfold Cy;rw[nC h];simp
theorem EJ(ns:List Nd)(i:Nat)(s:Int)(h:¬j<(lb ns s).length):Cy ns i s j=(lb ns s).map λn=>((i:Int)+1,n):=by unfold Cy;rw[iV zJ]
theorem EK(ns:List Nd)(i:Nat)(s:Int)(j:Nat):Cy ns i s j <+:(lb ns s).map λn=>((i:Int)+1,n):=(List.take_prefix _ _).map _
def zj (p:Int×Int):List Value:=[.int .i64 p.1,.int .i64 p.2]
def Q9 (b1 b2:Nat) (ns:List Nd) (ta:Option Addr):aB:=λk=>k=b1\/k=b2\/(ns≠ []/\∃off,ta=some ⟨k,off,none⟩)
theorem ag.toG{α:Type}{enc:α->Array Value}{n:Nat}{w:World}{xs:List α}(h:ag enc n N w a xs)(hS:St G L H W)(hw:w∈L)(hN:N<=w.heap.size)(ho:∀b off,a=some ⟨b,off,none⟩->xs=[]\/(b<N->¬G.X b/\bD H b)):ag enc n W.heap.size W a xs:=by
 by_cases h0:xs=[]
 ·exact .inl h0
 exact h.blk λb off e hb=>⟨by have:=(hS.links w hw).size;omega,(hS.links w hw).block b zJ (λhx=>hx.elim ((ho b off e).resolve_left h0 hb).1 ((ho b off e).resolve_left h0 hb).2.mem)⟩
theorem nwm(ns:List Nd)(hn:ns.length<=100000)(au:Int)(oS:dD au)(b1 b2:Nat)(NT:Nat)(ta:Option Addr)(tc:Nat)(W:World)(hNW:NT<=W.heap.size)(bV:ag fF 2 NT W ta ns)(aQ:W.heap[b1]? =some (.cells #[.int .i64 au] 3 (0,0)))(aU:W.heap[b2]? =some (.cells #[.slice ta ns.length tc] 55 (0,0))):u7 prog 255 [ptr b1 0,ptr b2 0] zj (wt (jl ns au)) (Is (jl ns au)) (λ_=>False) (Q9 b1 b2 ns ta) W:=by
 intro l M I X0 hM hI hX hy h0;have aX:¬(cF hM (λ_=>False) (hI [] _)).X b1:=by rintro(h|h);exact(hM _ h).2.2 (.inl rfl);exact h.elim
 have aN:¬(cF hM (λ_=>False) (hI [] _)).X b2:=by rintro(h|h);exact(hM _ h).2.2 (.inr (.inl rfl));exact h.elim
 have mE:=(aT.1 aQ).1;have Hy:=(aT.1 aU).1;have ll:=n4n oS;refine nL (cF hM (λ_=>False) (hI [] _)) [] (vs:=[_,_,_]) func255 rfl ntmps255 rfl (JI hM (hI [] _) h0 zX (by simp[jk]) zX) ?_;refine B 3 ?_;refine n0 (enc:=aj) (m:=1) (t:=3) (xs:=ig au) (v:=λs=>.tuple #[s,.int .i64 0]) (first:=[]) (cap:=[]) rfl call256 rfl rfl rfl nw (λW hS=>nvl au oS W) ?_;intro Wq aq cpq wq hSq hBq jK Ra;have Rb:=hSq.sizes;replace Rb:=yb Rb;have hzq:=hBq.size;have Rc:=hSq.under;replace Rc:=yf Rc;refine B 15 ?_;refine CJ.loop (α:=Nat×aB) (λp=>[(0,yv l),(1,ptr b1 0),(2,ptr b2 0),(17,.slice aq (ig au).length cpq),(18,.int .i64 ((ig au).length:Int)),(19,.int .i64 (p.1:Int))]) (λp=>[]) (λp=>[wq,W]) (λp=>cF hM p.2 (hI (lH ns au p.1) p.2)) (λp=>p.1<=9/\∀k,p.2 k->wq.heap.size<=k) (λp=>9-p.1) (0,λ_=>False) ⟨db _,λ_ h=>h.elim⟩ zR rfl rfl zX ?_;rintro⟨i,V⟩ ⟨hi,hV⟩;dsimp only at hi hV ⊢;have afk:W.heap.size<=wq.heap.size:=by omega
 clear aX aN;have aX:¬(cF hM V (hI (lH ns au i) V)).X b1:=by rintro(h|h);(exact(hM _ h).2.2 (.inl rfl));(have:=hV _ h;omega)
 have aN:¬(cF hM V (hI (lH ns au i) V)).X b2:=by rintro(h|h);(exact(hM _ h).2.2 (.inr (.inl rfl)));(have:=hV _ h;omega)
 refine B 6 ?_;refine aG ?_ ?_
 ·intro ah;refine B 5 ?_;obtain⟨bq,oq,U5,tq,U6,rfl,U7,qU,qV⟩:=jK.get zJ;obtain⟨sb,MY⟩:=nj (ig au) i zJ;have aax:=Ra _ rfl;dsimp only at aax;refine B 3 ?_;refine rv rfl rfl rfl (aa (v:=.int .i64 sb) isAgg3 rfl A0 qU (λhx=>by rcases hx with hx|hx;(have:=(hM _ hx).1;omega);(have:=hV _ hx;omega)) trivial (by have:=nR (enc:=λx=>(aj x).toArray) (n:=1) qV MY rfl zO;simpa[aj]using this)) ?_;refine B 6 ?_;refine rr (.agg #[.slice ta ns.length tc]) (ai isAgg55 sizeOf55 rfl A1 aU aN trivial (bj rfl)) ?_;refine B 1 ?_;refine n0 (enc:=aj) (m:=1) (t:=3) (xs:=lb ns sb) (v:=λs=>.tuple #[s,.int .i64 (HC ns sb)]) (first:=[]) (cap:=[]) rfl call257 rfl rfl rfl nw (λW2 hS=>nng ns hn W2.heap.size ta tc W2 (ao _) (bV.toG hS A1 hNW (λb off e=>by by_cases h0:ns=[];(exact .inl h0);exact .inr (λhb=>⟨λhx=>by rcases hx with hx|hx;(exact(hM _ hx).2.2 (.inr (.inr ⟨h0,off,e⟩)));(have:=hV _ hx;omega),trivial⟩))) sb) ?_;intro Wr a8 Hw wr EL hBr pQ vk;have Ks:=nHj ns sb;have oW:=hBr.size;have afl:=(EL.links wq A0).size;have hVr:∀j,V j->j<Wr.heap.size:=λj hj=>EL.xlt j (.inr hj);refine B 15 ?_;refine CJ.loop (α:=Nat×aB) (λp=>[(0,yv l),(1,ptr b1 0),(2,ptr b2 0),(6,.int .i64 (i:Int)),(17,.slice (some ⟨bq,oq,none⟩) (ig au).length cpq),(18,.int .i64 ((ig au).length:Int)),(19,.int .i64 (i:Int)),(30,.slice a8 (lb ns sb).length Hw),(31,.int .i64 ((lb ns sb).length:Int)),(32,.int .i64 (p.1:Int))]) (λp=>[]) (λp=>[wr,wq,W]) (λp=>cF hM p.2 (hI (lH ns au i++Cy ns i sb p.1) p.2)) (λp=>p.1<=(lb ns sb).length/\∀k,p.2 k->V k\/wr.heap.size<=k) (λp=>(lb ns sb).length-p.1) (0,V) ⟨db _,λ_ h=>.inl h⟩ zR rfl (by rw[zi,dH]) zX ?_
  rintro⟨j,V1⟩ ⟨hj,sJ⟩;dsimp only at hj sJ ⊢;have Re:∀k,V1 k->W.heap.size<=k:=λk hk=>by rcases sJ k hk with h|h;(have:=hV k h;omega);omega
  refine B 6 ?_;refine aG ?_ ?_
  ·intro aJ;refine B 5 ?_;obtain⟨bn,on,csn,tn,G0,rfl,kI,aaz,aaA⟩:=pQ.get zJ;obtain⟨n,tM⟩:=nj (lb ns sb) j zJ;have aaB:=vk _ rfl;dsimp only at aaB;refine B 2 ?_;refine rv rfl rfl rfl (aa (v:=.int .i64 n) isAgg3 rfl A0 aaz (λhx=>by rcases hx with hx|hx;(have:=(hM _ hx).1;omega);(rcases sJ _ hx with h|h;(have:=hVr _ h;omega);omega)) trivial (by have:=nR (enc:=λx=>(aj x).toArray) (n:=1) aaA tM rfl zO;simpa[aj]using this)) ?_;refine B 9 ?_;refine QW (λ_=>False) id Kt (V:=V1) (λV=>hI ((lH ns au i++Cy ns i sb j)++[((i:Int)+1,n)]) V) hX Re rfl rfl rfl rfl (λW1 Rf kJ=>hy (lH ns au i++Cy ns i sb j) ((i:Int)+1,n) V1 W1 (by rw[iX,<-n8k tM];exact EI MY zJ (EK ns i sb (j+1))) Rf kJ) ?_ ?_
   ·intro V2 Cv sT;have Ku:=sT wr A0;refine B 11 ?_;refine PJ.again (j+1,V2) ⟨by dsimp only;omega,λk hk=>by rcases Ku k hk with h|h;(exact sJ k h);exact .inr h⟩ dG zR rfl (by rw[n8k tM,<-iX];rfl) zX
   intro V2 Cv sT;have Ku:=sT wr A0;refine B 13 ?_;exact D9 (.inl rfl) results255 A2 (λk hk=>by rcases Ku k hk with h|h;(exact Re k h);omega) (by intro k hk hx;simp at hx) (λA hA=>.inr hA)
  intro aJ;refine B 10 ?_;refine PJ.again (i+1,V1) ⟨by dsimp only;omega,λk hk=>by rcases sJ k hk with h|h;(exact hV k h);omega⟩ dG zR rfl (by rw[nEl ns au MY,EJ ns i sb zJ]) zX
 intro ah;refine B 4 ?_;exact D9 (.inr rfl) results255 A1 (λk hk=>by have:=hV k hk;omega) (by intro k hk hx;simp at hx) (λA hA=>.inl ⟨lH ns au i,by unfold jl;rw[show i=9 by omega],hA⟩)
def qZ (p:Int×Int):List Value:=[.int .i64 p.2,.int .i64 p.1,.int .i64 0,.slice none 0 0]
def Kv (p:Int×Int):Array Value:=#[.int .i64 p.2,.int .i64 p.1,.int .i64 0,.slice none 0 0]
theorem Vp(p:Int×Int):(qZ p).length=4:=rfl
theorem EM(p:Int×Int):∀u∈qZ p,u.oneCell'=true:=by intro u hu;simp[qZ]at hu;rcases hu with rfl|rfl|rfl|rfl<;>rfl
theorem EN:prog.info? 164=some Tryz.t164:=by kernel_rfl
theorem Rg:kY prog 96 164 4:=⟨underlying96,Tryz.t164,.agg #[.int .i64 0,.int .i64 0,.int .i64 0,.slice none 0 0],EN,rfl,rfl,rfl,by decide⟩
noncomputable def zk (g:Gp) (au:Int) (l:List Ch):Bool:=iO l&&ow g au l
noncomputable def gp (g:Gp) (au:Int) (l:List Ch):List (Int×Int):=if ee g=true/\zk g au l=true then jl (cT g.ns l) au else[]
noncomputable def fO (g:Gp) (au:Int) (l:List Ch):Int:=if ee g=true then(if zk g au l=true then 0 else 221)else 1
theorem nll{l:List Ch}(h:iO l=true):(∀x∈l,dD x.dev)/\l.length<=64:=⟨λx hx=>by obtain⟨i,hi⟩:=ju.1 hx;exact((Q5.1 h).1 i x (nE hi) hi).1.2,(Q5.1 h).2⟩
theorem n8i(ta:Option Addr)(n tc:Nat)(au:Int)(w:World):Calls prog 211 #[.agg #[.slice ta n tc],.int .i64 au] w (cJ w (λq:Nat×Nat=>.func (.func 255) #[] #[ptr q.1 0,ptr q.2 0]) (λq w1=>w.heap.size<=q.1/\w.heap.size<=q.2/\w1.heap[q.1]? =some (.cells #[.int .i64 au] 3 (0,0))/\w1.heap[q.2]? =some (.cells #[.slice ta n tc] 55 (0,0)))):=by
 refine enter (vs:=[_,_]) func211 rfl ntmps211 rfl ?_;refine B 2 ?_;refine yX ?_;intro b2 w2 aU aN dY cR cX;refine yX ?_;intro b3 w3 aM aD da cd cP;refine B 10 ?_;refine kH (b3,b2) results211 rfl A2 rfl ?_;exact λW hS=>⟨by have:=cd.2.1;omega,by have:=cR.1;omega,hS.old A0 aM aD trivial,hS.old A1 aU aN trivial⟩
theorem nJn(G:Gv)(N:Nat)(w:World)(hN:N<=w.heap.size)(hG:aL N w G)(l:List Ch)(cj:l.length<=1000000)(a:Option Addr)(cp:Nat)(aH:ag ez 5 N w a l)(au:Int)(hv:ee G.g=false):Calls prog 146 #[.agg (bC G),.int .i64 au,.slice a l.length cp] w (nD w qZ 4 164 [] (λs=>.tuple #[s,.int .i64 1])):=by
 refine zuh ?_;refine B 2 ?_;refine yX ?_;intro b3 w3 aM aD da cd cP;refine aZ zeroValue96 rfl rfl ?_;refine yW ?_;intro b6 gV lP;refine B 6 ?_;refine Kx ?_;refine call call144 rfl rfl rfl (λW hS=>by rw[<-hv];exact nU G N W (aR hN (hS.links w A1).size) (hG.up (ao _) (hS.same A1 hN zS zM))) (v:=.bool false) ?_;refine Vq ?_;refine B 5 ?_;exact zLi
theorem njm(G:Gv)(N:Nat)(w:World)(hN:N<=w.heap.size)(hG:aL N w G)(l:List Ch)(cj:l.length<=1000000)(a:Option Addr)(cp:Nat)(aH:ag ez 5 N w a l)(au:Int)(hv:ee G.g=true)(hf:iO l=false):Calls prog 146 #[.agg (bC G),.int .i64 au,.slice a l.length cp] w (nD w qZ 4 164 [] (λs=>.tuple #[s,.int .i64 221])):=by
 refine zuh ?_;refine B 2 ?_;refine yX ?_;intro b3 w3 aM aD da cd cP;refine aZ zeroValue96 rfl rfl ?_;refine yW ?_;intro b6 gV lP;refine B 6 ?_;refine Kx ?_;refine zof ?_;refine Rh ?_;refine B 9 ?_;refine zMf ?_;refine rq (.bool true) (dA rfl) (by rw[hf];rfl) ?_;refine B 12 ?_;exact zLi
theorem n2l(G:Gv)(N:Nat)(w:World)(hN:N<=w.heap.size)(hG:aL N w G)(l:List Ch)(cj:l.length<=1000000)(a:Option Addr)(cp:Nat)(aH:ag ez 5 N w a l)(au:Int)(hv:ee G.g=true)(hf:iO l=true)(hp:ow G.g au l=false):Calls prog 146 #[.agg (bC G),.int .i64 au,.slice a l.length cp] w (nD w qZ 4 164 [] (λs=>.tuple #[s,.int .i64 221])):=by
 refine zuh ?_;refine B 2 ?_;refine yX ?_;intro b3 w3 aM aD da cd cP;refine aZ zeroValue96 rfl rfl ?_;refine yW ?_;intro b6 gV lP;refine B 6 ?_;refine zGh ?_;refine B 1 ?_;refine Kx ?_;refine B 2 ?_;refine zfg ?_;refine rq (.bool true) (dA rfl) (by rw[hp];rfl) ?_;refine B 6 ?_;exact zLi
theorem nto(G:Gv)(N:Nat)(w:World)(hN:N<=w.heap.size)(hG:aL N w G)(l:List Ch)(cj:l.length<=1000000)(a:Option Addr)(cp:Nat)(aH:ag ez 5 N w a l)(au:Int)(oS:dD au)(hv:ee G.g=true)(hf:iO l=true)(hp:ow G.g au l=true):Calls prog 146 #[.agg (bC G),.int .i64 au,.slice a l.length cp] w (nD w qZ 4 164 (jl (cT G.g.ns l) au) (λs=>.tuple #[s,.int .i64 0])):=by
 obtain⟨NA,su⟩:=nll hf;have M6:=hG.nn;have Ks:=Vo l G.g.ns;obtain⟨T,hT⟩:∃T,cT G.g.ns l=T:=⟨_,rfl⟩;rw[hT]at Ks ⊢;have Ky:=zh T au;refine B1 Gh.no [] (vs:=[_,_,_]) func146 rfl ntmps146 rfl (uK w) ?_;refine B 2 ?_;refine yX ?_;intro b3 w3 aM aD da cd cP;refine aZ zeroValue96 rfl rfl ?_;refine yW ?_;intro b6 gV lP;refine B 6 ?_;refine zGh ?_;refine B 1 ?_;refine Kx ?_;refine B 2 ?_;refine zfg ?_;refine rq (.bool false) (dA rfl) (by rw[hp];rfl) ?_;refine B 9 ?_;refine Kx ?_;refine B 1 ?_;refine nB (α:=Option Addr×Nat) (v:=λq=>.agg #[.slice q.1 T.length q.2]) (Φ:=λW q w1=>ag fF 2 w1.heap.size w1 q.1 T/\∀b off,q.1=some ⟨b,off,none⟩->T=[]\/b<N\/W.heap.size<=b) call155 rfl rfl rfl (λW hS=>by rw[<-hT];exact ngd G N W (aR hN (hS.links w A1).size) (hG.up (ao _) (hS.same A1 hN zS zM)) l cj a cp (aH.up (ao _) (hS.same A1 hN zS zM)) su NA) ?_;rintro Wr ⟨ta,tc⟩ wr EL hBr ⟨mK,eX⟩;dsimp only at mK eX ⊢;have hUr:=EL.under;replace hUr:=yf hUr;have oW:=hBr.size;have afm:=(EL.links w A1).size;refine B 1 ?_;refine nB (α:=Nat×Nat) (v:=λq:Nat×Nat=>.func (.func 255) #[] #[ptr q.1 0,ptr q.2 0]) (Φ:=λW q w1=>W.heap.size<=q.1/\W.heap.size<=q.2/\w1.heap[q.1]? =some (.cells #[.int .i64 au] 3 (0,0))/\w1.heap[q.2]? =some (.cells #[.slice ta T.length tc] 55 (0,0))) call211 rfl rfl rfl (λW hS=>n8i ta _ tc au W) ?_
 rintro Wn q wn lp q4 ⟨jb,jc,fw,gg⟩;try dsimp only at jb jc fw gg
 have yY:=(aT.1 fw).1;have yZ:=(aT.1 gg).1;have HH:=q4.size;have afn:=(lp.links wr A0).size;have oX:=lp.under;replace oX:=yf oX;have hOt:∀b off,ta=some ⟨b,off,none⟩->T=[]\/b≠b6:=λb off e=>by rcases eX b off e with h|h|h;(exact .inl h);(exact .inr zJ);(exact .inr zJ)
 refine B 3 ?_;refine CJ.range2 (f:=255) (cap:=[ptr q.1 0,ptr q.2 0]) (α:=Int×Int) (enc:=zj) (Pre:=wt (jl T au)) (Fin:=Is (jl T au)) (RO:=Q9 q.1 q.2 T ta) (MI:=λ_=>False) rfl call255 (λW' W2 hS hB=>by have mE:=(hS.links wn A0).size;have Hy:=(hS.links wr A1).size;exact nwm T zJ au oS q.1 q.2 W'.heap.size ta tc W2 hB.size ((mK.toG hS A1 (ao _) (λb off e=>(hOt b off e).imp id (λh _=>⟨λhx=>hx,by simp only[bD,and_true];omega⟩))).up (ao _) (λk hk=>hB.block k hk)) Vr Vs) (λ_ _ _ hk=>hk.elim) (λW' hS k hk=>by have mE:=(hS.links wn A0).size;have Hy:=(hS.links wr A1).size;simp only[eh,iB,cI,fu,or_false];rcases hk with rfl|rfl|⟨h0,off,e⟩;(exact⟨by omega,by omega,λh=>h⟩);(exact⟨by omega,by omega,λh=>h⟩);exact⟨by have:=(mK.lt e).resolve_left h0;omega,(hOt _ off e).resolve_left h0,λh=>h⟩) (λ_=>rfl) (λpre G' Hc=>G'=Gh.no/\∃r:Rw,r.Fr Gh.no [wn,wr,w3,w]/\r.Fit 4 pre/\Hc=[(b6,.cells #[r.val pre.length] 96 (0,0))]++(r.hp qZ 164 pre++[])) (λ_ _ _=>False) ⟨rfl,.nil,True.intro,rfl,rfl⟩ zO ?_ ?_ ?_
 ·rintro pre x G' Hc l Dk rec W1 M V Wy lN qB eC ⟨rfl,r,bE,ak,rfl⟩ dZ gM GM qC bM yq;simp only[ad]at dZ qC;have cE:r.ge wn.heap.size:=Rw.ge_of bE A0;have hpl:=eC.length_le;simp only[cK,dQ,mT]at hpl;have Qv:∀p∈r.hp qZ 164 pre,M p.1\/V p.1:=λp hp=>bM.loc.h p UX;refine B 8 ?_;refine Vt lN ?_;refine B 5 ?_;refine rr (.agg #[.int .i64 x.2,.int .i64 x.1,.int .i64 0,.slice none 0 0]) (bY underlying164 zeroValue164 (bA.c sizeOf3 (bA.c sizeOf3 (bA.c sizeOf162 (bA.n)))) rfl rfl) ?_;refine kr underlying96 sizeOf164 zeroValue164 rfl rfl rfl rfl rfl rfl rfl ?_;refine yW ?_;intro b34 afo afr;refine pM (r:=r) (xs:=pre) (zs:=[x]) (enc:=qZ) (m:=4) (H0:=[(b34,.cells #[.int .i64 x.2,.int .i64 x.1,.int .i64 0,.slice none 0 0] 164 (0,0)),(b6,.cells #[r.val pre.length] 96 (0,0))]) (H1:=(l,.loop {rec with state:=.busy})::bT Dk) yr Rg Vp rfl rfl rfl rfl (dz.one (z:=x) Vp EM underlying96 (bL.own (i:=0) rfl)) ak (Rw.Fr_ext Qv) zX Cp ?_;intro b35 KA KB EO KC;replace EO:=yb EO;refine bh (i:=1) rfl sizeOf96 rfl rfl rfl rfl rfl rfl ?_;refine B 2 ?_;refine og ?_;refine JP (G2:=Gh.no) (Hc2:=[(b6,.cells #[(Rw.row b35 KA KB).val (pre++[x]).length] 96 (0,0))]++((Rw.row b35 KA KB).hp qZ 164 (pre++[x])++[])) bM gM ⟨λ_ h=>h,λ_ h=>.inl h,λ_ h=>.inl h,(Zn rfl (EO.imp id (λh=>h.1))),Zo⟩ (JQ lN qB) ?_
  exact⟨rfl,.row b35 KA KB,EO.elim (λh=>Rw.Fr_at bE h) (λh=>.inr h.2),KC,rfl⟩
 ·rintro i6 l Dk rec G' Hc rfl dZ gM ⟨rfl,r,bE,ak,rfl⟩;replace dZ:=yb dZ;have cE:r.ge wn.heap.size:=Rw.ge_of bE A0;refine Qw λWd qh=>?_;have kI:=Nk qh;refine B 5 ?_;refine bh (i:=0) rfl sizeOf96 rfl rfl rfl (Rw.val_size _ _) rfl (Rw.val_one _ _) ?_;refine B 4 ?_;have hq:=λ(k:Nat)=>Rw.mem_ge (enc:=qZ) (t:=164) (xs:=jl T au) (k:=k) cE;refine PJ.reH (H':=(b6,.cells #[r.val (jl T au).length] 96 (0,0))::(r.hp qZ 164 (jl T au)++(l,.loop rec)::bT Dk)) (by simp[book,Rw.val_cells]) ?_;refine yt (b:=b6) (r:=r) (xs:=jl T au) (.inl rfl) results146 isAgg96 rfl rfl zX A0 (kI _ A0).1 rfl ak (λp hp=>⟨.tail _ (cQ.2 (.inl hp)),(kI p (cQ.2 (.inr (cQ.2 (.inl hp))))).1⟩) (Rw.ge_of bE A3) (λW H' hS bO=>(hS.links w A3).below λk hk hx=>?_);exact Zp
 exact UY
theorem nQb(G:Gv)(N:Nat)(w:World)(hN:N<=w.heap.size)(hG:aL N w G)(l:List Ch)(cj:l.length<=1000000)(a:Option Addr)(cp:Nat)(aH:ag ez 5 N w a l)(au:Int)(oS:dD au):Calls prog 146 #[.agg (bC G),.int .i64 au,.slice a l.length cp] w (nD w qZ 4 164 (gp G.g au l) (λs=>.tuple #[s,.int .i64 (fO G.g au l)])):=by
 cases hv:ee G.g with
 |false=>rw[show gp G.g au l=[] by simp[gp,hv],show fO G.g au l=1 by simp[fO,hv]];exact nJn G N w hN hG l cj a cp aH au hv
 |true=>cases hf:iO l with
  |false=>rw[show gp G.g au l=[] by simp[gp,zk,hf],show fO G.g au l=221 by simp[fO,zk,hv,hf]];exact njm G N w hN hG l cj a cp aH au hv hf
  |true=>cases hp:ow G.g au l with
   |false=>rw[show gp G.g au l=[] by simp[gp,zk,hp],show fO G.g au l=221 by simp[fO,zk,hv,hp]];exact n2l G N w hN hG l cj a cp aH au hv hf hp
   |true=>rw[show gp G.g au l=jl (cT G.g.ns l) au by simp[gp,zk,hv,hf,hp],show fO G.g au l=0 by simp[fO,zk,hv,hf,hp]];exact nto G N w hN hG l cj a cp aH au oS hv hf hp
structure zl where
 u:Int
 ba:Option Addr
 bc:Nat
 body:List UInt8
def wrA (x:zl):Array Value:=#[.int .i64 x.u,.slice x.ba x.body.length x.bc]
structure Bx where
 node:Int
 level:Int
 w:zl
def rJ (x:Bx):Array Value:=#[.int .i64 x.node,.int .i64 x.level,.int .i64 x.w.u,.slice x.w.ba x.w.body.length x.w.bc]
structure We where
 dev:Int
 w:zl
def ra (x:We):Array Value:=#[.int .i64 x.dev,.int .i64 x.w.u,.slice x.w.ba x.w.body.length x.w.bc]
structure Cm where
 folder:Int
 epoch:Int
 par:Nat->Int
 author:Int
 chs:List Ch
 ca:Option Addr
 cc:Nat
 path:List Int
 pa:Option Addr
 pc:Nat
 bxs:List Bx
 ba:Option Addr
 bc:Nat
 wes:List We
 wa:Option Addr
 wc:Nat
 conf:Nat->Int
 sr:Int
 ss:Int
def dI (c:Cm):Array Value:=#[.int .i64 c.folder,.int .i64 c.epoch,.int .u8 (c.par 0),.int .u8 (c.par 1),.int .u8 (c.par 2),.int .u8 (c.par 3),.int .u8 (c.par 4),.int .u8 (c.par 5),.int .u8 (c.par 6),.int .u8 (c.par 7),.int .u8 (c.par 8),.int .u8 (c.par 9),.int .u8 (c.par 10),.int .u8 (c.par 11),.int .u8 (c.par 12),.int .u8 (c.par 13),.int .u8 (c.par 14),.int .u8 (c.par 15),.int .u8 (c.par 16),.int .u8 (c.par 17),.int .u8 (c.par 18),.int .u8 (c.par 19),.int .u8 (c.par 20),.int .u8 (c.par 21),.int .u8 (c.par 22),.int .u8 (c.par 23),.int .u8 (c.par 24),.int .u8 (c.par 25),.int .u8 (c.par 26),.int .u8 (c.par 27),.int .u8 (c.par 28),.int .u8 (c.par 29),.int .u8 (c.par 30),.int .u8 (c.par 31),.int .i64 c.author,.slice c.ca c.chs.length c.cc,.slice c.pa c.path.length c.pc,.slice c.ba c.bxs.length c.bc,.slice c.wa c.wes.length c.wc,.int .u8 (c.conf 0),.int .u8 (c.conf 1),.int .u8 (c.conf 2),.int .u8 (c.conf 3),.int .u8 (c.conf 4),.int .u8 (c.conf 5),.int .u8 (c.conf 6),.int .u8 (c.conf 7),.int .u8 (c.conf 8),.int .u8 (c.conf 9),.int .u8 (c.conf 10),.int .u8 (c.conf 11),.int .u8 (c.conf 12),.int .u8 (c.conf 13),.int .u8 (c.conf 14),.int .u8 (c.conf 15),.int .u8 (c.conf 16),.int .u8 (c.conf 17),.int .u8 (c.conf 18),.int .u8 (c.conf 19),.int .u8 (c.conf 20),.int .u8 (c.conf 21),.int .u8 (c.conf 22),.int .u8 (c.conf 23),.int .u8 (c.conf 24),.int .u8 (c.conf 25),.int .u8 (c.conf 26),.int .u8 (c.conf 27),.int .u8 (c.conf 28),.int .u8 (c.conf 29),.int .u8 (c.conf 30),.int .u8 (c.conf 31),.int .i64 c.sr,.int .i64 c.ss]
def pS (N:Nat) (w:World) (x:zl):Prop:=x.body=[]\/∃b off,x.ba=some ⟨b,off,none⟩/\b<N/\cC w b off x.body
theorem pS.up{w:World}{x:zl}(h:pS N w x)(hN:N<=N')(hw:∀k,k<N->w'.heap[k]? =w.heap[k]?):pS N' w' x:=by
 exact z6j
structure dB (N:Nat) (w:World) (c:Cm):Prop where
 chs:ag ez 5 N w c.ca c.chs
 path:ag encI 1 N w c.pa c.path
 bxs:ag rJ 4 N w c.ba c.bxs
 wes:ag ra 3 N w c.wa c.wes
 bb:∀x∈c.bxs,pS N w x.w
 wb:∀x∈c.wes,pS N w x.w
structure oY (c:Cm):Prop where
 bp:iJ c.par
 bf:iJ c.conf
 chs:c.chs.length<=10
 path:c.path.length<=12
 bxs:c.bxs.length<=40
 wes:c.wes.length<=10
 bb:∀x∈c.bxs,x.w.body.length<=200
 wb:∀x∈c.wes,x.w.body.length<=200
theorem dB.up{w:World}{c:Cm}(h:dB N w c)(hN:N<=N')(hw:∀k,k<N->w'.heap[k]? =w.heap[k]?):dB N' w' c:=⟨h.chs.up hN hw,h.path.up hN hw,h.bxs.up hN hw,h.wes.up hN hw,λx hx=>(h.bb x hx).up hN hw,λx hx=>(h.wb x hx).up hN hw⟩
def vq (x:zl):Prop:=dy x.u/\16<=x.body.length/\x.body.length<=65552
open Classical in
noncomputable def HI (x:zl):Int:=if vq x then 0 else 90
theorem ny{x:zl}:HI x=0↔vq x:=by unfold HI;split<;>simp_all
theorem Ri{x:zl}(h:¬vq x):Value.int .i64 90= .int .i64 (HI x):=by unfold HI;rw[if_neg h]
theorem nmi{x:zl}(h:vq x):Value.int .i64 0= .int .i64 (HI x):=by unfold HI;rw[if_pos h]
def kM {α:Type} (p:Nat->α->Prop) (xs:List α) (j:Nat):Prop:=∀i x,i<j->xs[i]? =some x->p i x
theorem kM.next{α:Type}{p:Nat->α->Prop}{xs:List α}{x:α}(h:kM p xs j)(hx:xs[j]? =some x)(hp:p j x):kM p xs (j+1):=by
 exact zgk
theorem kM.all{α:Type}{p:Nat->α->Prop}{xs:List α}(h:kM p xs j)(hj:¬j<xs.length):∀i x,xs[i]? =some x->p i x:=λi x hx=>h i x (by have:=nE hx;omega) hx
def Rj (x:Bx):Prop:=(1<=x.node/\x.node<1024/\1<=x.level/\x.level<=9)/\vq x.w
def Rk (l:List We) (i:Nat) (x:We):Prop:=dD x.dev/\(∀y,0<i->l[i-1]? =some y->y.dev<x.dev)/\vq x.w
structure Vu (c:Cm):Prop where
 fo:y6 c.folder
 e1:1<=c.epoch
 e2:c.epoch<=1099511627776
 au:dD c.author
 ch:iO c.chs=true
 pl:c.path.length=10
 bl:c.bxs.length<=1024
 wl:c.wes.length<=512
 path:∀(i:Nat) x,c.path[i]? =some x->dy x
 box:∀(i:Nat) x,c.bxs[i]? =some x->Rj x
 wel:∀i x,c.wes[i]? =some x->Rk c.wes i x
open Classical in
noncomputable def pT (c:Cm):Int:=if Vu c then 0 else 220
theorem KD{c:Cm}:pT c=0↔Vu c:=by unfold pT;split<;>simp_all
theorem EP(c:Cm):pT c=0\/pT c=220:=by unfold pT;split<;>simp
theorem nb{c:Cm}(h:¬Vu c):Value.int .i64 220= .int .i64 (pT c):=by unfold pT;rw[if_neg h]
theorem nmb{c:Cm}(h:Vu c):Value.int .i64 0= .int .i64 (pT c):=by unfold pT;rw[if_pos h]
theorem nDf(x:zl)(w:World):Calls prog 209 #[.agg (wrA x)] w (ay w (.int .i64 (HI x))):=by
 obtain⟨e,he⟩:∃e,(if dy x.u then(0:Int)else 40)=e:=⟨_,rfl⟩;have Cw:=Q0 x.u;rw[he]at Cw;refine enter (vs:=[_]) func209 rfl ntmps209 rfl ?_;refine B 2 ?_;refine yX ?_;intro b1 w1 aQ aX gb eO gZ;refine B 16 ?_;refine US ?_;refine B 2 ?_;refine nh (t:=11) rfl (λah=>?_) (λah=>?_)
 ·replace ah:=ya ah;refine B 17 ?_;exact Vv
 replace ah:=ya ah;refine B 4 ?_;refine nh (t:=15) rfl (λaJ=>?_) (λaJ=>?_)
 ·replace aJ:=ya aJ;refine B 13 ?_;exact Vv
 replace aJ:=ya aJ;refine B 5 ?_;refine aG ?_ ?_
 ·intro cO;refine B 7 ?_;exact Vv
 intro cO;refine B 8 ?_;exact Vv
theorem nqb(c:Cm)(oZ:oY c)(N:Nat)(w:World)(hN:N<=w.heap.size)(hC:dB N w c):Calls prog 145 #[.agg (dI c)] w (ay w (.int .i64 (pT c))):=by
 have sy:=oZ.chs;have uQ:=oZ.path;have Jb:=oZ.bxs;have NB:=oZ.wes;have Rl:=hC.chs;have pP:=hC.path;have KE:=hC.bxs;have KF:=hC.wes;refine enter (vs:=[_]) func145 rfl ntmps145 rfl ?_;refine B 2 ?_;refine yX ?_;intro b1 w1 aQ aX gb eO gZ;refine B 8 ?_;refine call call200 rfl rfl rfl (λW hS=>nyk _ W) ?_;refine B 2 ?_;refine nh (t:=13) rfl (λah=>?_) (λah=>?_)
 ·replace ah:=ya ah;refine B 49 ?_;exact CA
 replace ah:=ya ah;refine B 5 ?_;refine nh (t:=18) rfl (λaJ=>?_) (λaJ=>?_)
 ·replace aJ:=ya aJ;refine B 44 ?_;exact CA
 replace aJ:=ya aJ;refine B 5 ?_;refine nh (t:=23) rfl (λcO=>?_) (λcO=>?_)
 ·replace cO:=ya cO;refine B 39 ?_;exact CA
 replace cO:=ya cO;refine B 2 ?_;refine call call207 rfl rfl rfl (λW hS=>Vg _ W) ?_;refine B 3 ?_;refine nh (t:=29) rfl (λgL=>?_) (λgL=>?_)
 ·replace gL:=ya gL;refine B 33 ?_;exact CA
 replace gL:=ya gL;refine B 2 ?_;refine call call208 rfl rfl rfl (λW hS=>nLc c.chs zJ N c.ca c.cc W (aR hN (hS.links w A1).size) (hC.chs.up (ao _) (hS.same A1 hN zS zM))) ?_;refine B 3 ?_;refine nh (t:=35) rfl (λgv=>?_) (λgv=>?_)
 ·replace gv:=ya gv;refine B 27 ?_;exact CA
 replace gv:=ya gv;refine B 6 ?_;refine nh (t:=41) rfl (λje=>?_) (λje=>?_)
 ·replace je:=ya je;refine B 21 ?_;exact CA
 replace je:=ya je;refine B 6 ?_;refine nh (t:=47) rfl (λiU=>?_) (λiU=>?_)
 ·replace iU:=ya iU;refine B 15 ?_;exact CA
 replace iU:=ya iU;refine B 7 ?_;refine aG ?_ ?_
 ·intro rZ;refine B 7 ?_;exact CA
 intro rZ;refine B 12 ?_;refine CJ.loop (α:=Nat) (λj=>[(1,ptr b1 0),(54,.slice c.pa c.path.length c.pc),(55,.int .i64 (c.path.length:Int)),(56,.int .i64 (j:Int))]) (λj=>[]) (λj=>[w1,w]) (λj=>Gh.no) (λj=>j<=c.path.length/\kM (λ_ x=>dy x) c.path j) (λj=>c.path.length-j) 0 ⟨db _,λi x hi=>absurd hi zJ⟩ zR rfl rfl zX ?_;rintro j ⟨hj,dm⟩;refine B 6 ?_;refine aG ?_ ?_
 ·intro qg;refine B 5 ?_;obtain⟨bo,oo,cs0,to,fk,im,fE,hcs,ar⟩:=pP.get zJ;obtain⟨y,hy⟩:=nj c.path j zJ;rw[im];obtain⟨e,he⟩:∃e,(if dy y then(0:Int)else 40)=e:=⟨_,rfl⟩;have Cw:=Q0 y;rw[he]at Cw;refine B 2 ?_;refine rv rfl rfl rfl (aa (v:=.int .i64 y) isAgg3 rfl A1 hcs zU trivial (by have:=nR ar hy rfl zO;simpa[encI]using this)) ?_;refine B 6 ?_;refine US ?_;refine B 3 ?_;refine aG ?_ ?_
  ·intro pv;refine B 11 ?_;exact CA
  intro pv;refine B 7 ?_;refine PJ.again (j+1) ⟨by omega,dm.next hy (Cw.1 zJ)⟩ zJ zR rfl rfl zX
 intro qg;refine B 15 ?_;have hA1:=dm.all zJ;refine CJ.loop (α:=Nat) (λj=>[(1,ptr b1 0),(65,.slice c.ba c.bxs.length c.bc),(66,.int .i64 (c.bxs.length:Int)),(67,.int .i64 (j:Int))]) (λj=>[]) (λj=>[w1,w]) (λj=>Gh.no) (λj=>j<=c.bxs.length/\kM (λ_ x=>Rj x) c.bxs j) (λj=>c.bxs.length-j) 0 ⟨db _,λi x hi=>absurd hi zJ⟩ zR rfl rfl zX ?_;rintro j ⟨hj,dm⟩;refine B 6 ?_;refine aG ?_ ?_
 ·intro pw;refine B 5 ?_;obtain⟨bo,oo,cs0,to,fk,im,fE,hcs,ar⟩:=KE.get zJ;obtain⟨x,hx⟩:=nj c.bxs j zJ;rw[im];refine B 2 ?_;refine rq (.agg (rJ x)) (ai isAgg164 sizeOf164 rfl A1 hcs zU trivial (nk ar hx rfl)) (va (nr ar hx rfl)) ?_;refine aZ zeroValue164 rfl rfl ?_;refine yW ?_;intro b6 gV lP;refine Vw ?_;refine B 8 ?_;refine nh (t:=74) rfl (λkb=>?_) (λkb=>?_)
  ·replace kb:=ya kb;refine B 34 ?_;exact KG
  replace kb:=ya kb;refine B 5 ?_;refine nh (t:=79) rfl (λke=>?_) (λke=>?_)
  ·replace ke:=ya ke;refine B 29 ?_;exact KG
  replace ke:=ya ke;refine B 5 ?_;refine nh (t:=84) rfl (λr4=>?_) (λr4=>?_)
  ·replace r4:=ya r4;refine B 24 ?_;exact KG
  replace r4:=ya r4;refine B 5 ?_;refine nh (t:=89) rfl (λr5=>?_) (λr5=>?_)
  ·replace r5:=ya r5;refine B 19 ?_;exact KG
  replace r5:=ya r5;refine B 1 ?_;refine zVf ?_;refine call call209 rfl rfl rfl (λW hS=>nDf x.w W) ?_;refine B 4 ?_;refine aG ?_ ?_
  ·intro wS;exact zuk
  intro wS;refine vd ?_;refine PJ.again (j+1) ⟨by omega,dm.next hx ⟨by omega,ny.1 zJ⟩⟩ zJ zR rfl rfl zX
 intro pw;refine B 15 ?_;have hA2:=dm.all zJ;refine CJ.loop (α:=Nat) (λj=>[(1,ptr b1 0),(97,.slice c.wa c.wes.length c.wc),(98,.int .i64 (c.wes.length:Int)),(99,.int .i64 (j:Int))]) (λj=>[]) (λj=>[w1,w]) (λj=>Gh.no) (λj=>j<=c.wes.length/\kM (Rk c.wes) c.wes j) (λj=>c.wes.length-j) 0 ⟨db _,λi x hi=>absurd hi zJ⟩ zR rfl rfl zX ?_;rintro j ⟨hj,dm⟩;refine B 6 ?_;refine aG ?_ ?_
 ·intro aaI;refine B 5 ?_;obtain⟨bo,oo,cs0,to,fk,im,fE,hcs,ar⟩:=KF.get zJ;obtain⟨x,hx⟩:=nj c.wes j zJ;rw[im];refine B 3 ?_;refine rq (.agg (ra x)) (ai isAgg166 sizeOf166 rfl A1 hcs zU trivial (nk ar hx rfl)) (va (nr ar hx rfl)) ?_;refine aZ zeroValue166 rfl rfl ?_;refine yW ?_;intro b8 vU vV;refine B 1 ?_;refine zgh ?_;refine B 3 ?_;by_cases h1:¬dD x.dev
  ·refine Vx ?_;refine nl 17 [.det [] _,.det [0] _,.det [1] (.bool false),.det [2] _,.det [3] _,.det [4] undef,.det [4,5] undef,.det [4,6] undef,.det [7] undef,.det [7,8] undef,.det [7] undef,.det [7,10] undef,.det [7,9,11] undef,.det [7,12] undef,.det [7,13] undef,.det [7] undef,.det [7,15] undef] zQ (xc HJ (xc zZ (xc (by exact λaf=>nf call207 rfl rfl (λW hS _=>by have h9:=Vg x.dev W;rw[decide_eq_false h1]at h9;exact h9) (λ_=>rfl)) (xc Zd (xc zN (xc zL (xc zL (xc zL (xc zL (xc zL (xc zL (xc zL (xc zL (xc zL (xc zL (xc zL (xc zL (xn)))))))))))))))))) zQ zQ zQ (λaf=>?_);refine B 23 ?_;exact KG
  by_cases h2:j=0
  ·refine Vx ?_;refine nl 17 [.det [] _,.det [0] _,.det [1] (.bool true),.det [2] _,.det [3] _,.det [4] _,.det [4,5] _,.det [4,6] _,.det [7] undef,.det [7,8] undef,.det [7] undef,.det [7,10] undef,.det [7,9,11] undef,.det [7,12] undef,.det [7,13] undef,.det [7] undef,.det [7,15] undef] zQ (xc HJ (xc zZ (xc zUb (xc zlc (xc zN (xc zN (xc Eu (xc zN (xc zL (xc zL (xc zL (xc zL (xc zL (xc zL (xc zL (xc zL (xc zL (xn)))))))))))))))))) zQ zQ zQ (λaf=>?_);refine B 5 ?_;refine z1h ?_;refine aG ?_ ?_
   ·intro aaM;exact zuk
   intro aaM;exact zaj
  obtain⟨y,hy⟩:=nj c.wes (j-1) zJ;by_cases h3:x.dev<=y.dev
  ·refine Vx ?_;refine nl 17 [.det [] _,.det [0] _,.det [1] (.bool true),.det [2] _,.det [3] _,.det [4] _,.det [4,5] _,.det [4,6] _,.det [7] _,.det [7,8] _,.det [7] _,.det [7,10] _,.det [7,9,11] _,.det [7,12] _,.det [7,13] _,.det [7] _,.det [7,15] _] zQ (xc HJ (xc zZ (xc zUb (xc zlc (xc zN (xc zN (xc Hu (xc zN (xc (by exact λaf=>X.val rfl rfl (al underlying99 rfl sizeOf97 rfl) (λ_ _=>rfl)) (xc zwd (xc zN (xc Dg (xc zXd (xc HJ (xc zDd (xc HJ (xc zZ (xn)))))))))))))))))) zQ zQ zQ (λaf=>?_);refine zkh ?_;refine B 22 ?_;exact KG
  refine Vx ?_;refine nl 17 [.det [] _,.det [0] _,.det [1] (.bool true),.det [2] _,.det [3] _,.det [4] _,.det [4,5] _,.det [4,6] _,.det [7] _,.det [7,8] _,.det [7] _,.det [7,10] _,.det [7,9,11] _,.det [7,12] _,.det [7,13] _,.det [7] _,.det [7,15] _] zQ (xc HJ (xc zZ (xc zUb (xc zlc (xc zN (xc zN (xc Hu (xc zN (xc (by exact λaf=>X.val rfl rfl (al underlying99 rfl sizeOf97 rfl) (λ_ _=>rfl)) (xc zwd (xc zN (xc Dg (xc zXd (xc HJ (xc zDd (xc HJ (xc zZ (xn)))))))))))))))))) zQ zQ zQ (λaf=>?_);refine Ni ?_;refine B 4 ?_;refine z1h ?_;refine aG ?_ ?_
  ·intro aaN;exact zuk
  intro aaN;exact zaj
 intro aaI;refine B 11 ?_;exact CA
abbrev zm (l:List UInt8):ByteArray:=strOfNums (l.map λu=>(u.toNat:Int))
theorem Vy(l:List UInt8):(zm l).size=l.length:=by rw[strOfNums_size,fp]
def mj (N:Nat) (w:World) (a:Option Addr) (l:List UInt8):Prop:=l=[]\/∃b off,a=some ⟨b,off,none⟩/\b<N/\cC w b off l
theorem n8e{P:Program}(w:World)(src e:Nat)(hs:P.underlying src=some (.slice e))(he:P.underlying e=some (.int .u8))(a:Option Addr)(cap:Nat)(dst:Nat)(hd:P.underlying dst=some .string):(convert src dst (.slice a 0 cap)).run P w= .ok (.string (strOfNums [])) w:=by
 cases a with
 |none=>
  have hr:=run_convert_bytes_nil (P:=P) w src e hs he 0 cap dst hd;rw[hr];rfl
 |some a=>
  have hl:(loadCells a 0).run P w= .ok (([]:List Int).map (Value.int .u8)).toArray w:=by simp[loadCells,loadCellsFrom]
  rw[run_convert_bytes_string w src dst e _ 0 cap hs he hd,run_bytesToString w _ 0 cap [] hl,foldl_push_bytes];simp[strOfNums,ByteArray.empty,ByteArray.emptyWithCapacity];rfl
theorem KH{src dst c:Nat}{l:List UInt8}(hs:C.P.underlying src=some (.slice e))(he:C.P.underlying e=some (.int .u8))(hd:C.P.underlying dst=some .string)(hx:ev E x=some (.slice a l.length c))(hm:w1∈L)(hb:mj N w1 a l)(hG:∀b,b<N->¬G.X b/\bD H b):RV C G L H E (.convert src dst x) (.string (zm l)):=λd ty pos aA g ac W hF hS=>by
 rcases hb with h1|⟨b,off,h1,h2,cs,t,fr,h3,h4,h5⟩
 ·subst h1;have hr:=n8e (P:=C.P) W src e hs he a c dst hd;simp only[mT]at hx;simp[execOp,hF.ev hx,hr];rfl
 subst h1;have hW:=hS.old hm h3 (hG b h2).1 (hG b h2).2;have hr:=run_convert_bytes_arg (P:=C.P) W src e hs he b off l.length c (l.map λu=>(u.toNat:Int)) zX (λi hi=>by
  rw[Cc hW,h5 i hi];simp[fU,List.getD,hi]) dst hd
 simp[execOp,hF.ev hx,hr]
theorem nCb(n:Int)(w:World):Calls prog 142 #[.int .i64 n] w (ay w (vI n)):=by
 refine enter (vs:=[_]) func142 rfl ntmps142 rfl ?_;refine B 2 ?_;refine xx ?_;refine yW ?_;intro b2 cR cX;refine B 5 ?_;refine PV ?_;refine bF (.inl rfl) results142 (RS.wA (i:=0) rfl isAgg149 sizeOf149 rfl (bj rfl) (RS.n)) A0 zP ?_;rfl
theorem Rm(l:List UInt8)(N:Nat)(a:Option Addr)(c:Nat)(w:World)(hN:N<=w.heap.size)(hb:mj N w a l):Calls prog 143 #[.slice a l.length c] w (ay w (vT (zm l))):=by
 refine enter (vs:=[_]) func143 rfl ntmps143 rfl ?_;refine B 2 ?_;refine xx ?_;refine yW ?_;intro b2 cR cX;refine B 5 ?_;refine rv rfl rfl rfl (KH underlying64 underlying5 underlying9 rfl A0 hb (λb aU=>⟨λh=>h,by simp only[bD,and_true];omega⟩)) ?_;refine PV ?_;refine bF (.inl rfl) results143 (RS.wA (i:=0) rfl isAgg149 sizeOf149 rfl (bj rfl) (RS.n)) A0 zP ?_;rfl
theorem Rn(base:Option Addr)(n c:Nat)(w:World):Calls prog 140 #[.slice base n c] w (ay w (vL base n c)):=by
 refine enter (vs:=[_]) func140 rfl ntmps140 rfl ?_;refine B 2 ?_;refine xx ?_;refine yW ?_;intro b2 cR cX;refine B 5 ?_;refine PV ?_;refine bF (.inl rfl) results140 (RS.wA (i:=0) rfl isAgg149 sizeOf149 rfl (bj rfl) (RS.n)) A0 zP ?_;rfl
def pU (n:Int):List Value:=[.int .i64 1,.int .i64 n,.string ⟨#[]⟩,.slice none 0 0]
theorem nan(n:Int):(pU n).length=4:=rfl
theorem ER(n:Int):∀u∈pU n,u.oneCell'=true:=by intro u hu;simp[pU]at hu;rcases hu with rfl|rfl|rfl|rfl<;>rfl
theorem KI:prog.info? 149=some Tryz.t149:=by kernel_rfl
theorem uj:kY prog 146 149 4:=⟨underlying146,Tryz.t149,.agg #[.int .i64 0,.int .i64 0,.string ⟨#[]⟩,.slice none 0 0],KI,rfl,rfl,rfl,by decide⟩
theorem nGi(xs:List Int)(cj:xs.length<=1000)(N:Nat)(a:Option Addr)(cp:Nat)(w:World)(hN:N<=w.heap.size)(aH:ag encI 1 N w a xs):Calls prog 141 #[.slice a xs.length cp] w (nD w pU 4 149 xs id):=by
 refine enter (vs:=[_]) func141 rfl ntmps141 rfl ?_;refine B 19 ?_;refine CJ.loop (α:=Rw×Nat) (λp=>[(3,p.1.val (xs.take p.2).length),(6,.slice a xs.length cp),(7,.int .i64 (xs.length:Int)),(8,.int .i64 (p.2:Int))]) (λp=>p.1.hp pU 149 (xs.take p.2)++[]) (λp=>[w]) (λp=>Gh.no) (λp=>p.2<=xs.length/\p.1.Fr Gh.no [w]/\p.1.Fit 4 (xs.take p.2)) (λp=>xs.length-p.2) (.nil,0) ⟨db _,True.intro,rfl⟩ zR rfl rfl zX ?_;rintro⟨r,j⟩ ⟨hj,bE,ak⟩;dsimp only at hj bE ak ⊢;have cE:r.ge w.heap.size:=Rw.ge_of bE A0;refine B 6 ?_;refine aG ?_ ?_
 ·intro ah;refine B 5 ?_;obtain⟨bo,oo,cs0,to,fk,rfl,fE,hcs,ar⟩:=aH.get zJ;obtain⟨x,hx⟩:=nj xs j zJ;refine B 2 ?_;refine rv rfl rfl rfl (aa (v:=.int .i64 x) isAgg3 rfl A0 hcs zU (by simp only[bD,ne,dH,and_true];exact Rw.off_ge cE zJ) (by have:=nR ar hx rfl zO;simpa[encI]using this)) ?_;refine B 6 ?_;refine call call142 rfl rfl rfl (λW hS=>nCb _ W) ?_;refine G8 ?_;refine yW ?_;intro dR gU DR;refine pM (r:=r) (xs:=(xs.take j)) (zs:=[x]) (enc:=pU) (m:=4) (H0:=[(dR,.cells #[.int .i64 1,.int .i64 x,.string ⟨#[]⟩,.slice none 0 0] 149 (0,0))]) (H1:=[]) yr uj nan rfl rfl rfl rfl (dz.one (z:=x) nan ER underlying146 (bL.own (i:=0) rfl)) ak bE zX (by simp only[jD,dQ,mT];omega) ?_;intro ey fy gq jm fb;replace jm:=yb jm;refine Ro ?_;refine PJ.again (Rw.row ey fy gq,j+1) ⟨by dsimp only;omega,jm.elim (λh=>Rw.Fr_at bE h) (λh=>.inr h),by rw[nC hx];exact fb⟩ dG ⟨by rw[nC hx];rfl,rfl,rfl,rfl,trivial⟩ (by rw[nC hx];rfl) rfl zX
 intro ah;refine B 6 ?_;have bP:xs.take j=xs:=iV zJ;rw[bP]at ak ⊢;refine B 6 ?_;exact nW (H0:=[]) (H1:=[]) (r:=r) (.inl rfl) results141 (RS.t rfl RS.n) A0 UZ rfl ak (Rw.ge_of bE A0) zX
abbrev El:=Nat×Nat
def gh (n:Nat) (e:El):List Value:=[.int .i64 3,.int .i64 0,.string ⟨#[]⟩,.slice (some ⟨e.1,0,none⟩) n e.2]
theorem NC(n:Nat)(e:El):(gh n e).length=4:=rfl
theorem n6i(n:Nat)(e:El):∀u∈gh n e,u.oneCell'=true:=by intro u hu;simp[gh]at hu;rcases hu with rfl|rfl|rfl|rfl<;>rfl
def gG (F:ab) (n:Nat) (es:List El) (ls:List (List V)):Prop:=es.length=ls.length/\∀(i:Nat) (e:El) (l:List V),es[i]? =some e->ls[i]? =some l->l.length=n/\l.all mY=true/\n<=e.2/\∃sp t fr,(e.1,Obj.cells (nF l++sp).toArray t fr)∈F
theorem gG.nil{n:Nat}:gG F n [] []:=⟨rfl,λi e l h=>by simp at h⟩
theorem gG.up{F':ab}{n:Nat}{es:List El}(h:gG F n es ls)(hF:∀p∈F,p∈F'):gG F' n es ls:=⟨h.1,λi e l h1 h2=>by
 obtain⟨g1,g2,g3,sp,t,fr,g4⟩:=h.2 i e l h1 h2;exact⟨g1,g2,g3,sp,t,fr,hF _ g4⟩⟩
theorem nLh{α:Type}{xs:List α}{y z:α}(h:(xs++[y])[i]? =some z):xs[i]? =some z\/(i=xs.length/\z=y):=by
 by_cases hi:i<xs.length
 ·rw[vZ hi]at h;exact .inl h
 rw[B6 zJ]at h;have h2:i-xs.length<1:=by have:=(gi.1 h).1;simpa using this
 have h3:i=xs.length:=by omega
 subst h3;simp at h;exact .inr ⟨rfl,h.symm⟩
theorem gG.snoc{F':ab}{n c t:Nat}{es:List El}{l:List V}(h:gG F n es ls)(hF:∀p∈F,p∈F')(hl:l.length=n)(hf:l.all mY=true)(hc:n<=c)(hp:(b,Obj.cells (nF l++sp).toArray t fr)∈F'):gG F' n (es++[(b,c)]) (ls++[l]):=by
 refine⟨by simp[h.1],λi e l' h1 h2=>?_⟩;have e1:=h.1;rcases nLh h1 with h1|⟨rfl,rfl⟩
 ·rcases nLh h2 with h2|⟨rfl,rfl⟩
  ·exact(h.up hF).2 i e l' h1 h2
  have:=nE h1;omega
 rcases nLh h2 with h2|⟨_,rfl⟩
 ·have:=nE h2;omega
 exact⟨hl,hf,hc,sp,t,fr,hp⟩
theorem nJm{N:Nat}{w:World}:∀(l:List V) (ys:List (List Value)) (pre wB:List Value),l.length=ys.length->(∀(i:Nat) (x:V) (y:List Value),l[i]? =some x->ys[i]? =some y->y.length=4/\dM N w x (.agg y.toArray))->eF N w (pre++(ys.flatten++wB)).toArray pre.length l
 | [],_,pre,wB,_,_=>by simp[eF]
 |x::l,[],pre,wB,hl,_=>by simp at hl
 |x::l,y::ys,pre,wB,hl,h=>by
  obtain⟨h1,h2⟩:=h 0 x y rfl rfl;have ih:=nJm (N:=N) (w:=w) l ys (pre++y) wB wv (λi x' y' hx hy=>h (i+1) x' y' (by simpa using hx) (by simpa using hy));have e:pre++y++(ys.flatten++wB)=pre++((y::ys).flatten++wB):=by simp
  rw[e]at ih;simp only[eF];have hc:cut (pre++((y::ys).flatten++wB)).toArray pre.length 4=y.toArray:=by
   unfold cut;simp only[List.flatten_cons,iX];rw[List.drop_left,<-h1,List.take_left]
  refine⟨?_,by rw[hc];exact h2,?_⟩
  ·simp only[qF,cK,List.flatten_cons];omega
  rw[cK,h1]at ih;exact ih
theorem nSl{α:Type}{t:Nat}{w:World}{enc:α->List Value}{xs:List α}{l:List V}(hl:l.length=xs.length)(he:∀(i:Nat) (x:α) (y:V),xs[i]? =some x->l[i]? =some y->(enc x).length=4/\dM N w y (.agg (enc x).toArray))(hr:∀p∈r.hp enc t xs,p.1<N/\w.heap[p.1]? =some p.2)(hf:r.Fit 4 xs):dM N w (.list l) (.agg #[.int .i64 3,.int .i64 0,.string ⟨#[]⟩,r.val xs.length]):=by
 simp only[dM];cases r with
 |nil=>
  have h0:xs=[]:=hf;subst h0;have h1:l=[]:=iZ wv;subst h1;exact⟨none,0,rfl,ao _,.inl rfl⟩
 |row b cap sp=>
  obtain⟨f1,f2⟩:=hf;obtain⟨g1,g2⟩:=hr (b,ck enc t xs sp) ud;refine⟨some ⟨b,0,none⟩,cap,by rw[hl];rfl,by omega,.inr ⟨b,_,t,(0,0),rfl,g1,g2,?_⟩⟩;have h2:=nJm (N:=N) (w:=w) l (xs.map enc) [] sp wv (λi x y hx hy=>by
   rw[qp]at hy;cases hxs:xs[i]? with
   |none=>rw[hxs]at hy;cases hy
   |some z=>rw[hxs]at hy;cases hy;exact he i z x hxs hx)
  simpa[eg,List.flatMap]using h2
theorem gG.vat{n t:Nat}{w:World}{es:List El}(h:gG F n es ls)(hw:∀p∈F,p.1<N/\w.heap[p.1]? =some p.2)(hr:∀p∈r.hp (gh n) t es,p∈F)(hf:r.Fit 4 es):dM N w (.list (ls.map V.list)) (.agg #[.int .i64 3,.int .i64 0,.string ⟨#[]⟩,r.val es.length]):=
 nSl (by rw[fp];exact h.1.symm) (λi e y hx hy=>⟨rfl,by
  rw[qp]at hy;cases hl:ls[i]? with
  |none=>rw[hl]at hy;cases hy
  |some l=>
   rw[hl]at hy;cases hy;obtain⟨g1,g2,g3,sp,t',fr,g4⟩:=h.2 i e l hx hl;obtain⟨k1,k2⟩:=hw _ g4;have:=PU (cap:=e.2) g2 k1 zJ k2;rw[g1]at this;exact this⟩) (λp hp=>hw p (hr p hp)) hf
theorem zn{t:Nat}{w:World}{xs:List Int}(hr:∀p∈r.hp pU t xs,p.1<N/\w.heap[p.1]? =some p.2)(hf:r.Fit 4 xs):dM N w (.list (xs.map V.int)) (.agg #[.int .i64 3,.int .i64 0,.string ⟨#[]⟩,r.val xs.length]):=
 nSl zX (λi x y hx hy=>⟨rfl,by rw[qp,hx]at hy;cases hy;simp only[dM];rfl⟩) hr hf
def wC (x:Ch):List V:=[.int x.kind,.int x.dev,.int x.pub,.int x.ver,.int x.cut]
def pV (x:Bx):List V:=[.int x.node,.int x.level,.int x.w.u,.text (zm x.w.body)]
def pW (x:We):List V:=[.int x.dev,.int x.w.u,.text (zm x.w.body)]
def lq (c:Cm):List V:=[.int c.folder,.int c.epoch,.text (zm (dc c.par)),.int c.author,.list ((c.chs.map wC).map V.list),.list (c.path.map V.int),.list ((c.bxs.map pV).map V.list),.list ((c.wes.map pW).map V.list),.text (zm (dc c.conf)),.int c.sr,.int c.ss]
theorem nCh{α β:Type}(f:α->β){xs:List α}{x:α}(hx:xs[j]? =some x):(xs.take (j+1)).map f=(xs.take j).map f++[f x]:=by rw[nC hx];simp
theorem cC.dgo{w:World}{t off:Nat}{f:Nat->Int}(h:w.heap[b]? =some (.cells cs t fr))(hc:cut cs off 32=Px.dg f)(hs:off+32<=cs.size)(hf:iJ f):cC w b off (dc f):=
 ⟨cs,t,fr,h,by rw[nQ];exact hs,λi hi=>by
  rw[nQ]at hi;rw[UC f hf i hi,<-oL f i hi,<-hc];unfold cut;rw[<-vY,<-vY];simp only[I2 hi,uL]⟩
theorem KJ{t:Nat}{xs:List Int}(h:W.heap[b]? =some (.cells (xs.map (Value.int .i64)).toArray t fr)):ag encI 1 W.heap.size W (some ⟨b,0,none⟩) xs:=by
 refine .inr ⟨b,0,_,t,fr,rfl,(aT.1 h).1,h,λi hi=>⟨by simp;omega,?_⟩⟩;unfold cut encI;apply Array.ext';simp only[iC,sm];rw[<-List.map_drop,List.drop_eq_getElem_cons hi,eh];rfl
end Px
