/- Contracts of functions of the program. No condition beyond those stated. -/
import Derived.Test.YtodpaegknpbomaaGreatDoorKb
import Derived.Test.YtodpaegknpbomaaGreatDoorProg
import Derived.Test.YtodpaegknpbomaaGreatDoorLa
set_option linter.unusedSimpArgs false
set_option linter.unusedVariables false
set_option linter.unusedSectionVars false
set_option linter.unnecessarySimpa false
set_option maxRecDepth 20000
set_option maxHeartbeats 8000000
namespace Px
open Go Go.RowKit Go.Proofs Go.Proofs.Tryz
structure Mb where
 dev:Int
 since:Int
 ver:Int
def qd (x:Mb):Array Value:=#[ab x.dev,ab x.since,ab x.ver]
def oE (x:Mb):List Value:=[ab x.dev,ab x.since,ab x.ver]
structure Ch where
 kind:Int
 dev:Int
 pub:Int
 ver:Int
 cut:Int
def gC (x:Ch):Array Value:=#[ab x.kind,ab x.dev,ab x.pub,ab x.ver,ab x.cut]
def mI (x:Ch):List Value:=[ab x.kind,ab x.dev,ab x.pub,ab x.ver,ab x.cut]
theorem BJ(x:Mb):(oE x).length=3:=rfl
theorem BK(x:Ch):(mI x).length=5:=rfl
theorem nnh(x:Mb):∀u∈oE x,u.oneCell'=true:=by intro u hu;simp[oE]at hu;rcases hu with rfl|rfl|rfl<;>rfl
theorem nZj(x:Ch):∀u∈mI x,u.oneCell'=true:=by intro u hu;simp[mI]at hu;rcases hu with rfl|rfl|rfl|rfl|rfl<;>rfl
theorem Kk:prog.info? 131=some Tryz.t131:=by kernel_rfl
theorem Kl:prog.info? 99=some Tryz.t99:=by kernel_rfl
def de (a b:Int):Int:=if a<b then -1 else if b<a then 1 else 0
abbrev qe (f:Int):Prop:=0<=f/\f<16
variable {cs:Array Value} {d:Int} {ls:List (List V)} {ns:List Nd} {L:List World} {N i j n t:Nat} {fr:Nat×Nat} {a:Option Addr} {w:World}
theorem nnd{α:Type}{p:α->Bool}{xs:List α}(h:∀i x,i<j->xs[i]? =some x->p x=false)(hj:¬j<xs.length):xs.any p=false:=by
 rw[List.any_eq_false];intro x hx;obtain⟨i,hi⟩:=kA.1 hx;all_goals grind
def gu {α:Type} (p:α->Bool) (xs:List α) (j:Nat):Prop:=∀i x,i<j->xs[i]? =some x->p x=false
theorem gu.next{α:Type}{p:α->Bool}{xs:List α}{x:α}(h:gu p xs j)(hx:xs[j]? =some x)(hp:p x=false):gu p xs (j+1):=by
 exact zPh
def fb {α:Type} (p:α->Bool) (xs:List α) (i:Int):Prop:=(i= -1/\xs.any p=false)\/∃(k:Nat) (x:α),i=(k:Int)/\xs[k]? =some x/\p x=true/\gu p xs k
theorem fb.any{α:Type}{p:α->Bool}{xs:List α}{i:Int}(h:fb p xs i):decide (0<=i)=xs.any p:=by
 rcases h with⟨rfl,h⟩|⟨k,x,rfl,hx,hp,_⟩;all_goals grind
def CC (xs:List Mb) (d:Int) (i j:Nat):Nat:=
 if h:i<j then(if((xs[(i+j)/2]?).map (·.dev)).getD 0<d then CC xs d ((i+j)/2+1) j else CC xs d i ((i+j)/2))else i
termination_by j-i
decreasing_by all_goals omega
variable {xs:List Mb}
theorem Qs{x:Mb}(h:i<j)(hx:xs[(i+j)/2]? =some x)(hd:x.dev<d):CC xs d i j=CC xs d ((i+j)/2+1) j:=by
 rw[CC,dif_pos h,hx];simp[hd]
theorem Qt{x:Mb}(h:i<j)(hx:xs[(i+j)/2]? =some x)(hd:¬x.dev<d):CC xs d i j=CC xs d i ((i+j)/2):=by
 rw[CC,dif_pos h,hx];simp[hd]
theorem Qu(h:¬i<j):CC xs d i j=i:=by rw[CC,dif_neg h]
theorem n5i(a b:Int):de a b<0↔a<b:=by unfold de;split<;>(try split)<;>omega
theorem Km(a b:Int):de a b=0↔a=b:=by unfold de;split<;>(try split)<;>omega
def o8 (xs:List Mb) (d:Int):Nat:=CC xs d 0 xs.length
def ij (xs:List Mb) (d:Int):Bool:=decide (((xs[o8 xs d]?).map (·.dev))=some d)
theorem nnm{x:Mb}(h:o8 xs d=i)(hx:xs[i]? =some x):decide (de x.dev d=0)=ij xs d:=by
 unfold ij;rw[h,hx];simp[Km]
theorem n9i(h:o8 xs d=i)(hi:¬i<xs.length):false=ij xs d:=by
 unfold ij;rw[h,List.getElem?_eq_none aa];simp
theorem Ko(h:ij xs d=true):o8 xs d<xs.length:=by grind [o8,n9i]
theorem nul(f:Int)(w:World):Calls prog 217 #[ab f] w (aL w (.bool (decide (qe f)))):=by
 refine eN func217 ntmps217 ?_;refine B 10 ?_;refine ni (t:=5) rfl (λar=>?_) (λar=>?_)
 ·exact zvh
 exact zvh
theorem UK(f:Int)(w:World):Calls prog 222 #[ab f] w (aL w (.bool (decide (ee f)))):=by
 refine eN func222 ntmps222 ?_;refine B 10 ?_;refine ni (t:=5) rfl (λar=>?_) (λar=>?_)
 ·exact zuh
 exact zuh
theorem n9j(f:Int)(w:World):Calls prog 169 #[ab f] w (aL w (bN)):=by
 refine eN func169 ntmps169 ?_;refine B 14 ?_;refine aF results169 rfl A0 ?_;exact vb zI
theorem n5g(a b:Int)(w:World):Calls prog 103 #[ab a,ab b] w (aL w (ab (de a b))):=by
 refine eN func103 ntmps103 ?_;refine B 8 ?_;refine call call169 rfl rfl rfl (λW hS=>n9j _ W) (v:=.bool false) ?_;refine B 6 ?_;refine call call169 rfl rfl rfl (λW hS=>n9j _ W) (v:=.bool false) ?_;refine B 29 ?_;refine aG ?_ ?_
 ·intro ar;refine B 7 ?_;exact zJh
 intro ar;refine B 10 ?_;refine aG ?_ ?_
 ·intro aN;refine B 7 ?_;exact zJh
 intro aN;refine B 8 ?_;exact zJh
theorem njl(x:Mb)(d:Int)(w:World):Calls prog 264 #[.agg (qd x),ab d] w (aL w (ab (de x.dev d))):=by
 refine eN func264 ntmps264 ?_;refine B 2 ?_;refine yX ?_;intro b2 w2 di bV ff dB dx;refine B 8 ?_;refine call call103 rfl rfl rfl (λW hS=>n5g _ _ W) ?_;refine B 4 ?_;refine aF results264 rfl A1 ?_;rfl
theorem n0o(xs:List Mb)(hxl:xs.length<=1000000)(N:Nat)(a:Option Addr)(cp:Nat)(w:World)(hN:N<=w.heap.size)(aJ:ai qd 3 N w a xs)(d:Int):Calls prog 263 #[.slice a xs.length cp,ab d,.func (.func 264) #[] #[]] w (aL w (.tuple #[ab (o8 xs d:Int),.bool (ij xs d)])):=by
 refine eN func263 ntmps263 ?_;refine B 22 ?_;refine CJ.lp (α:=Nat×Nat) [0,1,2,8] (λp=>[(9,ab (p.1:Int)),(10,ab (p.2:Int))]) (λp=>[]) (λp=>p.1<=p.2/\p.2<=xs.length/\CC xs d p.1 p.2=o8 xs d) (λp=>p.2-p.1) (0,xs.length) ⟨cR _,ak _,rfl⟩ ?_;rintro⟨i,j⟩ ⟨uz,sF,hbs⟩;dsimp only at uz sF hbs ⊢;refine B 8 ?_;refine aG ?_ ?_
 ·intro ar;refine B 9 ?_;refine rv rfl rfl rfl (iU 1 2 zA rfl rfl rfl) ?_;refine rq (ab (((i+j)/2:Nat):Int)) (yj underlying222 underlying3 rfl aa aa) ((congrArg ab aa)) ?_;refine B 4 ?_;obtain⟨bo,oo,cs0,to,fV,rfl,fP,cJ,aV⟩:=aJ.get aa;obtain⟨x,hx⟩:=ng xs ((i+j)/2) aa;refine B 5 ?_;refine zGf ?_;refine B 3 ?_;refine aG ?_ ?_
  ·intro aN;refine B 6 ?_;refine ag ((i+j)/2+1,j) ⟨by dsimp only;omega,sF,by rw[<-hbs,Qs aa hx ((n5i _ _).1 eE)]⟩
  intro aN;refine B 5 ?_;refine ag (i,(i+j)/2) ⟨by dsimp only;omega,by dsimp only;omega,by rw[<-hbs,Qt aa hx (λh=>(by assumption:¬de x.dev d<0) ((n5i _ _).2 h))]⟩
 intro ar;refine B 6 ?_;have hbe:o8 xs d=i:=by rw[<-hbs,Qu aa]
 by_cases h1:i<xs.length
 ·obtain⟨bo,oo,cs0,to,fV,rfl,fP,cJ,aV⟩:=aJ.get aa;obtain⟨x,hx⟩:=ng xs i aa;refine B 4 ?_;refine UL ?_;refine zGf ?_;refine B 7 ?_;exact z9g
 refine B 4 ?_;refine ay bN ?_;refine B 15 ?_;exact z9g
theorem nld(p:Mb->Bool)(f:Nat)(cap:List Value)(az:ew prog f)(xs:List Mb)(hxl:xs.length<=1000000)(N:Nat)(a:Option Addr)(cp:Nat)(w:World)(hN:N<=w.heap.size)(aJ:ai qd 3 N w a xs)(hp:∀(j:Nat) (x:Mb),xs[j]? =some x->∀W,Below w.heap.size w W->Calls prog f (.agg (qd x)::cap).toArray W (aL W (.bool (p x)))):Calls prog 118 #[.slice a xs.length cp,.func (.func f) #[] cap.toArray] w (cK w (λi:Int=>ab i) (λi _=>fb p xs i)):=by
 refine eN func118 ntmps118 ?_;refine UM ?_;rintro j ⟨hj,dZ⟩;refine B 6 ?_;refine aG ?_ ?_
 ·intro ar;refine B 11 ?_;obtain⟨bo,oo,cs0,to,fV,rfl,fP,cJ,aV⟩:=aJ.get aa;obtain⟨x,hx⟩:=ng xs j aa;refine B 5 ?_;refine ay (.agg (qd x)) ?_;refine UN ?_;refine aG ?_ ?_
  ·intro aN;refine B 12 ?_;refine rY (j:Int) results118 rfl A0 rfl ?_;exact UO
  exact UP
 intro ar;refine B 11 ?_;refine rY (-1:Int) results118 rfl A0 rfl ?_;exact UQ
theorem nSe(p:Mb->Bool)(f:Nat)(cap:List Value)(az:ew prog f)(xs:List Mb)(hxl:xs.length<=1000000)(N:Nat)(a:Option Addr)(cp:Nat)(w:World)(hN:N<=w.heap.size)(aJ:ai qd 3 N w a xs)(hp:∀(j:Nat) (x:Mb),xs[j]? =some x->∀W,Below w.heap.size w W->Calls prog f (.agg (qd x)::cap).toArray W (aL W (.bool (p x)))):Calls prog 221 #[.slice a xs.length cp,.func (.func f) #[] cap.toArray] w (aL w (.bool (xs.any p))):=by
 refine eN func221 ntmps221 ?_;refine B 9 ?_;refine nv (α:=Int) (v:=λi:Int=>ab i) (Φ:=λ_ i _=>fb p xs i) call118 rfl rfl rfl (λW hS=>nld p f cap az xs hxl N a cp W cM (aJ.up (ak _) hS.sm) (λj x hx W2 hB=>hp j x hx W2 (((hS.links w A0).below J5).trans (hB.mono (hS.links w A0).size)))) ?_;intro Wi i wi Ev Ew hi;refine B 5 ?_;refine aF results221 rfl A1 ?_;exact vb hi.any
theorem nFe(p:Ch->Bool)(f:Nat)(cap:List Value)(az:ew prog f)(xs:List Ch)(hxl:xs.length<=1000000)(N:Nat)(a:Option Addr)(cp:Nat)(w:World)(hN:N<=w.heap.size)(aJ:ai gC 5 N w a xs)(hp:∀(j:Nat) (x:Ch),xs[j]? =some x->∀W,Below w.heap.size w W->Calls prog f (.agg (gC x)::cap).toArray W (aL W (.bool (p x)))):Calls prog 225 #[.slice a xs.length cp,.func (.func f) #[] cap.toArray] w (cK w (λi:Int=>ab i) (λi _=>fb p xs i)):=by
 refine eN func225 ntmps225 ?_;refine UM ?_;rintro j ⟨hj,dZ⟩;refine B 6 ?_;refine aG ?_ ?_
 ·intro ar;refine B 11 ?_;obtain⟨bo,oo,cs0,to,fV,rfl,fP,cJ,aV⟩:=aJ.get aa;obtain⟨x,hx⟩:=ng xs j aa;refine B 5 ?_;refine ay (.agg (gC x)) ?_;refine UN ?_;refine aG ?_ ?_
  ·intro aN;refine B 12 ?_;refine rY (j:Int) results225 rfl A0 rfl ?_;exact UO
  exact UP
 intro ar;refine B 11 ?_;refine rY (-1:Int) results225 rfl A0 rfl ?_;exact UQ
theorem ntd(p:Ch->Bool)(f:Nat)(cap:List Value)(az:ew prog f)(xs:List Ch)(hxl:xs.length<=1000000)(N:Nat)(a:Option Addr)(cp:Nat)(w:World)(hN:N<=w.heap.size)(aJ:ai gC 5 N w a xs)(hp:∀(j:Nat) (x:Ch),xs[j]? =some x->∀W,Below w.heap.size w W->Calls prog f (.agg (gC x)::cap).toArray W (aL W (.bool (p x)))):Calls prog 156 #[.slice a xs.length cp,.func (.func f) #[] cap.toArray] w (aL w (.bool (xs.any p))):=by
 refine eN func156 ntmps156 ?_;refine B 9 ?_;refine nv (α:=Int) (v:=λi:Int=>ab i) (Φ:=λ_ i _=>fb p xs i) call225 rfl rfl rfl (λW hS=>nFe p f cap az xs hxl N a cp W cM (aJ.up (ak _) hS.sm) (λj x hx W2 hB=>hp j x hx W2 (((hS.links w A0).below J5).trans (hB.mono (hS.links w A0).size)))) ?_;intro Wi i wi Ev Ew hi;refine B 5 ?_;refine aF results156 rfl A1 ?_;exact vb hi.any
structure Gp where
 folder:Int
 epoch:Int
 last:Nat->Int
 ms:List Mb
 ns:List Nd
structure Gv where
 g:Gp
 ma:Option Addr
 mc:Nat
 na:Option Addr
 nc:Nat
def bD (x:Gv):Array Value:=(ab x.g.folder::ab x.g.epoch::lU x.g.last [.slice x.ma x.g.ms.length x.mc,.slice x.na x.g.ns.length x.nc]).toArray
structure bS (N:Nat) (w:World) (x:Gv):Prop where
 ms:ai qd 3 N w x.ma x.g.ms
 ns:ai gb 2 N w x.na x.g.ns
 mn:x.g.ms.length<=10000
 nn:x.g.ns.length<=80000
theorem bS.up{N':Nat}{w':World}{x:Gv}(h:bS N w x)(hN:N<=N')(hw:∀k,k<N->w'.heap[k]? =w.heap[k]?):bS N' w' x:=⟨h.ms.up hN hw,h.ns.up hN hw,h.mn,h.nn⟩
def UR (ep:Int) (x:Mb):Bool:=decide (x.since<1\/ep<x.since\/¬eg x.ver)
def Qv (g:Gp):Prop:=(qe g.folder/\0<=g.epoch/\g.epoch<=1099511627776/\jQ g.ns=0)/\¬(g.epoch=0/\(0<g.ms.length\/mw g.last (λ_=>0)=false))/\g.ms.map (·.dev)=eh g.ns/\g.ms.any (UR g.epoch)=false
open Classical in
noncomputable def dU (g:Gp):Bool:=decide (Qv g)
theorem XX(a:Int):(if eg a then(0:Int)else 40)=0↔eg a:=by grind
theorem nyn(G:Gv)(b:Nat)(x:Mb)(w:World)(hb1:w.heap[b]? =some (oC (bD G) 53)):Calls prog 218 #[.agg (qd x),ptr b 0] w (aL w (.bool (UR G.g.epoch x))):=by
 have cF:¬Gh.no.X b:=λh=>h;have mr:=(aT.1 hb1).1;obtain⟨e,he⟩:∃e,(if eg x.ver then(0:Int)else 40)=e:=⟨_,rfl⟩;have Iy:=XX x.ver;rw[he]at Iy;refine eN func218 ntmps218 ?_;refine B 2 ?_;refine yX ?_;intro b2 w2 di bV ff dB dx;refine B 9 ?_;refine ni (t:=7) rfl (λar=>?_) (λar=>?_)
 ·replace ar:=ya ar;refine B 16 ?_;exact zyh
 replace ar:=ya ar;refine B 7 ?_;refine ni (t:=14) rfl (λaN=>?_) (λaN=>?_)
 ·replace aN:=ya aN;refine B 9 ?_;exact zyh
 replace aN:=ya aN;refine B 2 ?_;refine zLd ?_;refine B 6 ?_;exact zyh
theorem Kp(x:Mb)(d:Int)(w:World):Calls prog 219 #[.agg (qd x),ab d] w (aL w (.bool (decide (x.dev=d)))):=by
 refine eN func219 ntmps219 ?_;refine B 2 ?_;refine yX ?_;intro b2 w2 di bV ff dB dx;refine B 13 ?_;refine aF results219 rfl A1 ?_;rfl
theorem nug{α β:Type}{f:α->β}{xs:List α}{ys:List β}(hl:xs.length=ys.length)(h:∀i x y,i<xs.length->xs[i]? =some x->ys[i]? =some y->f x=y):xs.map f=ys:=by
 apply List.ext_getElem NH;intro i h1 h2;simp only[eQ]at h1;simpa using h i _ _ h1 (kK h1) (kK h2)
theorem nZg{α β:Type}{f:α->β}{xs:List α}{ys:List β}{x:α}{y:β}(hx:xs[i]? =some x)(hy:ys[i]? =some y)(hne:f x≠y):xs.map f≠ys:=by grind
def uA {α β:Type} (f:α->β) (xs:List α) (ys:List β) (j:Nat):Prop:=∀i x y,i<j->xs[i]? =some x->ys[i]? =some y->f x=y
theorem uA.next{α β:Type}{f:α->β}{xs:List α}{ys:List β}{x:α}{y:β}(h:uA f xs ys j)(hx:xs[j]? =some x)(hy:ys[j]? =some y)(e:f x=y):uA f xs ys (j+1):=by
 exact zeh
theorem n1c(xs:List Mb)(hxl:xs.length<=1000000)(N:Nat)(a:Option Addr)(cp:Nat)(w:World)(hN:N<=w.heap.size)(aJ:ai qd 3 N w a xs)(ys:List Int)(a2:Option Addr)(XY:Nat)(Ex:ai (λx=>(aA x).toArray) 1 N w a2 ys):Calls prog 220 #[.slice a xs.length cp,.slice a2 ys.length XY,.func (.func 219) #[] #[]] w (aL w (.bool (decide (xs.map (·.dev)=ys)))):=by
 refine eN func220 ntmps220 ?_;refine B 15 ?_;refine aG ?_ ?_
 ·intro ar;refine B 7 ?_;refine aF results220 rfl A0 ?_;exact vb zeb
 intro ar;refine B 11 ?_;refine CJ.lp (α:=Nat) [1,2,15,16] (λj=>[(17,ab (j:Int))]) (λj=>[]) (λj=>j<=xs.length/\uA (·.dev) xs ys j) (λj=>xs.length-j) 0 ⟨cR _,λi x y hi=>absurd hi aa⟩ ?_;rintro j ⟨hj,dZ⟩;refine B 6 ?_;refine aG ?_ ?_
 ·intro aN;refine B 5 ?_;obtain⟨bo,oo,cs0,to,fV,rfl,fP,cJ,aV⟩:=aJ.get aa;obtain⟨x,hx⟩:=ng xs j aa;refine B 3 ?_;refine ay (.agg (qd x)) ?_;refine B 1 ?_;refine yW ?_;intro b8 Ig Ii;refine B 5 ?_;obtain⟨bp,op,csp,tp,frp,rfl,Cg,Qw,Qx⟩:=Ex.get aa;obtain⟨y,hy⟩:=ng ys j aa;refine B 4 ?_;refine rv rfl rfl rfl (av (v:=ab y) isAgg3 rfl A0 Qw zJ zz (by have:=nK (enc:=λx=>(aA x).toArray) (n:=1) Qx hy rfl zA;simpa[aA]using this)) ?_;refine B 8 ?_;refine Bo (f:=219) (cap:=[]) rfl call219 rfl rfl rfl (λW hS=>Kp x y W) ?_;refine B 3 ?_;refine aG ?_ ?_
  ·intro dp;refine B 11 ?_;refine cC (.inl rfl) results220 aX A0 zB ?_;exact vb zeb
  intro dp;refine xr ?_;refine ag (j+1) ⟨by omega,dZ.next hx hy yN⟩
 intro aN;refine B 11 ?_;refine aF results220 rfl A0 ?_;exact vb zeb
theorem Aw{g:Gp}:dU g=true↔Qv g:=by unfold dU;simp
theorem Qy{g:Gp}(h:¬Qv g):bN= .bool (dU g):=by grind [dU,Aw]
theorem nzn{g:Gp}(h1:qe g.folder/\0<=g.epoch/\g.epoch<=1099511627776/\jQ g.ns=0)(h2:¬(g.epoch=0/\(0<g.ms.length\/mw g.last (λ_=>0)=false)))(h3:g.ms.map (·.dev)=eh g.ns):Value.bool (!g.ms.any (UR g.epoch))= .bool (dU g):=vb (by
 by_cases h:g.ms.any (UR g.epoch)=false
 ·rw[h,Aw.2 ⟨h1,h2,h3,h⟩];rfl
 cases e:dU g with
 |false=>simpa using h
 |true=>exact absurd (Aw.1 e).2.2.2 h)
theorem nQ(G:Gv)(N:Nat)(w:World)(hN:N<=w.heap.size)(hG:bS N w G):Calls prog 148 #[.agg (bD G)] w (aL w (.bool (dU G.g))):=by
 have hn:G.g.ns.length<=100000:=by have:=hG.nn;omega
 have vm:G.g.ms.length<=1000000:=by have:=hG.mn;omega
 have aJ:=hG.ns;refine eN func148 ntmps148 ?_;refine B 2 ?_;refine yX ?_;intro b1 w1 hb1 cF gK gj jy;refine B 8 ?_;refine call call217 rfl rfl rfl (λW hS=>nul _ W) ?_;refine B 2 ?_;refine ni (t:=9) rfl (λar=>?_) (λar=>?_)
 ·replace ar:=ya ar;refine B 25 ?_;refine aF results148 rfl A1 ?_;exact Qy (λh=>ar h.1.1)
 replace ar:=ya ar;refine B 5 ?_;refine ni (t:=14) rfl (λaN=>?_) (λaN=>?_)
 ·replace aN:=ya aN;refine B 20 ?_;refine aF results148 rfl A1 ?_;exact Qy (λh=>by have:=h.1.2.1;omega)
 replace aN:=ya aN;refine B 5 ?_;refine ni (t:=19) rfl (λdp=>?_) (λdp=>?_)
 ·replace dp:=ya dp;refine B 15 ?_;refine aF results148 rfl A1 ?_;exact Qy (λh=>by have:=h.1.2.2.1;omega)
 replace dp:=ya dp;refine B 1 ?_;refine ay (.agg #[.slice G.na G.g.ns.length G.nc]) ?_;refine call call111 rfl rfl rfl (λW hS=>nKb G.g.ns hn N G.na G.nc W cM (aJ.up (ak _) hS.sm)) ?_;refine B 4 ?_;refine aG ?_ ?_
 ·intro jh;refine B 7 ?_;refine aF results148 rfl A1 ?_;exact Qy (λh=>jh h.1.2.2.2)
 intro jh;refine B 9 ?_;refine ni (t:=28) rfl (λiC=>?_) (λiC=>?_)
 ·replace iC:=ya iC;refine B 5 ?_;refine ni (t:=33) rfl (λlS=>?_) (λlS=>?_)
  ·replace lS:=ya lS;refine B 16 ?_;refine aF results148 rfl A1 ?_;exact Qy (λh=>h.2.1 ⟨iC,.inl aa⟩)
  replace lS:=ya lS;refine B 3 ?_;refine rr (.bool (!mw G.g.last (λ_=>0))) (eF xn zA nM rfl rfl rfl) ?_;refine B 4 ?_;refine aG ?_ ?_
  ·intro kz;refine B 7 ?_;refine aF results148 rfl A1 ?_;exact Qy (λh=>h.2.1 ⟨iC,.inr kz⟩)
  intro kz;refine B 14 ?_;by_cases h1:G.g.ms.map (·.dev)=eh G.g.ns
  ·refine zRc ?_;refine CJ.chn 11 [4] [_,some (.slice G.ma G.g.ms.length G.mc),_,some (.agg #[.slice G.na G.g.ns.length G.nc]),none,_,some (cY),_,_,_,_] (λcv L' H'=>match cv with| []=>L'=[w1,w]/\H'=[]| [v1]=>∃(a7:Option Addr) (c7:Nat) (w7:World),v1= .slice a7 (eh G.g.ns).length c7/\L'=[w7,w1,w]/\H'=[]/\ai (λx=>(aA x).toArray) 1 w7.heap.size w7 a7 (eh G.g.ns)|_=>False) (pc XZ (pc NI (pc X2 (pc NI (pk (pc zM (pc (λcv L' H' hd hP=>match cv,hd,hP with| [],hd,hP=>(absurd (show false=true from hd) zA)| [v1],hd,hP=>zFc|_::_::_,_,hP=>hP.elim) (pc zM (pc XZ (pc NI (pc zM (pn)))))))))))) ?_ ?_
   ·exact z1f
   intro cv L' H' hl hP;obtain⟨v1,rfl⟩:=iZ hl;obtain⟨a7,c7,w7,rfl,rfl,rfl,jJ⟩:=hP;refine zZd ?_;refine B 6 ?_;refine aF results148 rfl A2 ?_;exact nzn ⟨ar,by omega,by omega,jh⟩ (λh=>h.2.elim (λh=>by omega) (λh=>by rw[kz]at h;cases h)) h1
  exact zYf
 replace iC:=ya iC;refine B 28 ?_;by_cases h1:G.g.ms.map (·.dev)=eh G.g.ns
 ·refine zRc ?_;refine CJ.chn 11 [4] [_,some (.slice G.ma G.g.ms.length G.mc),_,some (.agg #[.slice G.na G.g.ns.length G.nc]),none,_,some (cY),_,_,_,_] (λcv L' H'=>match cv with| []=>L'=[w1,w]/\H'=[]| [v1]=>∃(a7:Option Addr) (c7:Nat) (w7:World),v1= .slice a7 (eh G.g.ns).length c7/\L'=[w7,w1,w]/\H'=[]/\ai (λx=>(aA x).toArray) 1 w7.heap.size w7 a7 (eh G.g.ns)|_=>False) (pc XZ (pc NI (pc X2 (pc NI (pk (pc zM (pc (λcv L' H' hd hP=>match cv,hd,hP with| [],hd,hP=>(absurd (show false=true from hd) zA)| [v1],hd,hP=>zFc|_::_::_,_,hP=>hP.elim) (pc zM (pc XZ (pc NI (pc zM (pn)))))))))))) ?_ ?_
  ·exact z1f
  intro cv L' H' hl hP;obtain⟨v1,rfl⟩:=iZ hl;obtain⟨a7,c7,w7,rfl,rfl,rfl,jJ⟩:=hP;refine zZd ?_;refine B 6 ?_;refine aF results148 rfl A2 ?_;exact nzn ⟨ar,by omega,by omega,jh⟩ (λh=>iC h.1) h1
 exact zYf
section
variable {C:Cx} {Q:aY} {E E0:Env} {D:List Deferred} {G:Gh} {L:List World} {H:ad}
def X3 (C:Cx) (E:Env) (D:List Deferred) (G:Gh) (L:List World) (H:ad):aY:=λe a W=>e= .normal/\a.tmps.size=C.N/\a.defers=D/\Fits E a/\St G L H W
theorem CJ.mid{c:Code}{v:Value}(h0:Sub E0 E)(h:CJ C c (X3 C ((t,v)::E0) D G L H) E D G L H)(k:PJ C Q .normal ((t,v)::E0) D G L H):CJ C c Q E D G L H:=by
 intro a W hN hD hF hS;refine wpIn_mono (h a W hN hD hF hS) ?_;rintro e a' W' ⟨rfl,h1,h2,h3,h4⟩;exact k a' W' h1 h2 h3 h4
theorem PJ.mid{E':Env}(hE:Sub E' E):PJ C (X3 C E' D G L H) .normal E D G L H:=λa W hN hD hF hS=>⟨rfl,hN,hD,hE.fits hF,hS⟩
end
def agz (x:Ch):Prop:=((x.kind=1/\(eg x.pub/\eg x.ver)/\x.cut=0)\/(x.kind=2/\x.pub=0/\x.ver=0/\(0<=x.cut/\x.cut<=1048576))\/(x.kind=3/\(eg x.pub/\eg x.ver)/\(0<=x.cut/\x.cut<=1048576)))/\ee x.dev
def NJ (kv:List (Int×Bool)) (x:Ch):List (Int×Bool):=dD kv x.dev true
def Qz (l:List Ch):List (Int×Bool):=l.foldl NJ []
variable {x:Ch} {l:List Ch}
theorem nXi(hx:l[j]? =some x):Qz (l.take (j+1))=dD (Qz (l.take j)) x.dev true:=by rw[nq hx];simp[Qz,NJ,Iu]
def QA (l:List Ch) (i:Nat) (x:Ch):Prop:=agz x/\(bU (Qz (l.take i)) x.dev).getD false=false
def yO (l:List Ch) (j:Nat):Prop:=∀i x,i<j->l[i]? =some x->QA l i x
theorem yO.next(h:yO l j)(hx:l[j]? =some x)(hk:QA l j x):yO l (j+1):=by
 exact zQh
def X4 (l:List Ch):Prop:=yO l l.length/\l.length<=64
open Classical in
noncomputable def jL (l:List Ch):Bool:=decide (X4 l)
theorem QB:jL l=true↔X4 l:=by unfold jL;simp
theorem nmc(hx:l[j]? =some x)(h:¬QA l j x):bN= .bool (jL l):=vb (by
 cases e:jL l with
 |false=>rfl
 |true=>exact absurd ((QB.1 e).1 j x (nr hx) hx) h)
theorem neh(h:yO l j)(hj:¬j<l.length):Value.bool (decide ((l.length:Int)<=64))= .bool (jL l):=vb (by
 have h1:yO l l.length:=λi x hi hx=>h i x aa hx;cases e:jL l with
 |false=>exact decide_eq_false (λh2=>absurd (QB.2 ⟨h1,by omega⟩) (by rw[e];decide))
 |true=>have:=(QB.1 e).2;exact decide_eq_true aa)
theorem nJc(l:List Ch)(hxl:l.length<=1000000)(N:Nat)(a:Option Addr)(cp:Nat)(w:World)(hN:N<=w.heap.size)(aJ:ai gC 5 N w a l):Calls prog 196 #[.slice a l.length cp] w (aL w (.bool (jL l))):=by
 refine eN func196 ntmps196 ?_;refine B 7 ?_;refine J4 Value.bool rfl rfl ?_;refine yW ?_;intro b9 xh tw;refine B 12 ?_;refine CJ.lp (α:=Mp×Nat) [0,3,10,11] (λp=>[(12,ab (p.2:Int))]) (λp=>[(b9,p.1.obj Value.bool (Qz (l.take p.2)))]) (λp=>p.2<=l.length/\p.1.Ok (Qz (l.take p.2))/\yO l p.2) (λp=>l.length-p.2) (⟨[],0⟩,0) ⟨cR _,Mp.nil,λi x hi=>absurd hi aa⟩ ?_;rintro⟨m,j⟩ ⟨hj,hm,dZ⟩;dsimp only at hj hm dZ ⊢;refine B 6 ?_;refine aG ?_ ?_
 ·intro ar;refine B 5 ?_;obtain⟨bo,oo,cs0,to,fV,rfl,fP,cJ,aV⟩:=aJ.get aa;obtain⟨x,hx⟩:=ng l j aa;obtain⟨e1,uq⟩:∃e,(if eg x.pub then(0:Int)else 40)=e:=⟨_,rfl⟩;obtain⟨e2,Iq⟩:∃e,(if eg x.ver then(0:Int)else 40)=e:=⟨_,rfl⟩;have QC:=XX x.pub;rw[uq]at QC;have QD:=XX x.ver;rw[Iq]at QD;refine X5 ?_;refine yW ?_;intro b5 sq su;refine B 4 ?_;refine CJ.mid (t:=6) (v:=.bool (decide (e1=0/\e2=0))) (E0:=[(0,_),(3,_),(5,_),(10,_),(11,_),(12,_),(13,_),(14,_),(15,_)]) zR ?_ ?_
  ·refine B 3 ?_;refine call call65 rfl rfl rfl (λW hS=>by rw[<-uq];exact nO _ W) (v:=ab e1) ?_;refine B 2 ?_;refine ni (t:=20) rfl (λaN=>?_) (λaN=>?_)
   ·replace aN:=ya aN;refine B 2 ?_;refine call call65 rfl rfl rfl (λW hS=>by rw[<-Iq];exact nO _ W) (v:=ab e2) ?_;refine B 4 ?_;exact zAh
   replace aN:=ya aN;refine B 7 ?_;exact zAh
  refine B 2 ?_;refine CJ.mid (t:=7) (v:=.bool (decide (0<=x.cut/\x.cut<=1048576))) (E0:=[(0,_),(3,_),(5,_),(6,_),(10,_),(11,_),(12,_),(13,_),(14,_),(15,_)]) zR ?_ ?_
  ·refine B 5 ?_;refine ni (t:=29) rfl (λdp=>?_) (λdp=>?_)
   ·exact zZg
   exact zZg
  refine B 13 ?_;refine CJ.mid (t:=8) (v:=.bool (decide ((x.kind=1/\(e1=0/\e2=0)/\x.cut=0)\/(x.kind=2/\x.pub=0/\x.ver=0/\(0<=x.cut/\x.cut<=1048576))\/(x.kind=3/\(e1=0/\e2=0)/\(0<=x.cut/\x.cut<=1048576))))) (E0:=[(0,_),(3,_),(5,_),(6,_),(7,_),(10,_),(11,_),(12,_),(13,_),(14,_),(15,_),(34,_),(35,_)]) zR ?_ ?_
  ·refine B 7 ?_;refine aG ?_ ?_
   ·intro jh;refine B 3 ?_;refine ni (t:=39) rfl (λiC=>?_) (λiC=>?_)
    ·replace iC:=ya iC;refine B 7 ?_;exact X6
    replace iC:=ya iC;refine B 7 ?_;exact X6
   intro jh;refine B 6 ?_;refine aG ?_ ?_
   ·intro lS;refine B 5 ?_;refine ni (t:=49) rfl (λkz=>?_) (λkz=>?_)
    ·replace kz:=ya kz;refine B 5 ?_;refine ni (t:=54) rfl (λJc=>?_) (λJc=>?_)
     ·replace Jc:=ya Jc;exact z5h
     replace Jc:=ya Jc;exact z5h
    replace kz:=ya kz;refine B 10 ?_;exact X6
   intro lS;refine B 6 ?_;refine aG ?_ ?_
   ·intro qN;refine B 3 ?_;refine ni (t:=60) rfl (λua=>?_) (λua=>?_)
    ·replace ua:=ya ua;exact z5h
    replace ua:=ya ua;exact z5h
   intro qN;refine B 2 ?_;exact X6
  refine B 7 ?_;refine ni (t:=65) rfl (λuc=>?_) (λuc=>?_)
  ·replace uc:=ya uc;refine B 26 ?_;exact z6f
  replace uc:=ya uc;refine B 2 ?_;refine call call222 rfl rfl rfl (λW hS=>UK _ W) ?_;refine B 3 ?_;refine ni (t:=71) rfl (λoK=>?_) (λoK=>?_)
  ·replace oK:=ya oK;refine B 20 ?_;exact z6f
  replace oK:=ya oK;refine B 3 ?_;refine rq (.bool ((bU (Qz (l.take j)) x.dev).getD false)) (mF (ev:=Value.bool) underlying307 underlying3 zeroValue4 hm (bB.own (i:=1) rfl) rfl rfl) (nXj _) ?_;refine B 3 ?_;refine aG ?_ ?_
  ·intro oM;refine B 12 ?_;exact z6f
  intro oM;refine B 6 ?_;refine Ny (i:=1) (ev:=Value.bool) (v:=true) rfl hm underlying307 underlying3 rfl rfl rfl rfl ?_;intro m3 cu;refine xr ?_;refine PJ.again (m3,j+1) ⟨by dsimp only;omega,by rw[nXi hx];exact cu,dZ.next hx ⟨⟨by rw[<-QC,<-QD];assumption,by assumption⟩,by assumption⟩⟩ zS zR (by rw[nXi hx];rfl) rfl zI
 intro ar;refine B 14 ?_;exact z6f
theorem qZ{C:Cx}{E:Env}{G:Gh}{H:ad}{T U:Nat}{x y:Operand}{a b:Bool}(hU:C.P.underlying T=some .bool)(hx:ev E x=some (.bool a))(hy:ev E y=some (.bool b)):RV C G L H E (.binOp .neq T x y U) (.bool (a != b)):=λd ty pos aC g ac W hF _=>by
 have h1:(Op.equalIn (9999+1) T (.bool a) (.bool b)).run C.P W= .ok (a==b) W:=by
  generalize 9999=n;simp[Op.equalIn,run_underlying hU]
 have h2:(binOp .neq T (.bool a) (.bool b)).run C.P W= .ok (.bool (a != b)) W:=by
  have e:binOp .neq T (.bool a) (.bool b)=(do pure (.bool (!(<-Op.equalIn (9999+1) T (.bool a) (.bool b))))):=rfl;rw[e,Sem.run_bind,h1];rfl
 have h3:(eqGuard .neq T x y (.bool a) (.bool b)).run C.P W= .ok () W:=by simp[eqGuard]
 simp only[execOp,hF.ev hx,hF.ev hy,Sem.run_bind,h3,h2,Result.andThen];rfl
def Ey (g:Gp) (own:Bool) (au:Int) (x:Ch):Bool:=(ij g.ms x.dev==decide (x.kind=1))||(own&&decide (x.dev=au))
def mJ (g:Gp) (au:Int) (l:List Ch):Bool:= !((ij g.ms au != decide (0<g.epoch))||(decide (g.epoch=0)&&(decide (l.length=0)|| !decide ((l[0]?.map (·.dev))=some au))))&& !(l.any (Ey g (ij g.ms au) au))
theorem nMd(G:Gv)(N:Nat)(w:World)(hN:N<=w.heap.size)(hG:bS N w G)(d:Int):Calls prog 199 #[.agg (bD G),ab d] w (aL w (.tuple #[ab (o8 G.g.ms d:Int),.bool (ij G.g.ms d)])):=by
 refine eN func199 ntmps199 ?_;refine B 2 ?_;refine yX ?_;intro b2 w2 di bV ff dB dx;refine B 9 ?_;refine call call263 rfl rfl rfl (λW hS=>n0o G.g.ms (by have:=hG.mn;omega) N G.ma G.mc W cM (hG.ms.up (ak _) hS.sm) d) ?_;refine B 7 ?_;refine nS results199 rfl rfl A1 ?_ ?_;all_goals rfl
theorem nei(G:Gv)(N:Nat)(w:World)(hN:N<=w.heap.size)(hG:bS N w G)(b1 b2 b3:Nat)(own:Bool)(au:Int)(hb1:w.heap[b1]? =some (oC (bD G) 53))(di:w.heap[b2]? =some (oC #[.bool own] 4))(cZ:w.heap[b3]? =some (oC #[ab au] 3))(x:Ch):Calls prog 259 #[.agg (gC x),ptr b1 0,ptr b2 0,ptr b3 0] w (aL w (.bool (Ey G.g own au x))):=by
 have cF:¬Gh.no.X b1:=λh=>h;have bV:¬Gh.no.X b2:=λh=>h;have cu:¬Gh.no.X b3:=λh=>h;refine eN func259 ntmps259 ?_;refine B 2 ?_;refine yX ?_;intro b4 w4 Ie Cj V5 ji jj;refine X7 ?_;refine B 2 ?_;refine call call199 rfl rfl rfl (λW hS=>nMd G N W cM (hG.up (ak _) hS.sm) x.dev) ?_;refine B 13 ?_;refine rv rfl rfl rfl (QE underlying4 rfl rfl) ?_;refine B 1 ?_;refine ni (t:=20) rfl (λar=>?_) (λar=>?_)
 ·replace ar:=ya ar;refine B 12 ?_;exact z7g
 replace ar:=ya ar;refine B 2 ?_;refine ni (t:=22) rfl (λaN=>?_) (λaN=>?_)
 ·replace aN:=ya aN;refine B 10 ?_;exact z7g
 replace aN:=ya aN;refine B 10 ?_;exact z7g
theorem nMe(G:Gv)(N:Nat)(w:World)(hN:N<=w.heap.size)(hG:bS N w G)(l:List Ch)(hxl:l.length<=1000000)(a:Option Addr)(cp:Nat)(aJ:ai gC 5 N w a l)(au:Int):Calls prog 197 #[.agg (bD G),ab au,.slice a l.length cp] w (aL w (.bool (mJ G.g au l))):=by
 refine eN func197 ntmps197 ?_;refine B 2 ?_;refine yX ?_;intro b3 w3 cZ cu fC ez eP;refine yX ?_;intro b4 w4 Ie Cj V5 ji jj;refine X7 ?_;refine B 1 ?_;refine call call199 rfl rfl rfl (λW hS=>nMd G N W cM (hG.up (ak _) hS.sm) au) ?_;refine B 4 ?_;refine yW ?_;intro b8 Ig Ii;refine B 6 ?_;by_cases h1:ij G.g.ms au≠decide (0<G.g.epoch)
 ·refine eA 19 (pb:=by exact zU 4 (k:=by exact aU (X.v (RV.re (v':=cY) (qZ underlying4 rfl rfl) (vb CD))) zT)) (k:=?_);refine B 14 ?_;exact X8
 by_cases h2:¬G.g.epoch=0
 ·refine eA 19 (pb:=by exact zU 4 (k:=by exact aU (X.v (RV.re (v':=bN) (qZ underlying4 rfl rfl) (vb CD))) zT)) (sp:=(_::_::_::_::_::_::_::_::(some bN)::_)) (k:=?_);refine B 19 ?_;refine zXc ?_;refine B 5 ?_;exact X8
 by_cases h3:l.length=0
 ·refine eA 19 (pb:=by exact zU 4 (k:=by exact aU (X.v (RV.re (v':=bN) (qZ underlying4 rfl rfl) (vb CD))) zT)) (sp:=[_,_,_,_,_,_,_,_,some cY,_,_,_,some cY,_,_,_,_,_,_]) (k:=?_);refine B 14 ?_;exact X8
 obtain⟨bo,oo,cs0,to,fV,rfl,fP,cJ,aV⟩:=aJ.get aa;obtain⟨x,hx⟩:=ng l 0 aa;refine eA 19 (pb:=by exact zU 4 (k:=by exact aU (X.v (RV.re (v':=bN) (qZ underlying4 rfl rfl) (vb CD))) (zU 12 (k:=by exact aU (X.v (av (v:=ab x.dev) isAgg3 rfl A2 cJ zJ zz (by have:=xv aV hx (i:=0) rfl 1 zA;simpa[gC]using this))) zT)))) (sp:=[_,_,_,_,_,_,_,_,some cY,_,_,_,some bN,_,_,_,_,_,_]) (k:=?_);refine B 6 ?_;refine aG ?_ ?_
 ·intro ar;refine B 7 ?_;exact X8
 intro ar;refine B 12 ?_;refine zXc ?_;refine B 5 ?_;exact X8
noncomputable def o9 (ns:List Nd) (d:Int):List Nd:=if jQ ns=0/\(bU (dP ns) (512+d)).isSome=true then p7 (oZ (dP ns) d)else[]
noncomputable def uB (ns:List Nd) (d:Int):Int:=if jQ ns=0 then(if(bU (dP ns) (512+d)).isSome=true then 0 else 200)else 210
open Classical in
noncomputable def mK (ns:List Nd) (d p:Int):List Nd:=if jQ ns=0/\eg p then p7 (dD (oZ (dP ns) d) (512+d) p)else[]
open Classical in
noncomputable def uC (ns:List Nd) (d p:Int):Int:=if jQ ns=0 then(if eg p then 0 else 50)else 210
theorem Ez(ns:List Nd)(d:Int):(o9 ns d).length<=ns.length:=by grind [o9,nWg,XN,UF]
theorem EA(ns:List Nd)(d p:Int):(mK ns d p).length<=ns.length+1:=by grind [mK,nWg,Xu,XN,UF]
theorem nzf(ns:List Nd)(hn:ns.length<=100000)(N:Nat)(a:Option Addr)(cp:Nat)(w:World)(hN:N<=w.heap.size)(aJ:ai gb 2 N w a ns)(d:Int)(hd:ee d):Calls prog 35 #[.agg #[.slice a ns.length cp],ab d] w (aD w gS 2 240 (o9 ns d) (λs=>.tuple #[.agg #[s],ab (uB ns d)])):=by
 rcases nch ns with h|h
 ·by_cases h2:(bU (dP ns) (512+d)).isSome=true
  ·have e1:o9 ns d=p7 (oZ (dP ns) d):=by unfold o9;rw[if_pos ⟨h,h2⟩]
   have e2:uB ns d=0:=by unfold uB;rw[if_pos h,if_pos h2]
   rw[e1,e2];exact nEp ns hn N a cp w hN aJ h d hd h2
  have e1:o9 ns d=[]:=by unfold o9;rw[if_neg λg=>h2 g.2]
  have e2:uB ns d=200:=by unfold uB;rw[if_pos h,if_neg h2]
  rw[e1,e2];exact nXo ns hn N a cp w hN aJ h d hd Kq
 have e1:o9 ns d=[]:=by unfold o9;rw[if_neg λg=>by have:=g.1;omega]
 have e2:uB ns d=210:=by unfold uB;rw[if_neg aa]
 rw[e1,e2];exact nto ns hn N a cp w hN aJ h d
theorem nEh(ns:List Nd)(hn:ns.length<=100000)(N:Nat)(a:Option Addr)(cp:Nat)(w:World)(hN:N<=w.heap.size)(aJ:ai gb 2 N w a ns)(d p:Int)(hd:ee d)(yA:ns.length<100000):Calls prog 34 #[.agg #[.slice a ns.length cp],ab d,ab p] w (aD w gS 2 240 (mK ns d p) (λs=>.tuple #[.agg #[s],ab (uC ns d p)])):=by
 rcases nch ns with h|h
 ·by_cases h2:eg p
  ·have e1:mK ns d p=p7 (dD (oZ (dP ns) d) (512+d) p):=by unfold mK;rw[if_pos ⟨h,h2⟩]
   have e2:uC ns d p=0:=by unfold uC;rw[if_pos h,if_pos h2]
   rw[e1,e2];exact Qi ns hn N a cp w hN aJ h d p hd yA (if_pos h2)
  have e1:mK ns d p=[]:=by unfold mK;rw[if_neg λg=>h2 g.2]
  have e2:uC ns d p=50:=by unfold uC;rw[if_pos h,if_neg h2]
  rw[e1,e2];exact Kg ns hn N a cp w hN aJ h d p hd (if_neg h2)
 have e1:mK ns d p=[]:=by unfold mK;rw[if_neg λg=>by have:=g.1;omega]
 have e2:uC ns d p=210:=by unfold uC;rw[if_neg aa]
 rw[e1,e2];exact Kf ns hn N a cp w hN aJ h d p
noncomputable def yP (ns:List Nd) (x:Ch):List Nd:=if x.kind=2 then o9 ns x.dev else mK ns x.dev x.pub
noncomputable def aW (ns:List Nd) (l:List Ch):List Nd:=l.foldl yP ns
theorem nxk(hx:l[j]? =some x):aW ns (l.take (j+1))=yP (aW ns (l.take j)) x:=by rw[nq hx];simp[aW,Iu]
theorem n4f(hx:l[j]? =some x)(h:x.kind=2):aW ns (l.take (j+1))=o9 (aW ns (l.take j)) x.dev:=by rw[nxk hx];unfold yP;rw[if_pos h]
theorem nUf(hx:l[j]? =some x)(h:¬x.kind=2):aW ns (l.take (j+1))=mK (aW ns (l.take j)) x.dev x.pub:=by rw[nxk hx];unfold yP;rw[if_neg h]
theorem QF(l:List Ch):∀ns:List Nd,(aW ns l).length<=ns.length+l.length:=by induction l<;>grind [aW,yP,Ez,EA]
theorem nhk(ns:List Nd)(l:List Ch)(j:Nat)(hj:j<=l.length):(aW ns (l.take j)).length<=ns.length+l.length:=by grind [QF]
theorem nfl(ns:List Nd)(l:List Ch)(j:Nat)(h:¬j<l.length):aW ns (l.take j)=aW ns l:=by rw[jZ aa]
theorem ai.to{α:Type}{enc:α->Array Value}{W:World}{xs:List α}{H:ad}(h:ai enc n N w a xs)(hS:St Gh.no L H W)(hw:w∈L)(hN:N<=w.heap.size)(ho:∀b off,a=some ⟨b,off,none⟩->xs=[]\/bA H b):ai enc n W.heap.size W a xs:=by
 by_cases h0:xs=[]
 ·exact .inl h0
 exact h.blk λb off e hb=>⟨by have:=(hS.links w hw).size;omega,(hS.links w hw).block b aa (λhx=>hx.elim id ((ho b off e).resolve_left h0).mem)⟩
abbrev X9 {α:Type} (N:Nat) (w:World) (enc:α->Array Value) (n:Nat) (xs:List α) (v:Value->Value):Ending->World->Prop:=cK w (λq:Option Addr×Nat=>v (.slice q.1 xs.length q.2)) (λq w'=>ai enc n w'.heap.size w' q.1 xs/\∀b off,q.1=some ⟨b,off,none⟩->xs=[]\/b<N\/w.heap.size<=b)
theorem ai.lt{α:Type}{enc:α->Array Value}{xs:List α}(h:ai enc n N w a xs){b off:Nat}(e:a=some ⟨b,off,none⟩):xs=[]\/b<N:=by
 rcases h with h|⟨b',off',cs,t,fr,h1,h2,_⟩;all_goals grind
theorem nwc(G:Gv)(N:Nat)(w:World)(hN:N<=w.heap.size)(hG:bS N w G)(l:List Ch)(hxl:l.length<=1000000)(a:Option Addr)(cp:Nat)(aJ:ai gC 5 N w a l)(Aq:l.length<=64)(qB:∀x∈l,ee x.dev):Calls prog 140 #[.agg (bD G),.slice a l.length cp] w (X9 N w gb 2 (aW G.g.ns l) (λs=>.agg #[s])):=by
 have Uv:=hG.nn;refine eN func140 ntmps140 ?_;refine B 2 ?_;refine yX ?_;intro b2 w2 di bV ff dB dx;refine B 1 ?_;refine yW ?_;intro b4 ji jj;refine B 5 ?_;refine ay (.agg #[.slice G.na G.g.ns.length G.nc]) ?_;refine B 1 ?_;refine yW ?_;intro b5 sq su;refine B 12 ?_;refine CJ.loop (α:=(Option Addr×Nat)×World×Nat) (λp=>[(4,ptr b4 0),(5,ptr b5 0),(10,.slice a l.length cp),(11,ab (l.length:Int)),(12,ab (p.2.2:Int))]) (λp=>[(b5,oC #[.slice p.1.1 (aW G.g.ns (l.take p.2.2)).length p.1.2] 51),(b4,oC #[aj] 51)]) (λp=>[p.2.1,w]) (λp=>Gh.no) (λp=>p.2.2<=l.length/\w.heap.size<=p.2.1.heap.size/\ai gb 2 p.2.1.heap.size p.2.1 p.1.1 (aW G.g.ns (l.take p.2.2))/\∀b off,p.1.1=some ⟨b,off,none⟩->aW G.g.ns (l.take p.2.2)=[]\/(b≠b5/\b≠b4/\(b<N\/w.heap.size<=b))) (λp=>l.length-p.2.2) ((G.na,G.nc),w,0) ⟨cR _,ak _,hG.ns.up hN R2,λb off e=>by rcases hG.ns.lt e with h|h;(exact .inl h);exact .inr aa⟩ zR rfl rfl zI ?_;rintro⟨⟨ta,tc⟩,wk,j⟩ ⟨hj,sJ,ef,dZ⟩;dsimp only at hj sJ ef dZ ⊢;refine B 6 ?_;refine aG ?_ ?_
 ·intro ar;refine B 5 ?_;obtain⟨bo,oo,cs0,to,fV,rfl,fP,cJ,aV⟩:=aJ.get aa;obtain⟨x,hx⟩:=ng l j aa;have hd:=qB x (cO hx);have NK:=nhk G.g.ns l j aa;refine X5 ?_;refine yW ?_;intro b7 jN vN;refine B 10 ?_;refine aG ?_ ?_
  ·intro aN;refine B 4 ?_;refine OJ.dropAt (i:=0) rfl zC ?_;refine nG (enc:=gS) (m:=2) (t:=240) (xs:=o9 (aW G.g.ns (l.take j)) x.dev) (v:=λs=>.tuple #[.agg #[s],ab (uB (aW G.g.ns (l.take j)) x.dev)]) (first:=[]) (cap:=[]) rfl call35 rfl rfl rfl P0 (λW hS=>nzf (aW G.g.ns (l.take j)) aa W.heap.size ta tc W (ak _) (ef.to hS A0 (ak _) (λb off e=>by rcases dZ b off e with h9|h9;(exact .inl h9);rcases ef.lt e with h8|h8;(exact .inl h8);refine .inr ?_;simp only[bA,dm,dX,sy,and_true];omega)) x.dev hd) ?_;intro W9 a9 EB Iz cj xw jr jR;have QG:=cj.under;simp only[Ia,dm,dX,sy,and_true]at QG;have Ya:=xw.size;have V7:=(cj.links w A1).size;refine B 11 ?_;refine PJ.again ((a9,EB),Iz,j+1) ⟨by dsimp only;omega,by dsimp only;omega,by dsimp only;rw[n4f hx eE];exact jr,λb off e=>by have:=jR _ e;dsimp only at this;exact .inr aa⟩ zS zR (by rw[n4f hx eE];rfl) rfl zI
  intro aN;refine B 6 ?_;refine OJ.dropAt (i:=0) rfl zC ?_;refine nG (enc:=gS) (m:=2) (t:=240) (xs:=mK (aW G.g.ns (l.take j)) x.dev x.pub) (v:=λs=>.tuple #[.agg #[s],ab (uC (aW G.g.ns (l.take j)) x.dev x.pub)]) (first:=[]) (cap:=[]) rfl call34 rfl rfl rfl P0 (λW hS=>nEh (aW G.g.ns (l.take j)) aa W.heap.size ta tc W (ak _) (ef.to hS A0 (ak _) (λb off e=>by rcases dZ b off e with h9|h9;(exact .inl h9);rcases ef.lt e with h8|h8;(exact .inl h8);refine .inr ?_;simp only[bA,dm,dX,sy,and_true];omega)) x.dev x.pub hd aa) ?_;intro W9 a9 EB Iz cj xw jr jR;have QG:=cj.under;simp only[Ia,dm,dX,sy,and_true]at QG;have Ya:=xw.size;have V7:=(cj.links w A1).size;refine B 11 ?_;refine PJ.again ((a9,EB),Iz,j+1) ⟨by dsimp only;omega,by dsimp only;omega,by dsimp only;rw[nUf hx eE];exact jr,λb off e=>by have:=jR _ e;dsimp only at this;exact .inr aa⟩ zS zR (by rw[nUf hx eE];rfl) rfl zI
 intro ar;refine B 6 ?_;rw[nfl _ _ _ aa]at ef dZ ⊢;refine B 6 ?_;exact bK (.inl rfl) results140 aX λW hS=>⟨(ta,tc),rfl,hS.base A1 zD,ef.to hS A0 (ak _) (λb off e=>by rcases dZ b off e with h9|h9;(exact .inl h9);exact .inr zz),λb off e=>(dZ b off e).imp id (λh=>h.2.2)⟩
noncomputable def qf (ns:List Nd) (au:Int) (i:Nat):List (Int×Int):=(List.range i).flatMap λ(t:Nat)=>(oD ns (((jI au)[t]?).getD 0)).map λn=>((t:Int)+1,n)
noncomputable def kM (ns:List Nd) (au:Int):List (Int×Int):=qf ns au 9
theorem nqm(ns:List Nd)(au:Int){s:Int}(hs:(jI au)[i]? =some s):qf ns au (i+1)=qf ns au i++(oD ns s).map λn=>((i:Int)+1,n):=by simp[qf,List.range_succ,hs]
theorem nXl(ns:List Nd)(au:Int)(i:Nat):∀k,qf ns au i <+:qf ns au (i+k)
 |0=>List.prefix_refl _
 |k+1=>(nXl ns au i k).trans (by
  have:qf ns au (i+(k+1))=qf ns au (i+k)++(oD ns (((jI au)[i+k]?).getD 0)).map λn=>(((i+k:Nat):Int)+1,n):=by rw[<-Nat.add_assoc];simp[qf,List.range_succ]
  rw[this];exact List.prefix_append _ _)
theorem Kr{au:Int}{s:Int}(hs:(jI au)[i]? =some s)(hi:i<9){p:List (Int×Int)}(h:p <+:(oD ns s).map λn=>((i:Int)+1,n)):qf ns au i++p <+:kM ns au:=by
 have h1:qf ns au i++p <+:qf ns au (i+1):=by rw[nqm ns au hs];exact(List.prefix_append_right_inj _).2 h
 refine h1.trans ?_;have h2:=nXl ns au (i+1) (8-i);rw[show i+1+(8-i)=9 by omega]at h2;exact h2
theorem nRn(ns:List Nd)(au:Int):∀i,(qf ns au i).length<=1024*i
 |0=>by simp[qf]
 |i+1=>by
  have h1:=nRn ns au i;have h2:=nJk ns (((jI au)[i]?).getD 0);have:qf ns au (i+1)=qf ns au i++(oD ns (((jI au)[i]?).getD 0)).map λn=>((i:Int)+1,n):=by simp[qf,List.range_succ]
  rw[this,cy,eQ];omega
theorem EC(ns:List Nd)(au:Int):(kM ns au).length<=9216:=nRn ns au 9
noncomputable def IA (ns:List Nd) (i:Nat) (s:Int) (j:Nat):List (Int×Int):=((oD ns s).take j).map λn=>((i:Int)+1,n)
theorem ED(ns:List Nd)(i:Nat)(s:Int):IA ns i s 0=[]:=rfl
theorem nDl{s:Int}{n:Int}(h:(oD ns s)[j]? =some n):IA ns i s (j+1)=IA ns i s j++[((i:Int)+1,n)]:=by unfold IA;rw[nq h];simp
theorem Ks(ns:List Nd)(i:Nat)(s:Int)(h:¬j<(oD ns s).length):IA ns i s j=(oD ns s).map λn=>((i:Int)+1,n):=by unfold IA;rw[jZ aa]
theorem Kt(ns:List Nd)(i:Nat)(s:Int)(j:Nat):IA ns i s j <+:(oD ns s).map λn=>((i:Int)+1,n):=(List.take_prefix _ _).map _
def Yb (p:Int×Int):List Value:=[ab p.1,ab p.2]
def Yc (b1 b2:Nat) (ns:List Nd) (ta:Option Addr):aE:=λk=>k=b1\/k=b2\/(ns≠ []/\∃off,ta=some ⟨k,off,none⟩)
theorem ai.toG{α:Type}{enc:α->Array Value}{W:World}{xs:List α}{G:Gh}{H:ad}(h:ai enc n N w a xs)(hS:St G L H W)(hw:w∈L)(hN:N<=w.heap.size)(ho:∀b off,a=some ⟨b,off,none⟩->xs=[]\/(b<N->¬G.X b/\bA H b)):ai enc n W.heap.size W a xs:=by
 by_cases h0:xs=[]
 ·exact .inl h0
 exact h.blk λb off e hb=>⟨by have:=(hS.links w hw).size;omega,(hS.links w hw).block b aa (λhx=>hx.elim ((ho b off e).resolve_left h0 hb).1 ((ho b off e).resolve_left h0 hb).2.mem)⟩
theorem nYm(ns:List Nd)(hn:ns.length<=100000)(au:Int)(sE:ee au)(b1 b2:Nat)(NT:Nat)(ta:Option Addr)(tc:Nat)(W:World)(hNW:NT<=W.heap.size)(ef:ai gb 2 NT W ta ns)(hb1:W.heap[b1]? =some (oC #[ab au] 3))(di:W.heap[b2]? =some (oC #[.slice ta ns.length tc] 51)):ue prog 260 [ptr b1 0,ptr b2 0] Yb (Ci (kM ns au)) (Is (kM ns au)) (λ_=>False) (Yc b1 b2 ns ta) W:=by
 intro l M I X0 hM hI hX hy h0;have cF:¬(dt hM (λ_=>False) (hI [] _)).X b1:=by rintro(h|h);exact(hM _ h).2.2 (.inl rfl);exact h.elim
 have bV:¬(dt hM (λ_=>False) (hI [] _)).X b2:=by rintro(h|h);exact(hM _ h).2.2 (.inr (.inl rfl));exact h.elim
 have mr:=(aT.1 hb1).1;have Ix:=(aT.1 di).1;have lP:=nAp sE;refine nB (dt hM (λ_=>False) (hI [] _)) [] (vs:=[_,_,_]) func260 rfl ntmps260 rfl (Na hM (hI [] _) h0 zI (by simp[lq]) zI) ?_;refine B 3 ?_;refine nG (enc:=aA) (m:=1) (t:=3) (xs:=jI au) (v:=λs=>.tuple #[s,ab 0]) (first:=[]) (cap:=[]) rfl call261 rfl rfl rfl nz (λW hS=>nPl au sE W) ?_;intro Wq aq cpq wq BL QH mH NL;have Yd:=BL.sizes;replace Yd:=yb Yd;have hzq:=QH.size;have Ye:=BL.under;replace Ye:=yg Ye;refine B 15 ?_;refine CJ.loop (α:=Nat×aE) (λp=>[(0,yv l),(1,ptr b1 0),(2,ptr b2 0),(17,.slice aq (jI au).length cpq),(18,ab ((jI au).length:Int)),(19,ab (p.1:Int))]) (λp=>[]) (λp=>[wq,W]) (λp=>dt hM p.2 (hI (qf ns au p.1) p.2)) (λp=>p.1<=9/\∀k,p.2 k->wq.heap.size<=k) (λp=>9-p.1) (0,λ_=>False) ⟨cR _,λ_ h=>h.elim⟩ zR rfl rfl zI ?_;rintro⟨i,V⟩ ⟨hi,hV⟩;dsimp only at hi hV ⊢;have am8:W.heap.size<=wq.heap.size:=by omega
 clear cF bV;have cF:¬(dt hM V (hI (qf ns au i) V)).X b1:=by rintro(h|h);(exact(hM _ h).2.2 (.inl rfl));(have:=hV _ h;omega)
 have bV:¬(dt hM V (hI (qf ns au i) V)).X b2:=by rintro(h|h);(exact(hM _ h).2.2 (.inr (.inl rfl)));(have:=hV _ h;omega)
 refine B 6 ?_;refine aG ?_ ?_
 ·intro ar;refine B 5 ?_;obtain⟨bq,oq,Qe,tq,Qf,rfl,oY,yJ,qb⟩:=mH.get aa;obtain⟨sb,Un⟩:=ng (jI au) i aa;have agF:=NL _ rfl;dsimp only at agF;refine B 3 ?_;refine rv rfl rfl rfl (av (v:=ab sb) isAgg3 rfl A0 yJ (λhx=>by rcases hx with hx|hx;(have:=(hM _ hx).1;omega);(have:=hV _ hx;omega)) trivial (by have:=nK (enc:=λx=>(aA x).toArray) (n:=1) qb Un rfl zA;simpa[aA]using this)) ?_;refine B 6 ?_;refine ay (.agg #[.slice ta ns.length tc]) ?_;refine B 1 ?_;refine nG (enc:=aA) (m:=1) (t:=3) (xs:=oD ns sb) (v:=λs=>.tuple #[s,ab (NG ns sb)]) (first:=[]) (cap:=[]) rfl call262 rfl rfl rfl nz (λW2 hS=>nBg ns hn W2.heap.size ta tc W2 (ak _) (ef.toG hS A1 hNW (λb off e=>by by_cases h0:ns=[];(exact .inl h0);exact .inr (λhb=>⟨λhx=>by rcases hx with hx|hx;(exact(hM _ hx).2.2 (.inr (.inr ⟨h0,off,e⟩)));(have:=hV _ hx;omega),trivial⟩))) sb) ?_;intro Wr a8 ND wr NM hBr ux BC;have NK:=nJk ns sb;have q9:=hBr.size;have am9:=(NM.links wq A0).size;have hVr:∀j,V j->j<Wr.heap.size:=λj hj=>NM.xlt j (.inr hj);refine B 15 ?_;refine CJ.loop (α:=Nat×aE) (λp=>[(0,yv l),(1,ptr b1 0),(2,ptr b2 0),(6,ab (i:Int)),(17,.slice (some ⟨bq,oq,none⟩) (jI au).length cpq),(18,ab ((jI au).length:Int)),(19,ab (i:Int)),(30,.slice a8 (oD ns sb).length ND),(31,ab ((oD ns sb).length:Int)),(32,ab (p.1:Int))]) (λp=>[]) (λp=>[wr,wq,W]) (λp=>dt hM p.2 (hI (qf ns au i++IA ns i sb p.1) p.2)) (λp=>p.1<=(oD ns sb).length/\∀k,p.2 k->V k\/wr.heap.size<=k) (λp=>(oD ns sb).length-p.1) (0,V) ⟨cR _,λ_ h=>.inl h⟩ zR rfl (by rw[ED,eb]) zI ?_
  rintro⟨j,V1⟩ ⟨hj,uf⟩;dsimp only at hj uf ⊢;have Yf:∀k,V1 k->W.heap.size<=k:=λk hk=>by rcases uf k hk with h|h;(have:=hV k h;omega);omega
  refine B 6 ?_;refine aG ?_ ?_
  ·intro aN;refine B 5 ?_;obtain⟨bn,on,csn,tn,Nq,rfl,mC,agG,agH⟩:=ux.get aa;obtain⟨n,yA⟩:=ng (oD ns sb) j aa;have agI:=BC _ rfl;dsimp only at agI;refine B 2 ?_;refine rv rfl rfl rfl (av (v:=ab n) isAgg3 rfl A0 agG (λhx=>by rcases hx with hx|hx;(have:=(hM _ hx).1;omega);(rcases uf _ hx with h|h;(have:=hVr _ h;omega);omega)) trivial (by have:=nK (enc:=λx=>(aA x).toArray) (n:=1) agH yA rfl zA;simpa[aA]using this)) ?_;refine B 9 ?_;refine XU (λ_=>False) id Yg (V:=V1) (λV=>hI ((qf ns au i++IA ns i sb j)++[((i:Int)+1,n)]) V) hX Yf rfl rfl rfl rfl (λW1 hw1 kX=>hy (qf ns au i++IA ns i sb j) ((i:Int)+1,n) V1 W1 (by rw[iY,<-nDl yA];exact Kr Un aa (Kt ns i sb (j+1))) hw1 kX) ?_ ?_
   ·intro V2 lh vY;have QJ:=vY wr A0;refine B 11 ?_;refine PJ.again (j+1,V2) ⟨by dsimp only;omega,λk hk=>by rcases QJ k hk with h|h;(exact uf k h);exact .inr h⟩ zS zR rfl (by rw[nDl yA,<-iY];rfl) zI
   intro V2 lh vY;have QJ:=vY wr A0;refine B 13 ?_;exact Bm (.inl rfl) results260 A2 (λk hk=>by rcases QJ k hk with h|h;(exact Yf k h);omega) (by intro k hk hx;simp at hx) (λA hA=>.inr hA)
  intro aN;refine B 10 ?_;refine PJ.again (i+1,V1) ⟨by dsimp only;omega,λk hk=>by rcases uf k hk with h|h;(exact hV k h);omega⟩ zS zR rfl (by rw[nqm ns au Un,Ks ns i sb aa]) zI
 intro ar;refine B 4 ?_;exact Bm (.inr rfl) results260 A1 (λk hk=>by have:=hV k hk;omega) (by intro k hk hx;simp at hx) (λA hA=>.inl ⟨qf ns au i,by unfold kM;rw[show i=9 by omega],hA⟩)
def sK (p:Int×Int):List Value:=[ab p.2,ab p.1,ab 0,aj]
def QK (p:Int×Int):Array Value:=#[ab p.2,ab p.1,ab 0,aj]
theorem US(p:Int×Int):(sK p).length=4:=rfl
theorem Ku(p:Int×Int):∀u∈sK p,u.oneCell'=true:=by intro u hu;simp[sK]at hu;rcases hu with rfl|rfl|rfl|rfl<;>rfl
theorem Kx:prog.info? 110=some Tryz.t110:=by kernel_rfl
theorem Yh:jH prog 56 110 4:=⟨underlying56,Tryz.t110,.agg #[ab 0,ab 0,ab 0,aj],Kx,rfl,rfl,rfl,by decide⟩
noncomputable def Ax (g:Gp) (au:Int) (l:List Ch):Bool:=jL l&&mJ g au l
noncomputable def gw (g:Gp) (au:Int) (l:List Ch):List (Int×Int):=if dU g=true/\Ax g au l=true then kM (aW g.ns l) au else[]
noncomputable def fe (g:Gp) (au:Int) (l:List Ch):Int:=if dU g=true then(if Ax g au l=true then 0 else 221)else 1
theorem nYi(h:jL l=true):(∀x∈l,ee x.dev)/\l.length<=64:=⟨λx hx=>by obtain⟨i,hi⟩:=kA.1 hx;exact((QB.1 h).1 i x (nr hi) hi).1.2,(QB.1 h).2⟩
theorem nej(ta:Option Addr)(n tc:Nat)(au:Int)(w:World):Calls prog 198 #[.agg #[.slice ta n tc],ab au] w (cK w (λq:Nat×Nat=>.func (.func 260) #[] #[ptr q.1 0,ptr q.2 0]) (λq w1=>w.heap.size<=q.1/\w.heap.size<=q.2/\w1.heap[q.1]? =some (oC #[ab au] 3)/\w1.heap[q.2]? =some (oC #[.slice ta n tc] 51))):=by
 refine eN func198 ntmps198 ?_;refine B 2 ?_;refine yX ?_;intro b2 w2 di bV ff dB dx;refine yX ?_;intro b3 w3 cZ cu fC ez eP;refine B 10 ?_;refine rY (b3,b2) results198 rfl A2 rfl ?_;exact λW hS=>⟨by have:=ez.2.1;omega,by have:=dB.1;omega,hS.old A0 cZ cu trivial,hS.old A1 di bV trivial⟩
theorem nSi(G:Gv)(N:Nat)(w:World)(hN:N<=w.heap.size)(hG:bS N w G)(l:List Ch)(hxl:l.length<=1000000)(a:Option Addr)(cp:Nat)(aJ:ai gC 5 N w a l)(au:Int)(hv:dU G.g=false):Calls prog 134 #[.agg (bD G),ab au,.slice a l.length cp] w (aD w sK 4 110 [] (λs=>.tuple #[s,ab 1])):=by
 refine eN func134 ntmps134 ?_;refine B 2 ?_;refine yX ?_;intro b3 w3 cZ cu fC ez eP;refine B 1 ?_;refine yW ?_;intro b6 jO qy;refine B 6 ?_;refine ay (.agg (bD G)) ?_;refine zie ?_;refine B 11 ?_;exact zug
theorem ncn(G:Gv)(N:Nat)(w:World)(hN:N<=w.heap.size)(hG:bS N w G)(l:List Ch)(hxl:l.length<=1000000)(a:Option Addr)(cp:Nat)(aJ:ai gC 5 N w a l)(au:Int)(hv:dU G.g=true)(hf:jL l=false):Calls prog 134 #[.agg (bD G),ab au,.slice a l.length cp] w (aD w sK 4 110 [] (λs=>.tuple #[s,ab 221])):=by
 refine eN func134 ntmps134 ?_;refine B 2 ?_;refine yX ?_;intro b3 w3 cZ cu fC ez eP;refine B 1 ?_;refine yW ?_;intro b6 jO qy;refine Yi ?_;refine B 9 ?_;refine z1d ?_;refine rq cY (gq rfl) (by rw[hf];rfl) ?_;refine B 18 ?_;exact zug
theorem nIh(G:Gv)(N:Nat)(w:World)(hN:N<=w.heap.size)(hG:bS N w G)(l:List Ch)(hxl:l.length<=1000000)(a:Option Addr)(cp:Nat)(aJ:ai gC 5 N w a l)(au:Int)(hv:dU G.g=true)(hf:jL l=true)(hp:mJ G.g au l=false):Calls prog 134 #[.agg (bD G),ab au,.slice a l.length cp] w (aD w sK 4 110 [] (λs=>.tuple #[s,ab 221])):=by
 refine eN func134 ntmps134 ?_;refine B 2 ?_;refine yX ?_;intro b3 w3 cZ cu fC ez eP;refine B 1 ?_;refine yW ?_;intro b6 jO qy;refine zcf ?_;refine B 1 ?_;refine ay (.agg (bD G)) ?_;refine B 2 ?_;refine zCe ?_;refine rq cY (gq rfl) (by rw[hp];rfl) ?_;refine B 12 ?_;exact zug
theorem nyp(G:Gv)(N:Nat)(w:World)(hN:N<=w.heap.size)(hG:bS N w G)(l:List Ch)(hxl:l.length<=1000000)(a:Option Addr)(cp:Nat)(aJ:ai gC 5 N w a l)(au:Int)(sE:ee au)(hv:dU G.g=true)(hf:jL l=true)(hp:mJ G.g au l=true):Calls prog 134 #[.agg (bD G),ab au,.slice a l.length cp] w (aD w sK 4 110 (kM (aW G.g.ns l) au) (λs=>.tuple #[s,ab 0])):=by
 obtain⟨qB,Aq⟩:=nYi hf;have Uv:=hG.nn;have NK:=QF l G.g.ns;obtain⟨T,hT⟩:∃T,aW G.g.ns l=T:=⟨_,rfl⟩;rw[hT]at NK ⊢;have vZ:=EC T au;refine Pe Gh.no [] (vs:=[_,_,_]) func134 rfl ntmps134 rfl (Je w) ?_;refine B 2 ?_;refine yX ?_;intro b3 w3 cZ cu fC ez eP;refine B 1 ?_;refine yW ?_;intro b6 jO qy;refine zcf ?_;refine B 1 ?_;refine ay (.agg (bD G)) ?_;refine B 2 ?_;refine zCe ?_;refine rq bN (gq rfl) (by rw[hp];rfl) ?_;refine B 9 ?_;refine ay (.agg (bD G)) ?_;refine B 1 ?_;refine nv (α:=Option Addr×Nat) (v:=λq=>.agg #[.slice q.1 T.length q.2]) (Φ:=λW q w1=>ai gb 2 w1.heap.size w1 q.1 T/\∀b off,q.1=some ⟨b,off,none⟩->T=[]\/b<N\/W.heap.size<=b) call140 rfl rfl rfl (λW hS=>by rw[<-hT];exact nwc G N W cM (hG.up (ak _) hS.sm) l hxl a cp (aJ.up (ak _) hS.sm) Aq qB) ?_;rintro Wr ⟨ta,tc⟩ wr NM hBr ⟨se,gY⟩;dsimp only at se gY ⊢;have hUr:=NM.under;replace hUr:=yg hUr;have q9:=hBr.size;have ana:=(NM.links w A1).size;refine B 1 ?_;refine nv (α:=Nat×Nat) (v:=λq:Nat×Nat=>.func (.func 260) #[] #[ptr q.1 0,ptr q.2 0]) (Φ:=λW q w1=>W.heap.size<=q.1/\W.heap.size<=q.2/\w1.heap[q.1]? =some (oC #[ab au] 3)/\w1.heap[q.2]? =some (oC #[.slice ta T.length tc] 51)) call198 rfl rfl rfl (λW hS=>nej ta _ tc au W) ?_;rintro Wn q wn sL Ay ⟨xu,vr,Et,Eu⟩
 try dsimp only at xu vr Et Eu
 have Qp:=(aT.1 Et).1;have Qq:=(aT.1 Eu).1;have UT:=Ay.size;have anb:=(sL.links wr A0).size;have tI:=sL.under;replace tI:=yg tI;have hOt:∀b off,ta=some ⟨b,off,none⟩->T=[]\/b≠b6:=λb off e=>by rcases gY b off e with h|h|h;(exact .inl h);(exact .inr aa);(exact .inr aa)
 refine B 3 ?_;refine VY (f:=260) (cap:=[ptr q.1 0,ptr q.2 0]) (α:=Int×Int) (enc:=Yb) (Pre:=Ci (kM T au)) (Fin:=Is (kM T au)) (RO:=Yc q.1 q.2 T ta) (MI:=λ_=>False) rfl call260 (λW' W2 hS hB=>by have mr:=(hS.links wn A0).size;have Ix:=(hS.links wr A1).size;exact nYm T aa au sE q.1 q.2 W'.heap.size ta tc W2 hB.size ((se.toG hS A1 (ak _) (λb off e=>(hOt b off e).imp id (λh _=>⟨λhx=>hx,by simp only[bA,and_true];omega⟩))).up (ak _) (λk hk=>hB.block k hk)) (by rw[hB.block q.1 aa];exact hS.old A0 Et zJ zz) (by rw[hB.block q.2 aa];exact hS.old A0 Eu zJ zz)) (λ_ _ _ hk=>hk.elim) (λW' hS k hk=>by have mr:=(hS.links wn A0).size;have Ix:=(hS.links wr A1).size;simp only[dy,eV,bX,dE,or_false];rcases hk with rfl|rfl|⟨h0,off,e⟩;(exact⟨by omega,by omega,λh=>h⟩);(exact⟨by omega,by omega,λh=>h⟩);exact⟨by have:=(se.lt e).resolve_left h0;omega,(hOt _ off e).resolve_left h0,λh=>h⟩) (λ_=>rfl) (λpre G' Hc=>G'=Gh.no/\∃r:Rw,r.Fr Gh.no [wn,wr,w3,w]/\r.Fit 4 pre/\Hc=[(b6,oC #[r.val pre.length] 56)]++(r.hp sK 110 pre++[])) (λ_ _ _=>False) ⟨rfl,.nil,True.intro,rfl,rfl⟩ zA ?_ ?_ ?_
 ·rintro pre x G' Hc l Dk rec W1 M V Wy ow vk dS ⟨rfl,r,aK,ah,rfl⟩ iQ lK Pg xZ dz C6;simp only[ae]at iQ xZ;have bG:r.ge wn.heap.size:=Rw.ge_of aK A0;have iH:=dS.length_le;simp only[cy,dF,fh]at iH;have DW:∀p∈r.hp sK 110 pre,M p.1\/V p.1:=λp hp=>dz.loc.h p UB;refine B 8 ?_;refine Nc ow ?_;refine B 5 ?_;refine ay (.agg #[ab x.2,ab x.1,ab 0,aj]) ?_;refine kh underlying56 sizeOf110 zeroValue110 rfl rfl rfl rfl rfl rfl rfl ?_;refine yW ?_;intro fg jt agL;refine kg (r:=r) (xs:=pre) (zs:=[x]) (enc:=sK) (m:=4) (H0:=[(fg,oC #[ab x.2,ab x.1,ab 0,aj] 110),(b6,oC #[r.val pre.length] 56)]) (H1:=(l,.loop {rec with state:=.busy})::fG Dk) zW Yh US rfl rfl rfl rfl (cd.one (z:=x) US Ku underlying56 (bB.own (i:=0) rfl)) ah (Rw.Fr_ext DW) zI Au ?_;intro mL gV iJ lz ik;replace lz:=yb lz;refine B 3 ?_;refine p5 ?_;refine Jg (G2:=Gh.no) (Hc2:=[(b6,oC #[(Rw.row mL gV iJ).val (pre++[x]).length] 56)]++((Rw.row mL gV iJ).hp sK 110 (pre++[x])++[])) dz lK ⟨λ_ h=>h,λ_ h=>.inl h,λ_ h=>.inl h,(UC rfl (lz.imp id (λh=>h.1))),zLc⟩ (Jh ow vk) ?_;exact⟨rfl,.row mL gV iJ,lz.elim (λh=>Rw.Fr_at aK h) (λh=>.inr h.2),ik,rfl⟩
 ·rintro pV l Dk rec G' Hc rfl iQ lK ⟨rfl,r,aK,ah,rfl⟩;replace iQ:=yb iQ;have bG:r.ge wn.heap.size:=Rw.ge_of aK A0;refine PV λWd xY=>?_;have mC:=UD xY;refine B 5 ?_;refine ie (i:=0) rfl sizeOf56 rfl rfl rfl (Rw.val_size _ _) rfl (Rw.val_one _ _) ?_;refine B 4 ?_;have hq:=λ(k:Nat)=>Rw.mem_ge (enc:=sK) (t:=110) (xs:=kM T au) (k:=k) bG;refine PJ.reH (H':=(b6,oC #[r.val (kM T au).length] 56)::(r.hp sK 110 (kM T au)++(l,.loop rec)::fG Dk)) UE ?_;refine DX (b:=b6) (r:=r) (xs:=kM T au) (.inl rfl) results134 isAgg56 rfl rfl zI A0 (mC _ A0).1 rfl ah (λp hp=>⟨.tail _ (bj.2 (.inl hp)),(mC p (bj.2 (.inr (bj.2 (.inl hp))))).1⟩) (Rw.ge_of aK A3) (λW H' hS aQ=>(hS.links w A3).below λk hk hx=>?_);exact Xm
 exact Pj
theorem nzb(G:Gv)(N:Nat)(w:World)(hN:N<=w.heap.size)(hG:bS N w G)(l:List Ch)(hxl:l.length<=1000000)(a:Option Addr)(cp:Nat)(aJ:ai gC 5 N w a l)(au:Int)(sE:ee au):Calls prog 134 #[.agg (bD G),ab au,.slice a l.length cp] w (aD w sK 4 110 (gw G.g au l) (λs=>.tuple #[s,ab (fe G.g au l)])):=by
 cases hv:dU G.g with
 |false=>rw[show gw G.g au l=[] by simp[gw,hv],show fe G.g au l=1 by simp[fe,hv]];exact nSi G N w hN hG l hxl a cp aJ au hv
 |true=>cases hf:jL l with
  |false=>rw[show gw G.g au l=[] by simp[gw,Ax,hf],show fe G.g au l=221 by simp[fe,Ax,hv,hf]];exact ncn G N w hN hG l hxl a cp aJ au hv hf
  |true=>cases hp:mJ G.g au l with
   |false=>rw[show gw G.g au l=[] by simp[gw,Ax,hp],show fe G.g au l=221 by simp[fe,Ax,hv,hp]];exact nIh G N w hN hG l hxl a cp aJ au hv hf hp
   |true=>rw[show gw G.g au l=kM (aW G.g.ns l) au by simp[gw,Ax,hv,hf,hp],show fe G.g au l=0 by simp[fe,Ax,hv,hf,hp]];exact nyp G N w hN hG l hxl a cp aJ au sE hv hf hp
structure CE where
 u:Int
 ba:Option Addr
 bc:Nat
 body:List UInt8
def wrA (x:CE):Array Value:=#[ab x.u,.slice x.ba x.body.length x.bc]
structure Bx where
 node:Int
 level:Int
 w:CE
def yQ (x:Bx):Array Value:=#[ab x.node,ab x.level,ab x.w.u,.slice x.w.ba x.w.body.length x.w.bc]
structure We where
 dev:Int
 w:CE
def v7 (x:We):Array Value:=#[ab x.dev,ab x.w.u,.slice x.w.ba x.w.body.length x.w.bc]
structure Cm where
 folder:Int
 epoch:Int
 par:Nat->Int
 author:Int
 chs:List Ch
 ca:Option Addr
 cc:Nat
 path:List Int
 pa:Option Addr
 pc:Nat
 bxs:List Bx
 ba:Option Addr
 bc:Nat
 wes:List We
 wa:Option Addr
 wc:Nat
 conf:Nat->Int
 sr:Int
 ss:Int
def cG (c:Cm):Array Value:=(ab c.folder::ab c.epoch::lU c.par (ab c.author:: .slice c.ca c.chs.length c.cc:: .slice c.pa c.path.length c.pc:: .slice c.ba c.bxs.length c.bc:: .slice c.wa c.wes.length c.wc::lU c.conf [ab c.sr,ab c.ss])).toArray
def uD (N:Nat) (w:World) (x:CE):Prop:=x.body=[]\/∃b off,x.ba=some ⟨b,off,none⟩/\b<N/\bZ w b off x.body
theorem uD.up{N':Nat}{w':World}{x:CE}(h:uD N w x)(hN:N<=N')(hw:∀k,k<N->w'.heap[k]? =w.heap[k]?):uD N' w' x:=by
 exact zDh
structure du (N:Nat) (w:World) (c:Cm):Prop where
 chs:ai gC 5 N w c.ca c.chs
 path:ai encI 1 N w c.pa c.path
 bxs:ai yQ 4 N w c.ba c.bxs
 wes:ai v7 3 N w c.wa c.wes
 bb:∀x∈c.bxs,uD N w x.w
 wb:∀x∈c.wes,uD N w x.w
structure ra (c:Cm):Prop where
 bp:er c.par
 bf:er c.conf
 chs:c.chs.length<=10
 path:c.path.length<=12
 bxs:c.bxs.length<=40
 wes:c.wes.length<=10
 bb:∀x∈c.bxs,x.w.body.length<=200
 wb:∀x∈c.wes,x.w.body.length<=200
theorem du.up{N':Nat}{w':World}{c:Cm}(h:du N w c)(hN:N<=N')(hw:∀k,k<N->w'.heap[k]? =w.heap[k]?):du N' w' c:=⟨h.chs.up hN hw,h.path.up hN hw,h.bxs.up hN hw,h.wes.up hN hw,λx hx=>(h.bb x hx).up hN hw,λx hx=>(h.wb x hx).up hN hw⟩
def BM (x:CE):Prop:=eg x.u/\16<=x.body.length/\x.body.length<=65552
open Classical in
noncomputable def yR (x:CE):Int:=if BM x then 0 else 90
theorem ny{x:CE}:yR x=0↔BM x:=by unfold yR;split<;>simp_all
theorem Yj{x:CE}(h:¬BM x):ab 90=ab (yR x):=by unfold yR;rw[if_neg h]
theorem n0i{x:CE}(h:BM x):ab 0=ab (yR x):=by unfold yR;rw[if_pos h]
def pJ {α:Type} (p:Nat->α->Prop) (xs:List α) (j:Nat):Prop:=∀i x,i<j->xs[i]? =some x->p i x
theorem pJ.next{α:Type}{p:Nat->α->Prop}{xs:List α}{x:α}(h:pJ p xs j)(hx:xs[j]? =some x)(hp:p j x):pJ p xs (j+1):=by
 exact zPh
theorem pJ.all{α:Type}{p:Nat->α->Prop}{xs:List α}(h:pJ p xs j)(hj:¬j<xs.length):∀i x,xs[i]? =some x->p i x:=λi x hx=>h i x UH hx
def Yk (x:Bx):Prop:=(1<=x.node/\x.node<1024/\1<=x.level/\x.level<=9)/\BM x.w
def Yl (l:List We) (i:Nat) (x:We):Prop:=ee x.dev/\(∀y,0<i->l[i-1]? =some y->y.dev<x.dev)/\BM x.w
structure CkP (c:Cm):Prop where
 fo:qe c.folder
 e1:1<=c.epoch
 e2:c.epoch<=1099511627776
 au:ee c.author
 ch:jL c.chs=true
 pl:c.path.length=10
 bl:c.bxs.length<=1024
 wl:c.wes.length<=512
 path:∀(i:Nat) x,c.path[i]? =some x->eg x
 box:∀(i:Nat) x,c.bxs[i]? =some x->Yk x
 wel:∀i x,c.wes[i]? =some x->Yl c.wes i x
open Classical in
noncomputable def sM (c:Cm):Int:=if CkP c then 0 else 220
theorem QL{c:Cm}:sM c=0↔CkP c:=by unfold sM;split<;>simp_all
theorem Ky(c:Cm):sM c=0\/sM c=220:=by unfold sM;split<;>simp
theorem nb{c:Cm}(h:¬CkP c):ab 220=ab (sM c):=by unfold sM;rw[if_neg h]
theorem npb{c:Cm}(h:CkP c):ab 0=ab (sM c):=by unfold sM;rw[if_pos h]
theorem nke(x:CE)(w:World):Calls prog 71 #[.agg (wrA x)] w (aL w (ab (yR x))):=by
 obtain⟨e,he⟩:∃e,(if eg x.u then(0:Int)else 40)=e:=⟨_,rfl⟩;have Iy:=XX x.u;rw[he]at Iy;refine eN func71 ntmps71 ?_;refine B 2 ?_;refine yX ?_;intro b1 w1 hb1 cF gK gj jy;refine B 16 ?_;refine zLd ?_;refine B 2 ?_;refine ni (t:=11) rfl (λar=>?_) (λar=>?_)
 ·replace ar:=ya ar;refine B 17 ?_;exact zgg
 replace ar:=ya ar;refine B 4 ?_;refine ni (t:=15) rfl (λaN=>?_) (λaN=>?_)
 ·replace aN:=ya aN;refine B 13 ?_;exact zgg
 replace aN:=ya aN;refine B 5 ?_;refine aG ?_ ?_
 ·intro dp;refine B 7 ?_;exact zgg
 intro dp;refine B 8 ?_;exact zgg
theorem ntb(c:Cm)(rf:ra c)(N:Nat)(w:World)(hN:N<=w.heap.size)(hC:du N w c):Calls prog 149 #[.agg (cG c)] w (aL w (ab (sM c))):=by
 have Ar:=rf.chs;have Dz:=rf.path;have PC:=rf.bxs;have UU:=rf.wes;have yS:=hC.chs;have oX:=hC.path;have QM:=hC.bxs;have KA:=hC.wes;refine eN func149 ntmps149 ?_;refine B 2 ?_;refine yX ?_;intro b1 w1 hb1 cF gK gj jy;refine B 8 ?_;refine call call217 rfl rfl rfl (λW hS=>nul _ W) ?_;refine B 2 ?_;refine ni (t:=13) rfl (λar=>?_) (λar=>?_)
 ·replace ar:=ya ar;refine B 49 ?_;exact IB
 replace ar:=ya ar;refine B 5 ?_;refine ni (t:=18) rfl (λaN=>?_) (λaN=>?_)
 ·replace aN:=ya aN;refine B 44 ?_;exact IB
 replace aN:=ya aN;refine B 5 ?_;refine ni (t:=23) rfl (λdp=>?_) (λdp=>?_)
 ·replace dp:=ya dp;refine B 39 ?_;exact IB
 replace dp:=ya dp;refine B 2 ?_;refine call call222 rfl rfl rfl (λW hS=>UK _ W) ?_;refine B 3 ?_;refine ni (t:=29) rfl (λjh=>?_) (λjh=>?_)
 ·replace jh:=ya jh;refine B 33 ?_;exact IB
 replace jh:=ya jh;refine B 2 ?_;refine call call196 rfl rfl rfl (λW hS=>nJc c.chs aa N c.ca c.cc W cM (hC.chs.up (ak _) hS.sm)) ?_;refine B 3 ?_;refine ni (t:=35) rfl (λiC=>?_) (λiC=>?_)
 ·replace iC:=ya iC;refine B 27 ?_;exact IB
 replace iC:=ya iC;refine B 6 ?_;refine ni (t:=41) rfl (λlS=>?_) (λlS=>?_)
 ·replace lS:=ya lS;refine B 21 ?_;exact IB
 replace lS:=ya lS;refine B 6 ?_;refine ni (t:=47) rfl (λkz=>?_) (λkz=>?_)
 ·replace kz:=ya kz;refine B 15 ?_;exact IB
 replace kz:=ya kz;refine B 7 ?_;refine aG ?_ ?_
 ·intro Jc;refine B 7 ?_;exact IB
 intro Jc;refine B 12 ?_;refine CJ.lp (α:=Nat) [1,55] (λj=>[(54,.slice c.pa c.path.length c.pc),(56,ab (j:Int))]) (λj=>[]) (λj=>j<=c.path.length/\pJ (λ_ x=>eg x) c.path j) (λj=>c.path.length-j) 0 ⟨cR _,λi x hi=>absurd hi aa⟩ ?_;rintro j ⟨hj,dZ⟩;refine B 6 ?_;refine aG ?_ ?_
 ·intro qN;refine B 5 ?_;obtain⟨bo,oo,cs0,to,fV,im,fP,cJ,aV⟩:=oX.get aa;obtain⟨y,hy⟩:=ng c.path j aa;rw[im];obtain⟨e,he⟩:∃e,(if eg y then(0:Int)else 40)=e:=⟨_,rfl⟩;have Iy:=XX y;rw[he]at Iy;refine B 2 ?_;refine rv rfl rfl rfl (av (v:=ab y) isAgg3 rfl A1 cJ zJ trivial (by have:=nK aV hy rfl zA;simpa[encI]using this)) ?_;refine B 6 ?_;refine zLd ?_;refine B 3 ?_;refine aG ?_ ?_
  ·intro ua;refine B 11 ?_;exact IB
  intro ua;refine B 7 ?_;refine ag (j+1) ⟨by omega,dZ.next hy (Iy.1 aa)⟩
 intro qN;refine B 15 ?_;have hA1:=dZ.all aa;refine CJ.lp (α:=Nat) [1,66] (λj=>[(65,.slice c.ba c.bxs.length c.bc),(67,ab (j:Int))]) (λj=>[]) (λj=>j<=c.bxs.length/\pJ (λ_ x=>Yk x) c.bxs j) (λj=>c.bxs.length-j) 0 ⟨cR _,λi x hi=>absurd hi aa⟩ ?_;rintro j ⟨hj,dZ⟩;refine B 6 ?_;refine aG ?_ ?_
 ·intro uc;refine B 5 ?_;obtain⟨bo,oo,cs0,to,fV,im,fP,cJ,aV⟩:=QM.get aa;obtain⟨x,hx⟩:=ng c.bxs j aa;rw[im];refine B 2 ?_;refine ay (.agg (yQ x)) ?_;refine B 1 ?_;refine yW ?_;intro b6 jO qy;refine B 9 ?_;refine ni (t:=74) rfl (λoK=>?_) (λoK=>?_)
  ·replace oK:=ya oK;refine B 34 ?_;exact QN
  replace oK:=ya oK;refine B 5 ?_;refine ni (t:=79) rfl (λoM=>?_) (λoM=>?_)
  ·replace oM:=ya oM;refine B 29 ?_;exact QN
  replace oM:=ya oM;refine B 5 ?_;refine ni (t:=84) rfl (λxW=>?_) (λxW=>?_)
  ·replace xW:=ya xW;refine B 24 ?_;exact QN
  replace xW:=ya xW;refine B 5 ?_;refine ni (t:=89) rfl (λxX=>?_) (λxX=>?_)
  ·replace xX:=ya xX;refine B 19 ?_;exact QN
  replace xX:=ya xX;refine B 1 ?_;refine ay (.agg (wrA x.w)) ?_;refine call call71 rfl rfl rfl (λW hS=>nke x.w W) ?_;refine B 4 ?_;refine aG ?_ ?_
  ·intro Pb;exact z6h
  intro Pb;refine xr ?_;refine ag (j+1) ⟨by omega,dZ.next hx ⟨by omega,ny.1 aa⟩⟩
 intro uc;refine B 15 ?_;have Ym:=dZ.all aa;refine CJ.lp (α:=Nat) [1,98] (λj=>[(97,.slice c.wa c.wes.length c.wc),(99,ab (j:Int))]) (λj=>[]) (λj=>j<=c.wes.length/\pJ (Yl c.wes) c.wes j) (λj=>c.wes.length-j) 0 ⟨cR _,λi x hi=>absurd hi aa⟩ ?_;rintro j ⟨hj,dZ⟩;refine B 6 ?_;refine aG ?_ ?_
 ·intro agQ;refine B 5 ?_;obtain⟨bo,oo,cs0,to,fV,im,fP,cJ,aV⟩:=KA.get aa;obtain⟨x,hx⟩:=ng c.wes j aa;rw[im];refine B 3 ?_;refine ay (.agg (v7 x)) ?_;refine B 1 ?_;refine yW ?_;intro b8 Ig Ii;refine B 5 ?_;by_cases h1:¬ee x.dev
  ·refine eA 17 (pb:=by exact zU 2 (k:=by exact aU (nf call222 rfl rfl (λW hS _=>by have h9:=UK x.dev W;rw[decide_eq_false h1]at h9;exact h9) (λ_=>rfl)) zT)) (sp:=(_::_::(some (bN))::(some cY)::_)) (k:=?_);refine B 23 ?_;exact QN
  by_cases h2:j=0
  ·refine eA 17 (pb:=by exact zU 2 (k:=by exact aU (nf call222 rfl rfl (λW hS _=>by have h9:=UK x.dev W;rw[decide_eq_true (Classical.not_not.1 h1)]at h9;exact h9) (λ_=>rfl)) zT)) (sp:=(_::_::(some (cY))::(some bN)::_::_::(some bN)::_)) (k:=?_);refine B 5 ?_;refine zKe ?_;refine B 4 ?_;refine aG ?_ ?_
   ·intro agR;exact z6h
   intro agR;exact zKg
  obtain⟨y,hy⟩:=ng c.wes (j-1) aa;by_cases h3:x.dev<=y.dev
  ·refine eA 17 (pb:=by exact zU 2 (k:=by exact aU (nf call222 rfl rfl (λW hS _=>by have h9:=UK x.dev W;rw[decide_eq_true (Classical.not_not.1 h1)]at h9;exact h9) (λ_=>rfl)) (zU 6 (k:=by exact aU (X.v (RV.re (v':=.slice (some ⟨bo,oo,none⟩) c.wes.length c.wc) (av isAgg57 rfl A0 hb1 cF zz rfl) (congrArg (λq=>Value.slice q c.wes.length c.wc) im))) (zU 4 (k:=by exact aU (X.v (av (v:=ab y.dev) isAgg3 rfl A1 cJ zJ zz (by have:=xv (i:=(j:Int)-1) aV hy aa 0 zA;simpa[v7]using this))) zT)))))) (sp:=(_::_::(some (cY))::(some bN)::_::_::(some cY)::_)) (k:=?_);refine ay cY ?_;refine B 22 ?_;exact QN
  refine eA 17 (pb:=by exact zU 2 (k:=by exact aU (nf call222 rfl rfl (λW hS _=>by have h9:=UK x.dev W;rw[decide_eq_true (Classical.not_not.1 h1)]at h9;exact h9) (λ_=>rfl)) (zU 6 (k:=by exact aU (X.v (RV.re (v':=.slice (some ⟨bo,oo,none⟩) c.wes.length c.wc) (av isAgg57 rfl A0 hb1 cF zz rfl) (congrArg (λq=>Value.slice q c.wes.length c.wc) im))) (zU 4 (k:=by exact aU (X.v (av (v:=ab y.dev) isAgg3 rfl A1 cJ zJ zz (by have:=xv (i:=(j:Int)-1) aV hy aa 0 zA;simpa[v7]using this))) zT)))))) (sp:=(_::_::(some (cY))::(some bN)::_::_::(some cY)::_)) (k:=?_);refine ay bN ?_;refine B 4 ?_;refine zKe ?_;refine B 4 ?_;refine aG ?_ ?_
  ·intro agS;exact z6h
  intro agS;exact zKg
 intro agQ;refine B 11 ?_;exact IB
abbrev qg (l:List UInt8):ByteArray:=strOfNums (l.map λu=>(u.toNat:Int))
theorem EE(l:List UInt8):(qg l).size=l.length:=by rw[strOfNums_size,eQ]
def gy (N:Nat) (w:World) (a:Option Addr) (l:List UInt8):Prop:=l=[]\/∃b off,a=some ⟨b,off,none⟩/\b<N/\bZ w b off l
theorem naf{P:Program}(w:World)(src e:Nat)(hs:P.underlying src=some (.slice e))(he:P.underlying e=some (.int .u8))(a:Option Addr)(cap:Nat)(dst:Nat)(hd:P.underlying dst=some .string):(convert src dst (.slice a 0 cap)).run P w= .ok (.string (strOfNums [])) w:=by
 cases a with
 |none=>
  have hr:=run_convert_bytes_nil (P:=P) w src e hs he 0 cap dst hd;rw[hr];rfl
 |some a=>
  have hl:(loadCells a 0).run P w= .ok (([]:List Int).map (Value.int .u8)).toArray w:=by simp[loadCells,loadCellsFrom]
  rw[run_convert_bytes_string w src dst e _ 0 cap hs he hd,run_bytesToString w _ 0 cap [] hl,foldl_push_bytes];simp[strOfNums,ByteArray.empty,ByteArray.emptyWithCapacity];rfl
theorem QO{C:Cx}{G:Gh}{H:ad}{E:Env}{x:Operand}{src dst e c:Nat}{l:List UInt8}{w1:World}(hs:C.P.underlying src=some (.slice e))(he:C.P.underlying e=some (.int .u8))(hd:C.P.underlying dst=some .string)(hx:ev E x=some (.slice a l.length c))(hm:w1∈L)(hb:gy N w1 a l)(hG:∀b,b<N->¬G.X b/\bA H b):RV C G L H E (.convert src dst x) (.string (qg l)):=λd ty pos aC g ac W hF hS=>by
 rcases hb with h1|⟨b,off,h1,h2,cs,t,fr,h3,h4,h5⟩
 ·subst h1;have hr:=naf (P:=C.P) W src e hs he a c dst hd;simp only[fh]at hx;simp[execOp,hF.ev hx,hr];rfl
 subst h1;have hW:=hS.old hm h3 (hG b h2).1 (hG b h2).2;have hr:=run_convert_bytes_arg (P:=C.P) W src e hs he b off l.length c (l.map λu=>(u.toNat:Int)) zI (λi hi=>by
  rw[KB hW,h5 i hi];simp[fU,List.getD,hi]) dst hd
 simp[execOp,hF.ev hx,hr]
theorem nEb(n:Int)(w:World):Calls prog 89 #[ab n] w (aL w (vI n)):=by
 refine eN func89 ntmps89 ?_;refine B 3 ?_;refine yW ?_;intro b2 dB dx;refine B 10 ?_;refine cC (.inl rfl) results89 aX A0 zB ?_;rfl
theorem Yn(l:List UInt8)(N:Nat)(a:Option Addr)(c:Nat)(w:World)(hN:N<=w.heap.size)(hb:gy N w a l):Calls prog 90 #[.slice a l.length c] w (aL w (vT (qg l))):=by
 refine eN func90 ntmps90 ?_;refine B 3 ?_;refine yW ?_;intro b2 dB dx;refine B 5 ?_;refine zbe ?_;refine B 5 ?_;refine cC (.inl rfl) results90 aX A0 zB ?_;rfl
theorem Yo(base:Option Addr)(n c:Nat)(w:World):Calls prog 86 #[.slice base n c] w (aL w (vL base n c)):=by
 refine eN func86 ntmps86 ?_;refine B 3 ?_;refine yW ?_;intro b2 dB dx;refine B 10 ?_;refine cC (.inl rfl) results86 aX A0 zB ?_;rfl
def uF (n:Int):List Value:=[ab 1,ab n,Ur,aj]
theorem nSn(n:Int):(uF n).length=4:=rfl
theorem KC(n:Int):∀u∈uF n,u.oneCell'=true:=by intro u hu;simp[uF]at hu;rcases hu with rfl|rfl|rfl|rfl<;>rfl
theorem QP:prog.info? 200=some Tryz.t200:=by kernel_rfl
theorem Yp:jH prog 134 200 4:=⟨underlying134,Tryz.t200,.agg #[ab 0,ab 0,Ur,aj],QP,rfl,rfl,rfl,by decide⟩
theorem nji(xs:List Int)(hxl:xs.length<=1000)(N:Nat)(a:Option Addr)(cp:Nat)(w:World)(hN:N<=w.heap.size)(aJ:ai encI 1 N w a xs):Calls prog 88 #[.slice a xs.length cp] w (aD w uF 4 200 xs id):=by
 refine eN func88 ntmps88 ?_;refine B 19 ?_;refine CJ.loop (α:=Rw×Nat) (λp=>[(3,p.1.val (xs.take p.2).length),(6,.slice a xs.length cp),(7,ab (xs.length:Int)),(8,ab (p.2:Int))]) (λp=>p.1.hp uF 200 (xs.take p.2)++[]) (λp=>[w]) (λp=>Gh.no) (λp=>p.2<=xs.length/\p.1.Fr Gh.no [w]/\p.1.Fit 4 (xs.take p.2)) (λp=>xs.length-p.2) (.nil,0) ⟨cR _,True.intro,rfl⟩ zR rfl rfl zI ?_;rintro⟨r,j⟩ ⟨hj,aK,ah⟩;dsimp only at hj aK ah ⊢;have bG:r.ge w.heap.size:=Rw.ge_of aK A0;refine B 6 ?_;refine aG ?_ ?_
 ·intro ar;refine B 5 ?_;obtain⟨bo,oo,cs0,to,fV,rfl,fP,cJ,aV⟩:=aJ.get aa;obtain⟨x,hx⟩:=ng xs j aa;refine B 2 ?_;refine rv rfl rfl rfl (av (v:=ab x) isAgg3 rfl A0 cJ zJ zz (by have:=nK aV hx rfl zA;simpa[encI]using this)) ?_;refine B 6 ?_;refine call call89 rfl rfl rfl (λW hS=>nEb _ W) ?_;refine Yq ?_;refine yW ?_;intro dJ EF KD;refine kg (r:=r) (xs:=(xs.take j)) (zs:=[x]) (enc:=uF) (m:=4) (H0:=[(dJ,oC #[ab 1,ab x,Ur,aj] 200)]) (H1:=[]) zW Yp nSn rfl rfl rfl rfl (cd.one (z:=x) nSn KC underlying134 (bB.own (i:=0) rfl)) ah aK zI (by simp only[lb,dF,fh];omega) ?_;intro UW QQ QR yT yU;replace yT:=yb yT;refine B 8 ?_;refine p5 ?_;refine PJ.again (Rw.row UW QQ QR,j+1) ⟨by dsimp only;omega,yT.elim (λh=>Rw.Fr_at aK h) (λh=>.inr h),by rw[nq hx];exact yU⟩ zS ⟨by rw[nq hx];rfl,rfl,rfl,rfl,trivial⟩ (by rw[nq hx];rfl) rfl zI
 intro ar;refine B 6 ?_;have ck:xs.take j=xs:=jZ aa;rw[ck]at ah ⊢;refine B 6 ?_;exact nP (H0:=[]) (H1:=[]) (r:=r) (.inl rfl) results88 aX A0 Xo rfl ah (Rw.ge_of aK A0) zI
abbrev El:=Nat×Nat
def jz (n:Nat) (e:El):List Value:=[ab 3,ab 0,Ur,.slice (ao e.1) n e.2]
theorem NN(n:Nat)(e:El):(jz n e).length=4:=rfl
theorem n1g(n:Nat)(e:El):∀u∈jz n e,u.oneCell'=true:=by intro u hu;simp[jz]at hu;rcases hu with rfl|rfl|rfl|rfl<;>rfl
def iK (F:ad) (n:Nat) (es:List El) (ls:List (List V)):Prop:=es.length=ls.length/\∀(i:Nat) (e:El) (l:List V),es[i]? =some e->ls[i]? =some l->l.length=n/\l.all vn=true/\n<=e.2/\∃sp t fr,(e.1,Obj.cells (nL l++sp).toArray t fr)∈F
theorem iK.nil{F:ad}:iK F n [] []:=⟨rfl,λi e l h=>by simp at h⟩
variable {es:List El}
theorem iK.up{F F':ad}(h:iK F n es ls)(hF:∀p∈F,p∈F'):iK F' n es ls:=⟨h.1,λi e l h1 h2=>by
 obtain⟨g1,g2,g3,sp,t,fr,g4⟩:=h.2 i e l h1 h2;exact⟨g1,g2,g3,sp,t,fr,hF _ g4⟩⟩
theorem nTl{α:Type}{xs:List α}{y z:α}(h:(xs++[y])[i]? =some z):xs[i]? =some z\/(i=xs.length/\z=y):=by grind
theorem iK.snoc{F F':ad}{b c:Nat}{l:List V}{sp:List Value}(h:iK F n es ls)(hF:∀p∈F,p∈F')(hl:l.length=n)(hf:l.all vn=true)(hc:n<=c)(hp:(b,Obj.cells (nL l++sp).toArray t fr)∈F'):iK F' n (es++[(b,c)]) (ls++[l]):=by
 refine⟨by simp[h.1],λi e l' h1 h2=>?_⟩;have e1:=h.1;rcases nTl h1 with h1|⟨rfl,rfl⟩
 ·rcases nTl h2 with h2|⟨rfl,rfl⟩
  ·exact(h.up hF).2 i e l' h1 h2
  have:=nr h1;omega
 all_goals grind
theorem n4n{N:Nat}{w:World}:∀(l:List V) (ys:List (List Value)) (pre EG:List Value),l.length=ys.length->(∀(i:Nat) (x:V) (y:List Value),l[i]? =some x->ys[i]? =some y->y.length=4/\eX N w x (.agg y.toArray))->gL N w (pre++(ys.flatten++EG)).toArray pre.length l
 | [],_,pre,EG,_,_=>by simp[gL]
 |x::l,[],pre,EG,hl,_=>by simp at hl
 |x::l,y::ys,pre,EG,hl,h=>by
  obtain⟨h1,h2⟩:=h 0 x y rfl rfl;have ih:=n4n (N:=N) (w:=w) l ys (pre++y) EG NH (λi x' y' hx hy=>h (i+1) x' y' (by simpa using hx) (by simpa using hy));have e:pre++y++(ys.flatten++EG)=pre++((y::ys).flatten++EG):=by simp
  rw[e]at ih;simp only[gL];have hc:cut (pre++((y::ys).flatten++EG)).toArray pre.length 4=y.toArray:=by
   unfold cut;simp only[List.flatten_cons,iY];rw[List.drop_left,<-h1,List.take_left]
  refine⟨?_,by rw[hc];exact h2,?_⟩
  ·simp only[qx,cy,List.flatten_cons];omega
  rw[cy,h1]at ih;exact ih
theorem nsm{α:Type}{enc:α->List Value}{xs:List α}{l:List V}{r:Rw}(hl:l.length=xs.length)(he:∀(i:Nat) (x:α) (y:V),xs[i]? =some x->l[i]? =some y->(enc x).length=4/\eX N w y (.agg (enc x).toArray))(hr:∀p∈r.hp enc t xs,p.1<N/\w.heap[p.1]? =some p.2)(hf:r.Fit 4 xs):eX N w (.list l) (.agg (dG (r.val xs.length))):=by
 simp only[eX];cases r with
 |nil=>
  have h0:xs=[]:=hf;subst h0;have h1:l=[]:=lN NH;subst h1;exact⟨none,0,rfl,ak _,.inl rfl⟩
 |row b cap sp=>
  obtain⟨f1,f2⟩:=hf;obtain⟨g1,g2⟩:=hr (b,aP enc t xs sp) oW;refine⟨some ⟨b,0,none⟩,cap,by rw[hl];rfl,by omega,.inr ⟨b,_,t,(0,0),rfl,g1,g2,?_⟩⟩;have h2:=n4n (N:=N) (w:=w) l (xs.map enc) [] sp NH (λi x y hx hy=>by
   rw[sC]at hy;cases NO:xs[i]? with
   |none=>rw[NO]at hy;cases hy
   |some z=>rw[NO]at hy;cases hy;exact he i z x NO hx)
  simpa[gX,List.flatMap]using h2
theorem iK.vat{F:ad}{r:Rw}(h:iK F n es ls)(hw:∀p∈F,p.1<N/\w.heap[p.1]? =some p.2)(hr:∀p∈r.hp (jz n) t es,p∈F)(hf:r.Fit 4 es):eX N w (.list (ls.map V.list)) (.agg (dG (r.val es.length))):=
 nsm (by rw[eQ];exact h.1.symm) (λi e y hx hy=>⟨rfl,by
  rw[sC]at hy;cases hl:ls[i]? with
  |none=>rw[hl]at hy;cases hy
  |some l=>
   rw[hl]at hy;cases hy;obtain⟨g1,g2,g3,sp,t',fr,g4⟩:=h.2 i e l hx hl;obtain⟨k1,k2⟩:=hw _ g4;have:=JQ (cap:=e.2) g2 k1 aa k2;rw[g1]at this;exact this⟩) (λp hp=>hw p (hr p hp)) hf
theorem EH{xs:List Int}{r:Rw}(hr:∀p∈r.hp uF t xs,p.1<N/\w.heap[p.1]? =some p.2)(hf:r.Fit 4 xs):eX N w (.list (xs.map V.int)) (.agg (dG (r.val xs.length))):=
 nsm zI (λi x y hx hy=>⟨rfl,by rw[sC,hx]at hy;cases hy;simp only[eX];rfl⟩) hr hf
def BN (x:Ch):List V:=[.int x.kind,.int x.dev,.int x.pub,.int x.ver,.int x.cut]
def uG (x:Bx):List V:=[.int x.node,.int x.level,.int x.w.u,.text (qg x.w.body)]
def uH (x:We):List V:=[.int x.dev,.int x.w.u,.text (qg x.w.body)]
def mM (c:Cm):List V:=[.int c.folder,.int c.epoch,.text (qg (cx c.par)),.int c.author,.list ((c.chs.map BN).map V.list),.list (c.path.map V.int),.list ((c.bxs.map uG).map V.list),.list ((c.wes.map uH).map V.list),.text (qg (cx c.conf)),.int c.sr,.int c.ss]
theorem n2f{α β:Type}(f:α->β){xs:List α}{x:α}(hx:xs[j]? =some x):(xs.take (j+1)).map f=(xs.take j).map f++[f x]:=by rw[nq hx];simp
theorem bZ.dgo{b off:Nat}{f:Nat->Int}(h:w.heap[b]? =some (.cells cs t fr))(hc:cut cs off 32=Px.dg f)(hs:off+32<=cs.size)(hf:er f):bZ w b off (cx f):=
 ⟨cs,t,fr,h,by rw[nH];exact hs,λi hi=>by
  rw[nH]at hi;rw[Uw f hf i hi,<-qQ f i hi,<-hc];unfold cut;rw[<-NS,<-NS];simp only[QS hi,QT]⟩
theorem EI{W:World}{b:Nat}{xs:List Int}(h:W.heap[b]? =some (.cells (xs.map ab).toArray t fr)):ai encI 1 W.heap.size W (ao b) xs:=by
 refine .inr ⟨b,0,_,t,fr,rfl,(aT.1 h).1,h,λi hi=>⟨by simp;omega,?_⟩⟩;all_goals grind [cut,encI]
theorem IC(N:Nat)(w:World)(n:Int):eX N w (.int n) (vI n):=by simp only[eX]
theorem UX(N:Nat)(w:World)(s:ByteArray):eX N w (.text s) (vT s):=by simp only[eX]
theorem EJ{r:Rw}(W:World):Calls prog 86 #[r.val n] W (aL W (.agg (dG (r.val n)))):=by cases r<;>exact Yo _ _ _ W
theorem nJl(l:List V){b cap:Nat}(hl:l.length<=cap)(h:w.heap[b]? =some (.cells cs t fr))(hb:b<N)(hv:gL N w cs 0 l):eX N w (.list l) (vL (ao b) l.length cap):=by grind [eX]
theorem sN{off:Nat}{x:V}{l:List V}(h1:off+4<=cs.size)(h2:eX N w x (.agg (cut cs off 4)))(h3:gL N w cs (off+4) l):gL N w cs off (x::l):=by
 simp only[gL];exact⟨h1,h2,h3⟩
theorem nsl{off:Nat}:gL N w cs off []:=by simp only[gL]
theorem nR(f:Nat->Int):(cx f).length=32:=nH f
theorem gy.up{N':Nat}{w':World}{l:List UInt8}(h:gy N w a l)(hN:N<=N')(hw:∀k,k<N->w'.heap[k]? =w.heap[k]?):gy N' w' a l:=by
 exact zDh
theorem n4c(c:Cm)(rf:ra c)(N:Nat)(w:World)(hN:N<=w.heap.size)(hC:du N w c):Calls prog 45 #[.agg (cG c)] w (cK w (λb:Nat=>.slice (ao b) 11 11) (λb w1=>w.heap.size<=b/\eX w1.heap.size w1 (.list (mM c)) (vL (ao b) 11 11))):=by
 have Ar:=rf.chs;have Dz:=rf.path;have PC:=rf.bxs;have UU:=rf.wes;have yS:=hC.chs;have oX:=hC.path;have QM:=hC.bxs;have KA:=hC.wes;refine nB (dL []) [] (vs:=[_]) func45 rfl ntmps45 rfl (NU w) ?_;refine B 2 ?_;refine yX ?_;intro b1 w1 hb1 cF gK gj jy;refine B 5 ?_;refine z8d ?_;refine z8d ?_;refine z8d ?_;refine B 1 ?_;refine yW ?_;intro b3 ez eP;refine B 1 ?_;refine yW ?_;intro b4 ji jj;refine B 1 ?_;refine yW ?_;intro b5 sq su;refine B 15 ?_;refine CJ.loop (α:=((Rw×List El)×ad)×Nat) (λp=>[(1,ptr b1 0),(3,ptr b3 0),(4,ptr b4 0),(5,ptr b5 0),(16,.slice c.ca c.chs.length c.cc),(17,ab (c.chs.length:Int)),(18,ab (p.2:Int))]) (λp=>[(b5,oC (dG (aj)) 200),(b4,oC (dG (aj)) 200),(b3,oC (dG (p.1.1.1.val p.1.1.2.length)) 200)]++(p.1.1.1.hp (jz 5) 200 p.1.1.2++[])) (λp=>[w1,w]) (λp=>dL p.1.2) (λp=>p.2<=c.chs.length/\p.1.1.1.Fr (dL p.1.2) [w1,w]/\p.1.1.1.Fit 4 p.1.1.2/\iK p.1.2 5 p.1.1.2 ((c.chs.take p.2).map BN)/\∀q∈([]:ad),q∈p.1.2) (λp=>c.chs.length-p.2) (((.nil,[]),([]:ad)),0) ⟨cR _,True.intro,rfl,iK.nil,λq h=>h⟩ zR rfl rfl zI ?_;rintro⟨⟨⟨r1,iR⟩,F1⟩,j1⟩ ⟨hj,aK,ah,pd,NV⟩;dsimp only at hj aK ah pd NV ⊢;have bG:r1.ge w1.heap.size:=Rw.ge_fz aK A0;have hel:iR.length<=50:=by rw[pd.1,eQ,lb];omega
 refine B 6 ?_;refine aG ?_ ?_
 ·intro ar;refine B 5 ?_;obtain⟨bo,oo,cs0,to,fV,im,fP,cJ,aV⟩:=yS.get aa;obtain⟨x,hx⟩:=ng c.chs j1 aa;rw[im];refine X5 ?_;refine yW ?_;intro b7 jN vN;refine B 3 ?_;refine CJ.less (E':=[(1,_),(3,_),(4,_),(5,_),(7,_),(16,_),(17,_),(18,_),(19,_),(20,_),(21,_)]) zR ?_;refine CJ.chn 16 [12,13,14,15] [_,_,_,_,_,_,_,_,_,_,_,_,none,none,none,none] (λcv L' H'=>let dY:ad:=[(b7,oC (gC x) 99),(b5,oC (dG (aj)) 200),(b4,oC (dG (aj)) 200),(b3,oC (dG (r1.val iR.length)) 200)]++(r1.hp (jz 5) 200 iR++[]);match cv with| []=>L'=[w1,w]/\H'=dY| [v1]=>∃(my:Nat),v1= .slice (ao my) 5 5/\L'=[w1,w]/\H'=(my,oC #[ab x.kind,ab x.dev,ab x.pub,ab x.ver,ab x.cut] 3)::dY/\ae [w1,w] my| [v1,v2]=>∃(my:Nat) (bn:Nat) (cn:Nat) (sn:List Value),v1= .slice (ao my) 5 5/\v2= .slice (ao bn) 5 cn/\L'=[w1,w]/\H'=(bn,aP uF 200 [x.kind,x.dev,x.pub,x.ver,x.cut] sn)::(my,oC #[ab x.kind,ab x.dev,ab x.pub,ab x.ver,ab x.cut] 3)::dY/\ae [w1,w] my/\ae [w1,w] bn/\5<=cn| [v1,v2,v3]=>∃(my:Nat) (bn:Nat) (cn:Nat) (sn:List Value),v1= .slice (ao my) 5 5/\v2= .slice (ao bn) 5 cn/\v3=vL (ao bn) 5 cn/\L'=[w1,w]/\H'=(bn,aP uF 200 [x.kind,x.dev,x.pub,x.ver,x.cut] sn)::(my,oC #[ab x.kind,ab x.dev,ab x.pub,ab x.ver,ab x.cut] 3)::dY/\ae [w1,w] my/\ae [w1,w] bn/\5<=cn| [v1,v2,v3,v4]=>∃(my:Nat) (bn:Nat) (cn:Nat) (sn:List Value) (mN:Nat),v1= .slice (ao my) 5 5/\v2= .slice (ao bn) 5 cn/\v3=vL (ao bn) 5 cn/\v4= .slice (ao mN) 1 1/\L'=[w1,w]/\H'=(mN,oC (dG (.slice (ao bn) 5 cn)) 200)::(bn,aP uF 200 [x.kind,x.dev,x.pub,x.ver,x.cut] sn)::(my,oC #[ab x.kind,ab x.dev,ab x.pub,ab x.ver,ab x.cut] 3)::dY/\ae [w1,w] my/\ae [w1,w] bn/\5<=cn/\ae [w1,w] mN|_=>False) (pc WV (pc UY (pc KE (pc UY (pc KE (pc UY (pc KE (pc UY (pc KE (pc UY (pc KE (pc UY (pk (pk (pk (pk (pn))))))))))))))))) ?_ ?_
  ·refine ss rfl ?_ ?_
   ·intro cv L' H' hl hP F Q' hk;obtain rfl:=lN hl;obtain⟨rfl,rfl⟩:=hP;refine D4 ?_;exact zwg
   refine ss rfl ?_ ?_
   ·intro cv L' H' hl hP F Q' hk;obtain⟨v1,rfl⟩:=iZ hl;obtain⟨my,rfl,rfl,rfl,kN⟩:=hP;refine It (enc:=uF) (m:=4) (t:=200) (xs:=[x.kind,x.dev,x.pub,x.ver,x.cut]) (v:=id) (first:=[]) (cap:=[]) rfl call88 rfl rfl rfl (λW hS=>nji [x.kind,x.dev,x.pub,x.ver,x.cut] zI W.heap.size (ao my) 5 W (ak _) (EI (xs:=[x.kind,x.dev,x.pub,x.ver,x.cut]) (hS.own _ A0))) ?_;intro r_ UZ fJ;obtain⟨b_,c_,s_,rfl⟩:=Rw.row_of fJ zI;exact OJ.done (hk _ _ _ ⟨my,b_,c_,s_,rfl,rfl,rfl,rfl,kN,UZ.elim (λh=>h.elim) id,fJ.1⟩)
   refine ss rfl ?_ ?_
   ·intro cv L' H' hl hP F Q' hk;obtain⟨v1,v2,rfl⟩:=pX hl;obtain⟨my,bn,cn,sn,rfl,rfl,rfl,rfl,kN,hfn,tJ⟩:=hP;refine call call86 rfl rfl rfl (λW hS=>Yo (ao bn) 5 cn W) ?_;exact OJ.done (hk _ _ _ ⟨my,bn,cn,sn,rfl,rfl,rfl,rfl,rfl,kN,hfn,tJ⟩)
   refine ss rfl ?_ ?_
   ·intro cv L' H' hl hP F Q' hk;obtain⟨v1,v2,v3,rfl⟩:=mB hl;obtain⟨my,bn,cn,sn,rfl,rfl,rfl,rfl,rfl,kN,hfn,tJ⟩:=hP;refine Yq ?_;intro b_ mO hJ;exact OJ.done (hk _ _ _ ⟨my,bn,cn,sn,b_,rfl,rfl,rfl,rfl,rfl,rfl,kN,hfn,tJ,mO⟩)
   exact nn
  intro cv L' H' hl hP;obtain⟨v1,v2,v3,v4,rfl⟩:=uI hl;obtain⟨my,bn,cn,sn,mN,rfl,rfl,rfl,rfl,rfl,rfl,kN,hfn,tJ,uJ⟩:=hP;refine kg (r:=r1) (xs:=iR) (zs:=[((bn,cn):El)]) (enc:=jz 5) (m:=4) (H0:=[(mN,oC (dG (.slice (ao bn) 5 cn)) 200),(bn,aP uF 200 [x.kind,x.dev,x.pub,x.ver,x.cut] sn),(my,oC #[ab x.kind,ab x.dev,ab x.pub,ab x.ver,ab x.cut] 3),(b7,oC (gC x) 99),(b5,oC (dG (aj)) 200),(b4,oC (dG (aj)) 200),(b3,oC (dG (r1.val iR.length)) 200)]) (H1:=[]) rfl Yp (NN 5) rfl rfl rfl rfl (cd.one (z:=((bn,cn):El)) (NN 5) (n1g 5) underlying134 (bB.own (i:=0) rfl)) ah aK zI Au ?_;intro br cr sr jA rh;refine B 1 ?_;refine kY (i:=6) rfl sizeOf134 rfl rfl rfl rfl (ea rfl) rfl ?_;refine B 7 ?_;refine PJ.reH (H':=[(mN,oC (dG (.slice (ao bn) 5 cn)) 200),(bn,aP uF 200 [x.kind,x.dev,x.pub,x.ver,x.cut] sn),(my,oC #[ab x.kind,ab x.dev,ab x.pub,ab x.ver,ab x.cut] 3),(b7,oC (gC x) 99),(b5,oC (dG (aj)) 200),(b4,oC (dG (aj)) 200),(b3,oC (dG ((Rw.row br cr sr).val (iR++[((bn,cn):El)]).length)) 200)]++((br,aP (jz 5) 200 (iR++[((bn,cn):El)]) sr)::[])) rfl ?_;refine U0 ?_;refine PJ.fz [(bn,aP uF 200 [x.kind,x.dev,x.pub,x.ver,x.cut] sn)] (H':=[(my,oC #[ab x.kind,ab x.dev,ab x.pub,ab x.ver,ab x.cut] 3),(b7,oC (gC x) 99),(b5,oC (dG (aj)) 200),(b4,oC (dG (aj)) 200),(b3,oC (dG ((Rw.row br cr sr).val (iR++[((bn,cn):El)]).length)) 200)]++((br,aP (jz 5) 200 (iR++[((bn,cn):El)]) sr)::[])) (List.Perm.refl _) zac ?_
  refine PJ.dropAt (i:=0) rfl kN ?_;refine p5 ?_;refine ag (((Rw.row br cr sr,(iR++[((bn,cn):El)])),(bn,aP uF 200 [x.kind,x.dev,x.pub,x.ver,x.cut] sn)::F1),j1+1) ⟨by dsimp only;omega,jA.elim (λh=>Rw.Fr_at aK h) (λh=>.inr h),rh,by dsimp only;rw[n2f BN hx];exact pd.snoc (λp hp=>.tail _ hp) rfl rfl tJ A0,λq hq=>.tail _ (NV q hq)⟩
 intro ar;refine B 7 ?_;have EK:c.chs.take j1=c.chs:=jZ aa;rw[EK]at pd;have iq:=ah;refine CJ.fz (r1.hp (jz 5) 200 iR) (H':=[(b5,oC (dG (aj)) 200),(b4,oC (dG (aj)) 200),(b3,oC (dG (r1.val iR.length)) 200)]) Yr (Rw.fz_above aK) ?_;refine B 8 ?_;refine CJ.loop (α:=((Rw×List El)×ad)×Nat) (λp=>[(1,ptr b1 0),(3,ptr b3 0),(4,ptr b4 0),(5,ptr b5 0),(42,.slice c.ba c.bxs.length c.bc),(43,ab (c.bxs.length:Int)),(44,ab (p.2:Int))]) (λp=>[(b5,oC (dG (aj)) 200),(b4,oC (dG (p.1.1.1.val p.1.1.2.length)) 200),(b3,oC (dG (r1.val iR.length)) 200)]++(p.1.1.1.hp (jz 4) 200 p.1.1.2++[])) (λp=>[w1,w]) (λp=>dL p.1.2) (λp=>p.2<=c.bxs.length/\p.1.1.1.Fr (dL p.1.2) [w1,w]/\p.1.1.1.Fit 4 p.1.1.2/\iK p.1.2 4 p.1.1.2 ((c.bxs.take p.2).map uG)/\∀q∈(r1.hp (jz 5) 200 iR++F1),q∈p.1.2) (λp=>c.bxs.length-p.2) (((.nil,[]),(r1.hp (jz 5) 200 iR++F1)),0) ⟨cR _,True.intro,rfl,iK.nil,λq h=>h⟩ zR rfl rfl zI ?_;rintro⟨⟨⟨r2,ri⟩,F2⟩,j2⟩ ⟨hj,aK,ah,sO,Az⟩;dsimp only at hj aK ah sO Az ⊢;have bG:r2.ge w1.heap.size:=Rw.ge_fz aK A0;have hel:ri.length<=50:=by rw[sO.1,eQ,lb];omega
 refine B 6 ?_;refine aG ?_ ?_
 ·intro aN;refine B 5 ?_;obtain⟨bo,oo,cs0,to,fV,im,fP,cJ,aV⟩:=QM.get aa;obtain⟨x,hx⟩:=ng c.bxs j2 aa;rw[im];have hq:=λ(k:Nat)=>Rw.mem_ge (enc:=jz 4) (t:=200) (xs:=ri) (k:=k) bG;have qC:gy N w x.w.ba x.w.body:=hC.bb x (cO hx);refine B 2 ?_;refine ay (.agg (yQ x)) ?_;refine B 1 ?_;refine yW ?_;intro b9 xh tw;refine B 3 ?_;refine CJ.less (E':=[(1,_),(3,_),(4,_),(5,_),(9,_),(42,_),(43,_),(44,_),(45,_),(46,_),(47,_)]) zR ?_;refine CJ.chn 19 [16,17,18] [_,_,_,_,_,_,_,_,_,_,_,_,_,_,_,some (vT (qg x.w.body)),none,none,none] (λcv L' H'=>let dY:ad:=[(b9,oC (yQ x) 110),(b5,oC (dG (aj)) 200),(b4,oC (dG (r2.val ri.length)) 200),(b3,oC (dG (r1.val iR.length)) 200)]++(r2.hp (jz 4) 200 ri++[]);match cv with| []=>L'=[w1,w]/\H'=dY| [v1]=>∃(bn:Nat),v1= .slice (ao bn) 4 4/\L'=[w1,w]/\H'=(bn,oC (nL (uG x)++[]).toArray 200)::dY/\ae [w1,w] bn| [v1,v2]=>∃(bn:Nat),v1= .slice (ao bn) 4 4/\v2=vL (ao bn) 4 4/\L'=[w1,w]/\H'=(bn,oC (nL (uG x)++[]).toArray 200)::dY/\ae [w1,w] bn| [v1,v2,v3]=>∃(bn:Nat) (mN:Nat),v1= .slice (ao bn) 4 4/\v2=vL (ao bn) 4 4/\v3= .slice (ao mN) 1 1/\L'=[w1,w]/\H'=(mN,oC (dG (.slice (ao bn) 4 4)) 200)::(bn,oC (nL (uG x)++[]).toArray 200)::dY/\ae [w1,w] bn/\ae [w1,w] mN|_=>False) (pc WV (pc xx (pc (by exact λcv L' H' hd hP=>X.v (bP underlying110 rfl sizeOf3 rfl)) (pc xx (pc z2 (pc (by exact λcv L' H' hd hP=>X.v (bP underlying110 rfl sizeOf3 rfl)) (pc xx (pc z2 (pc (by exact λcv L' H' hd hP=>X.v (bP underlying110 rfl sizeOf108 rfl)) (pc z7b (pc xx (pc z2 (pc (by exact λcv L' H' hd hP=>X.v (bP underlying110 rfl sizeOf108 rfl)) (pc z4b (pc xx (pc xx (pk (pk (pk (pn)))))))))))))))))))) ?_ ?_
  ·refine ss rfl ?_ ?_
   ·exact zog
   refine ss rfl ?_ ?_
   ·intro cv L' H' hl hP F Q' hk;obtain⟨v1,rfl⟩:=iZ hl;obtain⟨bn,rfl,rfl,rfl,hfn⟩:=hP;refine call call86 rfl rfl rfl (λW hS=>Yo (ao bn) 4 4 W) ?_;exact zHh
   exact zdg
  intro cv L' H' hl hP;obtain⟨v1,v2,v3,rfl⟩:=mB hl;obtain⟨bn,mN,rfl,rfl,rfl,rfl,rfl,hfn,uJ⟩:=hP;refine kg (r:=r2) (xs:=ri) (zs:=[((bn,4):El)]) (enc:=jz 4) (m:=4) (H0:=[(mN,oC (dG (.slice (ao bn) 4 4)) 200),(bn,oC (nL (uG x)++[]).toArray 200),(b9,oC (yQ x) 110),(b5,oC (dG (aj)) 200),(b4,oC (dG (r2.val ri.length)) 200),(b3,oC (dG (r1.val iR.length)) 200)]) (H1:=[]) rfl Yp (NN 4) rfl rfl rfl rfl (cd.one (z:=((bn,4):El)) (NN 4) (n1g 4) underlying134 (bB.own (i:=0) rfl)) ah aK zI Au ?_;intro br cr sr jA rh;refine B 1 ?_;refine kY (i:=4) rfl sizeOf134 rfl rfl rfl rfl (ea rfl) rfl ?_;refine B 7 ?_;refine PJ.reH (H':=[(mN,oC (dG (.slice (ao bn) 4 4)) 200),(bn,oC (nL (uG x)++[]).toArray 200),(b9,oC (yQ x) 110),(b5,oC (dG (aj)) 200),(b4,oC (dG ((Rw.row br cr sr).val (ri++[((bn,4):El)]).length)) 200),(b3,oC (dG (r1.val iR.length)) 200)]++((br,aP (jz 4) 200 (ri++[((bn,4):El)]) sr)::[])) rfl ?_;refine U0 ?_;refine PJ.fz [(bn,oC (nL (uG x)++[]).toArray 200)] (H':=[(b9,oC (yQ x) 110),(b5,oC (dG (aj)) 200),(b4,oC (dG ((Rw.row br cr sr).val (ri++[((bn,4):El)]).length)) 200),(b3,oC (dG (r1.val iR.length)) 200)]++((br,aP (jz 4) 200 (ri++[((bn,4):El)]) sr)::[])) (List.Perm.refl _) zac ?_;refine p5 ?_;refine ag (((Rw.row br cr sr,(ri++[((bn,4):El)])),(bn,oC (nL (uG x)++[]).toArray 200)::F2),j2+1) ⟨by dsimp only;omega,jA.elim (λh=>Rw.Fr_at aK h) (λh=>.inr h),rh,by dsimp only;rw[n2f uG hx];exact sO.snoc (λp hp=>.tail _ hp) rfl rfl (ak _) A0,λq hq=>.tail _ (Az q hq)⟩
 intro aN;refine B 7 ?_;have EL:c.bxs.take j2=c.bxs:=jZ aa;rw[EL]at sO;have eG:=ah;refine CJ.fz (r2.hp (jz 4) 200 ri) (H':=[(b5,oC (dG (aj)) 200),(b4,oC (dG (r2.val ri.length)) 200),(b3,oC (dG (r1.val iR.length)) 200)]) Yr (Rw.fz_above aK) ?_;refine B 8 ?_;refine CJ.loop (α:=((Rw×List El)×ad)×Nat) (λp=>[(1,ptr b1 0),(3,ptr b3 0),(4,ptr b4 0),(5,ptr b5 0),(71,.slice c.wa c.wes.length c.wc),(72,ab (c.wes.length:Int)),(73,ab (p.2:Int))]) (λp=>[(b5,oC (dG (p.1.1.1.val p.1.1.2.length)) 200),(b4,oC (dG (r2.val ri.length)) 200),(b3,oC (dG (r1.val iR.length)) 200)]++(p.1.1.1.hp (jz 3) 200 p.1.1.2++[])) (λp=>[w1,w]) (λp=>dL p.1.2) (λp=>p.2<=c.wes.length/\p.1.1.1.Fr (dL p.1.2) [w1,w]/\p.1.1.1.Fit 4 p.1.1.2/\iK p.1.2 3 p.1.1.2 ((c.wes.take p.2).map uH)/\∀q∈(r2.hp (jz 4) 200 ri++F2),q∈p.1.2) (λp=>c.wes.length-p.2) (((.nil,[]),(r2.hp (jz 4) 200 ri++F2)),0) ⟨cR _,True.intro,rfl,iK.nil,λq h=>h⟩ zR rfl rfl zI ?_;rintro⟨⟨⟨r3,uK⟩,F3⟩,j3⟩ ⟨hj,aK,ah,BO,AA⟩;dsimp only at hj aK ah BO AA ⊢;have bG:r3.ge w1.heap.size:=Rw.ge_fz aK A0;have hel:uK.length<=50:=by rw[BO.1,eQ,lb];omega
 refine B 6 ?_;refine aG ?_ ?_
 ·intro dp;refine B 5 ?_;obtain⟨bo,oo,cs0,to,fV,im,fP,cJ,aV⟩:=KA.get aa;obtain⟨x,hx⟩:=ng c.wes j3 aa;rw[im];have hq:=λ(k:Nat)=>Rw.mem_ge (enc:=jz 3) (t:=200) (xs:=uK) (k:=k) bG;have qC:gy N w x.w.ba x.w.body:=hC.wb x (cO hx);refine B 2 ?_;refine ay (.agg (v7 x)) ?_;refine B 1 ?_;refine yW ?_;intro gR yq Dq;refine B 3 ?_;refine CJ.less (E':=[(1,_),(3,_),(4,_),(5,_),(11,_),(71,_),(72,_),(73,_),(74,_),(75,_),(76,_)]) zR ?_;refine CJ.chn 16 [13,14,15] [_,_,_,_,_,_,_,_,_,_,_,_,some (vT (qg x.w.body)),none,none,none] (λcv L' H'=>let dY:ad:=[(gR,oC (v7 x) 114),(b5,oC (dG (r3.val uK.length)) 200),(b4,oC (dG (r2.val ri.length)) 200),(b3,oC (dG (r1.val iR.length)) 200)]++(r3.hp (jz 3) 200 uK++[]);match cv with| []=>L'=[w1,w]/\H'=dY| [v1]=>∃(bn:Nat),v1= .slice (ao bn) 3 3/\L'=[w1,w]/\H'=(bn,oC (nL (uH x)++[]).toArray 200)::dY/\ae [w1,w] bn| [v1,v2]=>∃(bn:Nat),v1= .slice (ao bn) 3 3/\v2=vL (ao bn) 3 3/\L'=[w1,w]/\H'=(bn,oC (nL (uH x)++[]).toArray 200)::dY/\ae [w1,w] bn| [v1,v2,v3]=>∃(bn:Nat) (mN:Nat),v1= .slice (ao bn) 3 3/\v2=vL (ao bn) 3 3/\v3= .slice (ao mN) 1 1/\L'=[w1,w]/\H'=(mN,oC (dG (.slice (ao bn) 3 3)) 200)::(bn,oC (nL (uH x)++[]).toArray 200)::dY/\ae [w1,w] bn/\ae [w1,w] mN|_=>False) (pc WV (pc xx (pc (by exact λcv L' H' hd hP=>X.v (bP underlying114 rfl sizeOf3 rfl)) (pc xx (pc z2 (pc (by exact λcv L' H' hd hP=>X.v (bP underlying114 rfl sizeOf108 rfl)) (pc z7b (pc xx (pc z2 (pc (by exact λcv L' H' hd hP=>X.v (bP underlying114 rfl sizeOf108 rfl)) (pc z4b (pc xx (pc xx (pk (pk (pk (pn))))))))))))))))) ?_ ?_
  ·refine ss rfl ?_ ?_
   ·exact zog
   refine ss rfl ?_ ?_
   ·intro cv L' H' hl hP F Q' hk;obtain⟨v1,rfl⟩:=iZ hl;obtain⟨bn,rfl,rfl,rfl,hfn⟩:=hP;refine call call86 rfl rfl rfl (λW hS=>Yo (ao bn) 3 3 W) ?_;exact zHh
   exact zdg
  intro cv L' H' hl hP;obtain⟨v1,v2,v3,rfl⟩:=mB hl;obtain⟨bn,mN,rfl,rfl,rfl,rfl,rfl,hfn,uJ⟩:=hP;refine kg (r:=r3) (xs:=uK) (zs:=[((bn,3):El)]) (enc:=jz 3) (m:=4) (H0:=[(mN,oC (dG (.slice (ao bn) 3 3)) 200),(bn,oC (nL (uH x)++[]).toArray 200),(gR,oC (v7 x) 114),(b5,oC (dG (r3.val uK.length)) 200),(b4,oC (dG (r2.val ri.length)) 200),(b3,oC (dG (r1.val iR.length)) 200)]) (H1:=[]) rfl Yp (NN 3) rfl rfl rfl rfl (cd.one (z:=((bn,3):El)) (NN 3) (n1g 3) underlying134 (bB.own (i:=0) rfl)) ah aK zI Au ?_;intro br cr sr jA rh;refine B 1 ?_;refine kY (i:=3) rfl sizeOf134 rfl rfl rfl rfl (ea rfl) rfl ?_;refine B 7 ?_;refine PJ.reH (H':=[(mN,oC (dG (.slice (ao bn) 3 3)) 200),(bn,oC (nL (uH x)++[]).toArray 200),(gR,oC (v7 x) 114),(b5,oC (dG ((Rw.row br cr sr).val (uK++[((bn,3):El)]).length)) 200),(b4,oC (dG (r2.val ri.length)) 200),(b3,oC (dG (r1.val iR.length)) 200)]++((br,aP (jz 3) 200 (uK++[((bn,3):El)]) sr)::[])) rfl ?_;refine U0 ?_;refine PJ.fz [(bn,oC (nL (uH x)++[]).toArray 200)] (H':=[(gR,oC (v7 x) 114),(b5,oC (dG ((Rw.row br cr sr).val (uK++[((bn,3):El)]).length)) 200),(b4,oC (dG (r2.val ri.length)) 200),(b3,oC (dG (r1.val iR.length)) 200)]++((br,aP (jz 3) 200 (uK++[((bn,3):El)]) sr)::[])) (List.Perm.refl _) zac ?_
  refine p5 ?_;refine ag (((Rw.row br cr sr,(uK++[((bn,3):El)])),(bn,oC (nL (uH x)++[]).toArray 200)::F3),j3+1) ⟨by dsimp only;omega,jA.elim (λh=>Rw.Fr_at aK h) (λh=>.inr h),rh,by dsimp only;rw[n2f uH hx];exact BO.snoc (λp hp=>.tail _ hp) rfl rfl (ak _) A0,λq hq=>.tail _ (AA q hq)⟩
 intro dp;refine B 6 ?_;have Ys:c.wes.take j3=c.wes:=jZ aa;rw[Ys]at BO;have mD:=ah;refine CJ.fz (r3.hp (jz 3) 200 uK) (H':=[(b5,oC (dG (r3.val uK.length)) 200),(b4,oC (dG (r2.val ri.length)) 200),(b3,oC (dG (r1.val iR.length)) 200)]) Yr (Rw.fz_above aK) ?_;refine CJ.less (E':=[(1,_),(3,_),(4,_),(5,_),(71,_),(72,_),(73,_),(74,_)]) zR ?_;refine CJ.chn 30 [15,16] [_,_,_,_,_,_,_,_,some (vT (qg (cx c.par))),_,_,_,some (.agg (dG (r1.val iR.length))),_,_,none,none,some (.agg (dG (r2.val ri.length))),some (.agg (dG (r3.val uK.length))),_,_,some (vT (qg (cx c.conf))),_,_,_,_,_,_,_,_] (λcv L' H'=>let dY:ad:=[(b5,oC (dG (r3.val uK.length)) 200),(b4,oC (dG (r2.val ri.length)) 200),(b3,oC (dG (r1.val iR.length)) 200)];match cv with| []=>L'=[w1,w]/\H'=dY| [v1]=>∃(xy:Rw),v1=xy.val c.path.length/\L'=[w1,w]/\H'=dY++(xy.hp uF 200 c.path++[])/\xy.ge w1.heap.size/\xy.Fit 4 c.path| [v1,v2]=>∃(xy:Rw),v1=xy.val c.path.length/\v2= .agg (dG (xy.val c.path.length))/\L'=[w1,w]/\H'=dY++(xy.hp uF 200 c.path++[])/\xy.ge w1.heap.size/\xy.Fit 4 c.path|_=>False) (pc Yt (pc EM (pc z2 (pc Yt (pc EM (pc z2 (pc (by exact λcv L' H' hd hP=>X.v (bP underlying61 rfl sizeOf33 rfl)) (pc zXb (pc EM (pc Yt (pc EM (pc z2 (pc EM (pc z6b (pc EM (pk (pk (pc EM (pc EM (pc (by exact λcv L' H' hd hP=>X.v (bP underlying61 rfl sizeOf33 rfl)) (pc zXb (pc EM (pc (by exact λcv L' H' hd hP=>X.v (bP underlying61 rfl sizeOf59 rfl)) (pc z8b (pc EM (pc z2 (pc (by exact λcv L' H' hd hP=>X.v (bP underlying61 rfl sizeOf59 rfl)) (pc z8b (pc EM (pc z2 (pn))))))))))))))))))))))))))))))) ?_ ?_
 ·refine ss rfl ?_ ?_
  ·intro cv L' H' hl hP F Q' hk;obtain rfl:=lN hl;obtain⟨rfl,rfl⟩:=hP;refine UI (enc:=uF) (m:=4) (t:=200) (xs:=c.path) (v:=id) (first:=[]) (cap:=[]) rfl call88 rfl rfl rfl (λW hS=>nji c.path aa N c.pa c.pc W cM (oX.up (ak _) (λk hk=>(hS.links w A1).block k aa (λhx=>by rcases hx with hx|hx;(exact hx);simp only[dy,eV,bX,dE,or_false]at hx;omega)))) ?_;intro r_ UZ fJ;exact OJ.done (hk _ _ _ ⟨r_,rfl,rfl,rfl,Rw.ge_fz UZ A0,fJ⟩)
  refine ss rfl ?_ ?_
  ·intro cv L' H' hl hP F Q' hk;obtain⟨v1,rfl⟩:=iZ hl;obtain⟨xy,rfl,rfl,rfl,rj,rk⟩:=hP;refine call call86 rfl rfl rfl (λW hS=>EJ W) ?_;exact OJ.done (hk _ _ _ ⟨xy,rfl,rfl,rfl,rfl,rj,rk⟩)
  exact nn
 intro cv L' H' hl hP;obtain⟨v1,v2,rfl⟩:=pX hl;obtain⟨xy,rfl,rfl,rfl,rfl,rj,rk⟩:=hP;refine Yq ?_;refine yW ?_;intro Yu amv amw;refine B 4 ?_;refine bK (.inl rfl) results45 aX λW hS=>⟨Yu,rfl,(hS.links w A1).below (λk hk hx=>by rcases hx with hx|hx;(exact hx);simp only[gz,dy,eV,ig,eL,eb,bj,bX,dE,or_false]at hx;rcases hx with hx|hx|hx|hx|hx<;>first|omega|(have:=Rw.mem_ge rj hx;omega)),by omega,?_⟩;have hF:∀p∈(r3.hp (jz 3) 200 uK++F3),p.1<W.heap.size/\W.heap[p.1]? =some p.2:=λp hp=>⟨(aT.1 (hS.fzAt p hp)).1,hS.fzAt p hp⟩;have hb:=hS.own (Yu,_) A0;have h15:∀p∈xy.hp uF 200 c.path,p.1<W.heap.size/\W.heap[p.1]? =some p.2:=λp hp=>by have h:=hS.own p (by simp[hp]);exact⟨(aT.1 h).1,h⟩
 have i3:∀p∈F3,p∈(r3.hp (jz 3) 200 uK++F3):=λp hp=>bj.2 (.inr hp);have i2:∀p∈F2,p∈(r3.hp (jz 3) 200 uK++F3):=λp hp=>i3 p (AA p (bj.2 (.inr hp)));have i1:∀p∈F1,p∈(r3.hp (jz 3) 200 uK++F3):=λp hp=>i2 p (Az p (bj.2 (.inr hp)));have v1:=iK.vat (t:=200) (pd.up i1) hF (λp hp=>i2 p (Az p (bj.2 (.inl hp)))) iq;have v2x:=iK.vat (t:=200) (sO.up i2) hF (λp hp=>i3 p (AA p (bj.2 (.inl hp)))) eG;have v3x:=iK.vat (t:=200) (BO.up i3) hF (λp hp=>bj.2 (.inl hp)) mD;have vp:=EH (t:=200) h15 rk;exact nJl (mM c) (ak 11) hb (aT.1 hb).1 (sN (ea rfl) (IC _ _ _) (sN (ea rfl) (IC _ _ _) (sN (ea rfl) (UX _ _ _) (sN (ea rfl) (IC _ _ _) (sN (ea rfl) v1 (sN (ea rfl) vp (sN (ea rfl) v2x (sN (ea rfl) v3x (sN (ea rfl) (UX _ _ _) (sN (ea rfl) (IC _ _ _) (sN (ea rfl) (IC _ _ _) (nsl))))))))))))
theorem V.fineL_take{l:List V}(h:V.fineL l):∀k,V.fineL (l.take k):=by
 induction l with
 |nil=>intro k;simp[V.fineL]
 |cons x l ih=>
  intro k;cases k with
  |zero=>simp[V.fineL]
  |succ k=>simp only[Yv,V.fineL]at h ⊢;exact⟨h.1,ih h.2 k⟩
theorem V.depthL_take_le(l:List V):∀k,V.depthL (l.take k)<=V.depthL l:=by
 induction l with
 |nil=>intro k;simp
 |cons x l ih=>
  intro k;cases k with
  |zero=>simp[V.depthL]
  |succ k=>simp only[Yv,V.depthL];have:=ih k;omega
theorem Yw(n:Nat)(hn:n<=100):∀ls:List (List V),(∀l∈ls,l.all vn=true/\l.length<=n)->V.fineL (ls.map V.list)->(V.encL (ls.map V.list)).length<=ls.length*(n*1000000020+11)/\V.depthL (ls.map V.list)<=1
 | [],_,_=>by simp[V.encL,V.depthL]
 |l::ls,h,hf=>by
  simp only[dy,V.fineL,V.fine]at hf;obtain⟨h1,h2⟩:=Yw n hn ls (λl' hl'=>h l' (by simp[hl'])) hf.2;obtain⟨h3,h4⟩:=h l zI;obtain⟨h5,h6⟩:=n9e l h3 hf.1.2.2;have h7:=Cp (u:=l.length) aa;have h8:l.length*1000000020<=n*1000000020:=wg _ h4;simp only[dy,V.encL,V.depthL,V.enc,V.depth,cy,dF,h6,pK];refine⟨by omega,by omega⟩
theorem QU(c:Cm)(rf:ra c)(hf:V.fineL (mM c)):(V.encL (mM c)).length<=700000000000/\V.depthL (mM c)<=2:=by
 have f1:=rf.chs;have f2:=rf.path;have f3:=rf.bxs;have f4:=rf.wes;simp only[mM,V.fineL]at hf;obtain⟨g1,g2,g3,g4,g5,g6,g7,g8,g9,g10,g11,_⟩:=hf;have e5:=Yw 5 zA (c.chs.map BN) (λl hl=>by obtain⟨x,_,rfl⟩:=bW.1 hl;exact⟨rfl,ak 5⟩) (by simp only[V.fine]at g5;exact g5.2.2);have e7:=Yw 4 zA (c.bxs.map uG) (λl hl=>by obtain⟨x,_,rfl⟩:=bW.1 hl;exact⟨rfl,ak 4⟩) (by simp only[V.fine]at g7;exact g7.2.2);have e8:=Yw 3 zA (c.wes.map uH) (λl hl=>by obtain⟨x,_,rfl⟩:=bW.1 hl;exact⟨rfl,ak 3⟩) (by simp only[V.fine]at g8;exact g8.2.2);have e6:=n9e (c.path.map V.int) (by simp[vn]) (by simp only[V.fine]at g6;exact g6.2.2);have i1:=Bw _ rfl g1;have i2:=Bw _ rfl g2;have i3:=Bw _ rfl g3;have i4:=Bw _ rfl g4;have i9:=Bw _ rfl g9;have i10:=Bw _ rfl g10;have i11:=Bw _ rfl g11;have n5:=Cp (u:=((c.chs.map BN).map V.list).length) oN;have n6:=Cp (u:=(c.path.map V.int).length) oN;have n7:=Cp (u:=((c.bxs.map uG).map V.list).length) oN;have n8:=Cp (u:=((c.wes.map uH).map V.list).length) oN;have m5:(c.chs.map BN).length*(5*1000000020+11)<=10*(5*1000000020+11):=wg _ (by rw[eQ];exact f1);have m6:(c.path.map V.int).length*1000000020<=12*1000000020:=wg _ (by rw[eQ];exact f2);have m7:(c.bxs.map uG).length*(4*1000000020+11)<=40*(4*1000000020+11):=wg _ (by rw[eQ];exact f3)
 have m8:(c.wes.map uH).length*(3*1000000020+11)<=10*(3*1000000020+11):=wg _ (by rw[eQ];exact f4);have l5:(V.list ((c.chs.map BN).map V.list)).enc.length<=11+(V.encL ((c.chs.map BN).map V.list)).length:=by simp only[V.enc,dF,cy];omega
 have l6:(V.list (c.path.map V.int)).enc.length<=11+(V.encL (c.path.map V.int)).length:=by simp only[V.enc,dF,cy];omega
 have l7:(V.list ((c.bxs.map uG).map V.list)).enc.length<=11+(V.encL ((c.bxs.map uG).map V.list)).length:=by simp only[V.enc,dF,cy];omega
 have l8:(V.list ((c.wes.map uH).map V.list)).enc.length<=11+(V.encL ((c.wes.map uH).map V.list)).length:=by simp only[V.enc,dF,cy];omega
 refine⟨?_,?_⟩
 ·unfold mM;simp only[V.encL,cy,fh];omega
 unfold mM;simp only[V.depthL,V.depth,e6.2];have d5:=e5.2;have d7:=e7.2;have d8:=e8.2;omega
theorem Yx(c:Cm)(rf:ra c)(hf:V.fineL (mM c))(k:Nat):(V.list ((mM c).take k)).fine/\(V.list ((mM c).take k)).depth<=16/\(V.list ((mM c).take k)).enc.length<=800000000000:=by grind [QU,V.depthL_take_le,mM,V.encL_take_le,Cp,V.fine,V.fineL_take,V.depth,V.enc,List.length_cons]
theorem nCk{N:Nat}{w:World}{cs:Array Value}:∀{l:List V} {off:Nat} (k:Nat),gL N w cs off l->gL N w cs off (l.take k)
 | [],off,k,h=>by simpa using h
 |x::l,off,0,h=>by simp[gL]
 |x::l,off,k+1,h=>by
  simp only[Yv,gL]at h ⊢;exact⟨h.1,h.2.1,nCk k h.2.2⟩
theorem n4l{b cap:Nat}{l:List V}(hn:l.length=n)(hn0:0<n)(k:Nat)(hk:k<=n)(h:eX N w (.list l) (vL (ao b) n cap)):eX N w (.list (l.take k)) (vL (ao b) k cap):=by grind [eX,nCk]
theorem nHe{Z:Fx}(hZ:FxOk Z)(s:ByteArray)(hs0:s.size<1000)(l:List V)(dO:(V.list l).fine)(hd:(V.list l).depth<=16)(iX:(V.list l).enc.length<=800000000000)(N bl lc:Nat)(w:World)(hN:N<=w.heap.size)(xk:eX N w (.list l) (vL (ao bl) l.length lc))(hg:Glb w):Calls prog 44 #[.string s,.slice (ao bl) l.length lc] w (aL w (.agg (dg (Z.tg s (V.list l).enc)))):=by
 have hg4:=hg.lt;obtain⟨df,kO⟩:∃df,Z.tg s (V.list l).enc=df:=⟨_,rfl⟩;refine eN func44 ntmps44 ?_;refine B 3 ?_;refine yW ?_;intro b4 ji jj;refine B 5 ?_;refine z8d ?_;refine z5d ?_;intro gB Ik JD lY p6 ag3 yx;replace lY:=yb lY;replace p6:=yd p6;refine B 11 ?_;refine zWd ?_;refine B 4 ?_;refine cC (.inl rfl) results44 aX A0 zB ?_;rw[kO];rfl
def aB (Z:Fx) (c:Cm):Nat->Int:=Z.tg (⟨#[99,111,109,109,105,116]⟩:ByteArray) (V.list (mM c)).enc
def mP (Z:Fx) (c:Cm):Nat->Int:=Z.tg (⟨#[99,111,109,109,105,116,32,115,105,103,110]⟩:ByteArray) (V.list ((mM c).take 9)).enc
structure bO (c:Cm):Prop where
 few:ra c
 fine:V.fineL (mM c)
theorem Yy{Z:Fx}(hZ:FxOk Z)(c:Cm)(dC:bO c)(N:Nat)(w:World)(hN:N<=w.heap.size)(hC:du N w c)(hg:Glb w):Calls prog 23 #[.agg (cG c)] w (aL w (.agg (dg (aB Z c)))):=by
 have hg4:=hg.lt;obtain⟨df,kO⟩:∃df,aB Z c=df:=⟨_,rfl⟩;have uL:=Yx c dC.few dC.fine 11;have e11:(mM c).take 11=mM c:=rfl;rw[e11]at uL;refine eN func23 ntmps23 ?_;refine B 2 ?_;refine yX ?_;intro b1 w1 hb1 cF gK gj jy;refine B 1 ?_;refine yW ?_;intro b2 dB dx;refine B 4 ?_;refine ay (.agg (cG c)) ?_;refine zGd ?_;rintro W5 b5 w5 U1 hB5 ⟨hq5,hv5⟩;have Yz:=U1.sizes;replace Yz:=yb Yz;have ag4:=hB5.size;have hU5:=U1.under;simp only[Ia,dm,dX,and_true]at hU5;have ag6:=(hB5.block b2 aa).trans (U1.own _ A0);refine call call44 rfl rfl rfl (λW hS=>by rw[<-kO];exact nHe hZ (⟨#[99,111,109,109,105,116]⟩:ByteArray) zA (mM c) uL.1 uL.2.1 uL.2.2 w5.heap.size b5 11 W (hS.links w5 A0).size (eX.up (ak _) (λk hk=>by by_cases e2:k=b2;(rw[e2,ag6];exact hS.own _ A0);exact(hS.links w5 A0).block k hk (λhx=>by rcases hx with hx|hx;(exact hx);simp at hx;exact e2 hx)) _ _ hv5) (hg.old hS A2 zH zD)) (v:=.agg (dg df)) ?_;refine B 4 ?_;refine cC (.inl rfl) results23 aX A2 zB ?_;rw[kO];rfl
theorem ntc{Z:Fx}(hZ:FxOk Z)(c:Cm)(dC:bO c)(N:Nat)(w:World)(hN:N<=w.heap.size)(hC:du N w c)(hg:Glb w):Calls prog 147 #[.agg (cG c)] w (cK w (λb:Nat=>.slice (ao b) 32 32) (λb w1=>w.heap.size<=b/\w1.heap[b]? =some (oC (dg (mP Z c)) 33))):=by
 have hg4:=hg.lt;obtain⟨df,kO⟩:∃df,mP Z c=df:=⟨_,rfl⟩;have uL:=Yx c dC.few dC.fine 9;refine eN func147 ntmps147 ?_;refine B 2 ?_;refine yX ?_;intro b1 w1 hb1 cF gK gj jy;refine B 5 ?_;refine ay (.agg (cG c)) ?_;refine zGd ?_;rintro W5 b5 w5 U1 hB5 ⟨hq5,hv5⟩;have Yz:=U1.sizes;replace Yz:=yb Yz;have ag4:=hB5.size;have hU5:=U1.under;simp only[Ia,dm,dX,and_true]at hU5;refine rv rfl rfl rfl (fE (h:=9) underlying134 sizeOf200 rfl ⟨_,_,rfl,rfl⟩ aa) ?_;refine call call44 rfl rfl rfl (λW hS=>by rw[<-kO];exact nHe hZ (⟨#[99,111,109,109,105,116,32,115,105,103,110]⟩:ByteArray) zA ((mM c).take 9) uL.1 uL.2.1 uL.2.2 w5.heap.size b5 11 W (hS.links w5 A0).size (eX.up (ak _) (hS.same A0 (ak _) zH trivial) _ _ (n4l (n:=11) rfl zA 9 zA hv5)) (hg.old hS A2 zH zD)) (v:=.agg (dg df)) ?_;refine B 1 ?_;refine yW ?_;intro b3 ez eP;refine B 5 ?_;refine zke ?_;refine B 4 ?_;exact bK (.inl rfl) results147 aX (λW hS=>⟨b3,rfl,hS.base A2 zB,by omega,by rw[kO];exact hS.own _ A0⟩)
def kP (g:Gp) (au:Int) (l:List Ch):Int:=if ij g.ms au=true then((g.ms[o8 g.ms au]?).map (·.ver)).getD 0 else((l[0]?).map (·.ver)).getD 0
theorem ngm{g:Gp}{au:Int}{x:Mb}(h:ij g.ms au=true)(hx:g.ms[o8 g.ms au]? =some x):x.ver=kP g au l:=by unfold kP;rw[if_pos h,hx];rfl
theorem ngo{g:Gp}{au:Int}(h:ij g.ms au=false)(hx:l[0]? =some x):x.ver=kP g au l:=by unfold kP;rw[if_neg (by rw[h];decide),hx];rfl
theorem nHc(G:Gv)(N:Nat)(w:World)(hN:N<=w.heap.size)(hG:bS N w G)(l:List Ch)(hxl:l.length<=1000000)(a:Option Addr)(cp:Nat)(aJ:ai gC 5 N w a l)(au:Int)(H6:ij G.g.ms au=false->0<l.length):Calls prog 135 #[.agg (bD G),ab au,.slice a l.length cp] w (aL w (ab (kP G.g au l))):=by
 refine eN func135 ntmps135 ?_;refine B 2 ?_;refine yX ?_;intro b3 w3 cZ cu fC ez eP;refine B 6 ?_;refine ay (.agg (bD G)) ?_;refine B 1 ?_;refine call call199 rfl rfl rfl (λW hS=>nMd G N W cM (hG.up (ak _) hS.sm) au) ?_;refine B 12 ?_;refine aG ?_ ?_
 ·intro ar;refine B 1 ?_;have hmn:=hG.mn;have hlt:=Ko eE;have Ef:=hG.ms;obtain⟨bo,oo,cs0,to,fV,im,fP,cJ,aV⟩:=Ef.get aa;obtain⟨x,hx⟩:=ng G.g.ms (o8 G.g.ms au) hlt;refine B 2 ?_;refine rq (.slice (some ⟨bo,oo,none⟩) G.g.ms.length G.mc) (av isAgg48 rfl A0 cZ cu trivial rfl) (congrArg (λq=>Value.slice q G.g.ms.length G.mc) im) ?_;refine B 3 ?_;refine rv rfl rfl rfl (av (v:=ab x.ver) isAgg3 rfl A1 cJ zJ trivial (by have:=xv aV hx rfl 2 zA;simpa[qd]using this)) ?_;refine B 5 ?_;exact zIh
 intro ar;refine B 3 ?_;have mr:=H6 yN;obtain⟨bo,oo,cs0,to,fV,rfl,fP,cJ,aV⟩:=aJ.get aa;obtain⟨x,hx⟩:=ng l 0 aa;refine B 4 ?_;refine rv rfl rfl rfl (av (v:=ab x.ver) isAgg3 rfl A1 cJ zJ trivial (by have:=xv aV hx (i:=0) rfl 3 zA;simpa[gC]using this)) ?_;refine B 4 ?_;exact zIh
end Px
