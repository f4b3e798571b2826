/- Contracts of functions of the program. No condition beyond those stated. -/
import Derived.Test.YtodpaegknpbomaaGreatDoorKb
import Derived.Test.YtodpaegknpbomaaGreatDoorProg
import Derived.Test.YtodpaegknpbomaaGreatDoorLa
set_option linter.unusedSimpArgs false
set_option linter.unusedVariables false
set_option linter.unusedSectionVars false
set_option linter.unnecessarySimpa false
set_option maxRecDepth 20000
set_option maxHeartbeats 8000000
namespace Px
open Go Go.RowKit Go.Proofs Go.Proofs.Tryz
structure Mb where
 dev:Int
 since:Int
 ver:Int
def pZ (x:Mb):Array Value:=#[ab x.dev,ab x.since,ab x.ver]
def ov (x:Mb):List Value:=[ab x.dev,ab x.since,ab x.ver]
structure Ch where
 kind:Int
 dev:Int
 pub:Int
 ver:Int
 cut:Int
def gh (x:Ch):Array Value:=#[ab x.kind,ab x.dev,ab x.pub,ab x.ver,ab x.cut]
def my (x:Ch):List Value:=[ab x.kind,ab x.dev,ab x.pub,ab x.ver,ab x.cut]
theorem BR(x:Mb):(ov x).length=3:=rfl
theorem BS(x:Ch):(my x).length=5:=rfl
theorem nuh(x:Mb):∀u∈ov x,u.oneCell'=true:=by intro u hu;simp[ov]at hu;rcases hu with rfl|rfl|rfl<;>rfl
theorem n4j(x:Ch):∀u∈my x,u.oneCell'=true:=by intro u hu;simp[my]at hu;rcases hu with rfl|rfl|rfl|rfl|rfl<;>rfl
theorem Kk:prog.info? 131=some Tryz.t131:=by kernel_rfl
theorem Kl:prog.info? 99=some Tryz.t99:=by kernel_rfl
def cZ (a b:Int):Int:=if a<b then -1 else if b<a then 1 else 0
abbrev p7 (f:Int):Prop:=0<=f/\f<16
variable {cs:Array Value} {d:Int} {ls:List (List V)} {ns:List Nd} {L:List World} {N i j n t:Nat} {fr:Nat×Nat} {a:Option Addr} {w:World}
theorem nqd{α:Type}{p:α->Bool}{xs:List α}(h:∀i x,i<j->xs[i]? =some x->p x=false)(hj:¬j<xs.length):xs.any p=false:=by
 rw[List.any_eq_false];intro x hx;obtain⟨i,hi⟩:=kA.1 hx;all_goals grind
def gL {α:Type} (p:α->Bool) (xs:List α) (j:Nat):Prop:=∀i x,i<j->xs[i]? =some x->p x=false
theorem gL.next{α:Type}{p:α->Bool}{xs:List α}{x:α}(h:gL p xs j)(hx:xs[j]? =some x)(hp:p x=false):gL p xs (j+1):=by
 exact zQh
def eR {α:Type} (p:α->Bool) (xs:List α) (i:Int):Prop:=(i= -1/\xs.any p=false)\/∃(k:Nat) (x:α),i=(k:Int)/\xs[k]? =some x/\p x=true/\gL p xs k
theorem eR.any{α:Type}{p:α->Bool}{xs:List α}{i:Int}(h:eR p xs i):decide (0<=i)=xs.any p:=by
 rcases h with⟨rfl,h⟩|⟨k,x,rfl,hx,hp,_⟩;all_goals grind
def CL (xs:List Mb) (d:Int) (i j:Nat):Nat:=
 if h:i<j then(if((xs[(i+j)/2]?).map (·.dev)).getD 0<d then CL xs d ((i+j)/2+1) j else CL xs d i ((i+j)/2))else i
termination_by j-i
decreasing_by all_goals omega
variable {xs:List Mb}
theorem Qx{x:Mb}(h:i<j)(hx:xs[(i+j)/2]? =some x)(hd:x.dev<d):CL xs d i j=CL xs d ((i+j)/2+1) j:=by
 rw[CL,dif_pos h,hx];simp[hd]
theorem Qy{x:Mb}(h:i<j)(hx:xs[(i+j)/2]? =some x)(hd:¬x.dev<d):CL xs d i j=CL xs d i ((i+j)/2):=by
 rw[CL,dif_pos h,hx];simp[hd]
theorem Qz(h:¬i<j):CL xs d i j=i:=by rw[CL,dif_neg h]
theorem nbj(a b:Int):cZ a b<0↔a<b:=by unfold cZ;split<;>(try split)<;>omega
theorem Km(a b:Int):cZ a b=0↔a=b:=by unfold cZ;split<;>(try split)<;>omega
def oV (xs:List Mb) (d:Int):Nat:=CL xs d 0 xs.length
def gS (xs:List Mb) (d:Int):Bool:=decide (((xs[oV xs d]?).map (·.dev))=some d)
theorem nqm{x:Mb}(h:oV xs d=i)(hx:xs[i]? =some x):decide (cZ x.dev d=0)=gS xs d:=by
 unfold gS;rw[h,hx];simp[Km]
theorem nfj(h:oV xs d=i)(hi:¬i<xs.length):false=gS xs d:=by
 unfold gS;rw[h,List.getElem?_eq_none aa];simp
theorem Ko(h:gS xs d=true):oV xs d<xs.length:=by grind [oV,nfj]
theorem nwl(f:Int)(w:World):Calls prog 217 #[ab f] w (aM w (.bool (decide (p7 f)))):=by
 refine eN func217 ntmps217 ?_;refine B 10 ?_;refine ni (t:=5) rfl (λar=>?_) (λar=>?_)
 ·exact zvh
 exact zvh
theorem UG(f:Int)(w:World):Calls prog 222 #[ab f] w (aM w (.bool (decide (dW f)))):=by
 refine eN func222 ntmps222 ?_;refine B 10 ?_;refine ni (t:=5) rfl (λar=>?_) (λar=>?_)
 ·exact zuh
 exact zuh
theorem nek(f:Int)(w:World):Calls prog 169 #[ab f] w (aM w (bG)):=by
 refine eN func169 ntmps169 ?_;refine B 14 ?_;refine aF results169 rfl A0 ?_;exact vb zJ
theorem nbh(a b:Int)(w:World):Calls prog 103 #[ab a,ab b] w (aM w (ab (cZ a b))):=by
 refine eN func103 ntmps103 ?_;refine B 8 ?_;refine call call169 rfl rfl rfl (λW hS=>nek _ W) (v:=.bool false) ?_;refine B 6 ?_;refine call call169 rfl rfl rfl (λW hS=>nek _ W) (v:=.bool false) ?_;refine B 29 ?_;refine aG ?_ ?_
 ·intro ar;refine B 7 ?_;exact zKh
 intro ar;refine B 10 ?_;refine aG ?_ ?_
 ·intro aN;refine B 7 ?_;exact zKh
 intro aN;refine B 8 ?_;exact zKh
theorem nll(x:Mb)(d:Int)(w:World):Calls prog 264 #[.agg (pZ x),ab d] w (aM w (ab (cZ x.dev d))):=by
 refine eN func264 ntmps264 ?_;refine B 2 ?_;refine yX ?_;intro b2 w2 da bW eU dx dq;refine B 8 ?_;refine call call103 rfl rfl rfl (λW hS=>nbh _ _ W) ?_;refine B 4 ?_;refine aF results264 rfl A1 ?_;rfl
theorem n3o(xs:List Mb)(hxl:xs.length<=1000000)(N:Nat)(a:Option Addr)(cp:Nat)(w:World)(hN:N<=w.heap.size)(aJ:ai pZ 3 N w a xs)(d:Int):Calls prog 263 #[.slice a xs.length cp,ab d,.func (.func 264) #[] #[]] w (aM w (.tuple #[ab (oV xs d:Int),.bool (gS xs d)])):=by
 refine eN func263 ntmps263 ?_;refine B 22 ?_;refine CJ.lp (α:=Nat×Nat) [0,1,2,8] (λp=>[(9,ab (p.1:Int)),(10,ab (p.2:Int))]) (λp=>[]) (λp=>p.1<=p.2/\p.2<=xs.length/\CL xs d p.1 p.2=oV xs d) (λp=>p.2-p.1) (0,xs.length) ⟨cV _,ak _,rfl⟩ ?_;rintro⟨i,j⟩ ⟨uy,sE,hbs⟩;dsimp only at uy sE hbs ⊢;refine B 8 ?_;refine aG ?_ ?_
 ·intro ar;refine B 9 ?_;refine rv rfl rfl rfl (iM 1 2 zB rfl rfl rfl) ?_;refine rq (ab (((i+j)/2:Nat):Int)) (yl underlying222 underlying3 rfl aa aa) ((congrArg ab aa)) ?_;refine B 4 ?_;obtain⟨bo,oo,cs0,to,fG,rfl,fH,cJ,aW⟩:=aJ.get aa;obtain⟨x,hx⟩:=ng xs ((i+j)/2) aa;refine B 5 ?_;refine zHf ?_;refine B 3 ?_;refine aG ?_ ?_
  ·intro aN;refine B 6 ?_;refine ag ((i+j)/2+1,j) ⟨by dsimp only;omega,sE,by rw[<-hbs,Qx aa hx ((nbj _ _).1 eC)]⟩
  intro aN;refine B 5 ?_;refine ag (i,(i+j)/2) ⟨by dsimp only;omega,by dsimp only;omega,by rw[<-hbs,Qy aa hx (λh=>(by assumption:¬cZ x.dev d<0) ((nbj _ _).2 h))]⟩
 intro ar;refine B 6 ?_;have hbe:oV xs d=i:=by rw[<-hbs,Qz aa]
 by_cases h1:i<xs.length
 ·obtain⟨bo,oo,cs0,to,fG,rfl,fH,cJ,aW⟩:=aJ.get aa;obtain⟨x,hx⟩:=ng xs i aa;refine B 4 ?_;refine UH ?_;refine zHf ?_;refine B 7 ?_;exact z9g
 refine B 4 ?_;refine ax bG ?_;refine B 15 ?_;exact z9g
theorem nod(p:Mb->Bool)(f:Nat)(cap:List Value)(az:eg prog f)(xs:List Mb)(hxl:xs.length<=1000000)(N:Nat)(a:Option Addr)(cp:Nat)(w:World)(hN:N<=w.heap.size)(aJ:ai pZ 3 N w a xs)(hp:∀(j:Nat) (x:Mb),xs[j]? =some x->∀W,Below w.heap.size w W->Calls prog f (.agg (pZ x)::cap).toArray W (aM W (.bool (p x)))):Calls prog 118 #[.slice a xs.length cp,.func (.func f) #[] cap.toArray] w (cN w (λi:Int=>ab i) (λi _=>eR p xs i)):=by
 refine eN func118 ntmps118 ?_;refine UI ?_;rintro j ⟨hj,ea⟩;refine B 6 ?_;refine aG ?_ ?_
 ·intro ar;refine B 11 ?_;obtain⟨bo,oo,cs0,to,fG,rfl,fH,cJ,aW⟩:=aJ.get aa;obtain⟨x,hx⟩:=ng xs j aa;refine B 5 ?_;refine ax (.agg (pZ x)) ?_;refine UJ ?_;refine aG ?_ ?_
  ·intro aN;refine B 12 ?_;refine rS (j:Int) results118 rfl A0 rfl ?_;exact UK
  exact UL
 intro ar;refine B 11 ?_;refine rS (-1:Int) results118 rfl A0 rfl ?_;exact UM
theorem nVe(p:Mb->Bool)(f:Nat)(cap:List Value)(az:eg prog f)(xs:List Mb)(hxl:xs.length<=1000000)(N:Nat)(a:Option Addr)(cp:Nat)(w:World)(hN:N<=w.heap.size)(aJ:ai pZ 3 N w a xs)(hp:∀(j:Nat) (x:Mb),xs[j]? =some x->∀W,Below w.heap.size w W->Calls prog f (.agg (pZ x)::cap).toArray W (aM W (.bool (p x)))):Calls prog 221 #[.slice a xs.length cp,.func (.func f) #[] cap.toArray] w (aM w (.bool (xs.any p))):=by
 refine eN func221 ntmps221 ?_;refine B 9 ?_;refine nv (α:=Int) (v:=λi:Int=>ab i) (Φ:=λ_ i _=>eR p xs i) call118 rfl rfl rfl (λW hS=>nod p f cap az xs hxl N a cp W cM (aJ.up (ak _) hS.sm) (λj x hx W2 hB=>hp j x hx W2 (((hS.links w A0).below J5).trans (hB.mono (hS.links w A0).size)))) ?_;intro Wi i wi EA EB hi;refine B 5 ?_;refine aF results221 rfl A1 ?_;exact vb hi.any
theorem nIe(p:Ch->Bool)(f:Nat)(cap:List Value)(az:eg prog f)(xs:List Ch)(hxl:xs.length<=1000000)(N:Nat)(a:Option Addr)(cp:Nat)(w:World)(hN:N<=w.heap.size)(aJ:ai gh 5 N w a xs)(hp:∀(j:Nat) (x:Ch),xs[j]? =some x->∀W,Below w.heap.size w W->Calls prog f (.agg (gh x)::cap).toArray W (aM W (.bool (p x)))):Calls prog 225 #[.slice a xs.length cp,.func (.func f) #[] cap.toArray] w (cN w (λi:Int=>ab i) (λi _=>eR p xs i)):=by
 refine eN func225 ntmps225 ?_;refine UI ?_;rintro j ⟨hj,ea⟩;refine B 6 ?_;refine aG ?_ ?_
 ·intro ar;refine B 11 ?_;obtain⟨bo,oo,cs0,to,fG,rfl,fH,cJ,aW⟩:=aJ.get aa;obtain⟨x,hx⟩:=ng xs j aa;refine B 5 ?_;refine ax (.agg (gh x)) ?_;refine UJ ?_;refine aG ?_ ?_
  ·intro aN;refine B 12 ?_;refine rS (j:Int) results225 rfl A0 rfl ?_;exact UK
  exact UL
 intro ar;refine B 11 ?_;refine rS (-1:Int) results225 rfl A0 rfl ?_;exact UM
theorem nwd(p:Ch->Bool)(f:Nat)(cap:List Value)(az:eg prog f)(xs:List Ch)(hxl:xs.length<=1000000)(N:Nat)(a:Option Addr)(cp:Nat)(w:World)(hN:N<=w.heap.size)(aJ:ai gh 5 N w a xs)(hp:∀(j:Nat) (x:Ch),xs[j]? =some x->∀W,Below w.heap.size w W->Calls prog f (.agg (gh x)::cap).toArray W (aM W (.bool (p x)))):Calls prog 156 #[.slice a xs.length cp,.func (.func f) #[] cap.toArray] w (aM w (.bool (xs.any p))):=by
 refine eN func156 ntmps156 ?_;refine B 9 ?_;refine nv (α:=Int) (v:=λi:Int=>ab i) (Φ:=λ_ i _=>eR p xs i) call225 rfl rfl rfl (λW hS=>nIe p f cap az xs hxl N a cp W cM (aJ.up (ak _) hS.sm) (λj x hx W2 hB=>hp j x hx W2 (((hS.links w A0).below J5).trans (hB.mono (hS.links w A0).size)))) ?_;intro Wi i wi EA EB hi;refine B 5 ?_;refine aF results156 rfl A1 ?_;exact vb hi.any
structure Gp where
 folder:Int
 epoch:Int
 last:Nat->Int
 ms:List Mb
 ns:List Nd
structure Gv where
 g:Gp
 ma:Option Addr
 mc:Nat
 na:Option Addr
 nc:Nat
def bD (x:Gv):Array Value:=(ab x.g.folder::ab x.g.epoch::lL x.g.last [.slice x.ma x.g.ms.length x.mc,.slice x.na x.g.ns.length x.nc]).toArray
structure bT (N:Nat) (w:World) (x:Gv):Prop where
 ms:ai pZ 3 N w x.ma x.g.ms
 ns:ai fN 2 N w x.na x.g.ns
 mn:x.g.ms.length<=10000
 nn:x.g.ns.length<=80000
theorem bT.up{N':Nat}{w':World}{x:Gv}(h:bT N w x)(hN:N<=N')(hw:∀k,k<N->w'.heap[k]? =w.heap[k]?):bT N' w' x:=⟨h.ms.up hN hw,h.ns.up hN hw,h.mn,h.nn⟩
def UN (ep:Int) (x:Mb):Bool:=decide (x.since<1\/ep<x.since\/¬dY x.ver)
def QA (g:Gp):Prop:=(p7 g.folder/\0<=g.epoch/\g.epoch<=1099511627776/\jF g.ns=0)/\¬(g.epoch=0/\(0<g.ms.length\/lY g.last (λ_=>0)=false))/\g.ms.map (·.dev)=dZ g.ns/\g.ms.any (UN g.epoch)=false
open Classical in
noncomputable def dR (g:Gp):Bool:=decide (QA g)
theorem XR(a:Int):(if dY a then(0:Int)else 40)=0↔dY a:=by grind
theorem nBn(G:Gv)(b:Nat)(x:Mb)(w:World)(hb1:w.heap[b]? =some (oC (bD G) 53)):Calls prog 218 #[.agg (pZ x),ptr b 0] w (aM w (.bool (UN G.g.epoch x))):=by
 have cF:¬Gh.no.X b:=λh=>h;have lX:=(aT.1 hb1).1;obtain⟨e,he⟩:∃e,(if dY x.ver then(0:Int)else 40)=e:=⟨_,rfl⟩;have IA:=XR x.ver;rw[he]at IA;refine eN func218 ntmps218 ?_;refine B 2 ?_;refine yX ?_;intro b2 w2 da bW eU dx dq;refine B 9 ?_;refine ni (t:=7) rfl (λar=>?_) (λar=>?_)
 ·replace ar:=ya ar;refine B 16 ?_;exact zyh
 replace ar:=ya ar;refine B 7 ?_;refine ni (t:=14) rfl (λaN=>?_) (λaN=>?_)
 ·replace aN:=ya aN;refine B 9 ?_;exact zyh
 replace aN:=ya aN;refine B 2 ?_;refine zOd ?_;refine B 6 ?_;exact zyh
theorem Kp(x:Mb)(d:Int)(w:World):Calls prog 219 #[.agg (pZ x),ab d] w (aM w (.bool (decide (x.dev=d)))):=by
 refine eN func219 ntmps219 ?_;refine B 2 ?_;refine yX ?_;intro b2 w2 da bW eU dx dq;refine B 13 ?_;refine aF results219 rfl A1 ?_;rfl
theorem nAg{α β:Type}{f:α->β}{xs:List α}{ys:List β}(hl:xs.length=ys.length)(h:∀i x y,i<xs.length->xs[i]? =some x->ys[i]? =some y->f x=y):xs.map f=ys:=by
 apply List.ext_getElem NN;intro i h1 h2;simp only[eG]at h1;simpa using h i _ _ h1 (kx h1) (kx h2)
theorem n5g{α β:Type}{f:α->β}{xs:List α}{ys:List β}{x:α}{y:β}(hx:xs[i]? =some x)(hy:ys[i]? =some y)(hne:f x≠y):xs.map f≠ys:=by grind
def uz {α β:Type} (f:α->β) (xs:List α) (ys:List β) (j:Nat):Prop:=∀i x y,i<j->xs[i]? =some x->ys[i]? =some y->f x=y
theorem uz.next{α β:Type}{f:α->β}{xs:List α}{ys:List β}{x:α}{y:β}(h:uz f xs ys j)(hx:xs[j]? =some x)(hy:ys[j]? =some y)(e:f x=y):uz f xs ys (j+1):=by
 exact zeh
theorem n3c(xs:List Mb)(hxl:xs.length<=1000000)(N:Nat)(a:Option Addr)(cp:Nat)(w:World)(hN:N<=w.heap.size)(aJ:ai pZ 3 N w a xs)(ys:List Int)(a2:Option Addr)(XS:Nat)(hsl2:ai (λx=>(aA x).toArray) 1 N w a2 ys):Calls prog 220 #[.slice a xs.length cp,.slice a2 ys.length XS,.func (.func 219) #[] #[]] w (aM w (.bool (decide (xs.map (·.dev)=ys)))):=by
 refine eN func220 ntmps220 ?_;refine B 15 ?_;refine aG ?_ ?_
 ·intro ar;refine B 7 ?_;refine aF results220 rfl A0 ?_;exact vb zfb
 intro ar;refine B 11 ?_;refine CJ.lp (α:=Nat) [1,2,15,16] (λj=>[(17,ab (j:Int))]) (λj=>[]) (λj=>j<=xs.length/\uz (·.dev) xs ys j) (λj=>xs.length-j) 0 ⟨cV _,λi x y hi=>absurd hi aa⟩ ?_;rintro j ⟨hj,ea⟩;refine B 6 ?_;refine aG ?_ ?_
 ·intro aN;refine B 5 ?_;obtain⟨bo,oo,cs0,to,fG,rfl,fH,cJ,aW⟩:=aJ.get aa;obtain⟨x,hx⟩:=ng xs j aa;refine B 3 ?_;refine ax (.agg (pZ x)) ?_;refine B 1 ?_;refine yW ?_;intro b8 Ik Il;refine B 5 ?_;obtain⟨bp,op,csp,tp,frp,rfl,Cr,QB,QC⟩:=hsl2.get aa;obtain⟨y,hy⟩:=ng ys j aa;refine B 4 ?_;refine rv rfl rfl rfl (av (v:=ab y) isAgg3 rfl A0 QB zL zA (by have:=nN (enc:=λx=>(aA x).toArray) (n:=1) QC hy rfl zB;simpa[aA]using this)) ?_;refine B 8 ?_;refine Bu (f:=219) (cap:=[]) rfl call219 rfl rfl rfl (λW hS=>Kp x y W) ?_;refine B 3 ?_;refine aG ?_ ?_
  ·intro dc;refine B 11 ?_;refine cC (.inl rfl) results220 bj A0 zC ?_;exact vb zfb
  intro dc;refine xx ?_;refine ag (j+1) ⟨by omega,ea.next hx hy yO⟩
 intro aN;refine B 11 ?_;refine aF results220 rfl A0 ?_;exact vb zfb
theorem AB{g:Gp}:dR g=true↔QA g:=by unfold dR;simp
theorem QD{g:Gp}(h:¬QA g):bG= .bool (dR g):=by grind [dR,AB]
theorem nCn{g:Gp}(h1:p7 g.folder/\0<=g.epoch/\g.epoch<=1099511627776/\jF g.ns=0)(h2:¬(g.epoch=0/\(0<g.ms.length\/lY g.last (λ_=>0)=false)))(h3:g.ms.map (·.dev)=dZ g.ns):Value.bool (!g.ms.any (UN g.epoch))= .bool (dR g):=vb (by
 by_cases h:g.ms.any (UN g.epoch)=false
 ·rw[h,AB.2 ⟨h1,h2,h3,h⟩];rfl
 cases e:dR g with
 |false=>simpa using h
 |true=>exact absurd (AB.1 e).2.2.2 h)
theorem nQ(G:Gv)(N:Nat)(w:World)(hN:N<=w.heap.size)(hG:bT N w G):Calls prog 148 #[.agg (bD G)] w (aM w (.bool (dR G.g))):=by
 have hn:G.g.ns.length<=100000:=by have:=hG.nn;omega
 have vt:G.g.ms.length<=1000000:=by have:=hG.mn;omega
 have aJ:=hG.ns;refine eN func148 ntmps148 ?_;refine B 2 ?_;refine yX ?_;intro b1 w1 hb1 cF gA fX jq;refine B 8 ?_;refine call call217 rfl rfl rfl (λW hS=>nwl _ W) ?_;refine B 2 ?_;refine ni (t:=9) rfl (λar=>?_) (λar=>?_)
 ·replace ar:=ya ar;refine B 25 ?_;refine aF results148 rfl A1 ?_;exact QD (λh=>ar h.1.1)
 replace ar:=ya ar;refine B 5 ?_;refine ni (t:=14) rfl (λaN=>?_) (λaN=>?_)
 ·replace aN:=ya aN;refine B 20 ?_;refine aF results148 rfl A1 ?_;exact QD (λh=>by have:=h.1.2.1;omega)
 replace aN:=ya aN;refine B 5 ?_;refine ni (t:=19) rfl (λdc=>?_) (λdc=>?_)
 ·replace dc:=ya dc;refine B 15 ?_;refine aF results148 rfl A1 ?_;exact QD (λh=>by have:=h.1.2.2.1;omega)
 replace dc:=ya dc;refine B 1 ?_;refine ax (.agg #[.slice G.na G.g.ns.length G.nc]) ?_;refine call call111 rfl rfl rfl (λW hS=>nKb G.g.ns hn N G.na G.nc W cM (aJ.up (ak _) hS.sm)) ?_;refine B 4 ?_;refine aG ?_ ?_
 ·intro jo;refine B 7 ?_;refine aF results148 rfl A1 ?_;exact QD (λh=>jo h.1.2.2.2)
 intro jo;refine B 9 ?_;refine ni (t:=28) rfl (λij=>?_) (λij=>?_)
 ·replace ij:=ya ij;refine B 5 ?_;refine ni (t:=33) rfl (λlI=>?_) (λlI=>?_)
  ·replace lI:=ya lI;refine B 16 ?_;refine aF results148 rfl A1 ?_;exact QD (λh=>h.2.1 ⟨ij,.inl aa⟩)
  replace lI:=ya lI;refine B 3 ?_;refine rr (.bool (!lY G.g.last (λ_=>0))) (er xu zB nL rfl rfl rfl) ?_;refine B 4 ?_;refine aG ?_ ?_
  ·intro ke;refine B 7 ?_;refine aF results148 rfl A1 ?_;exact QD (λh=>h.2.1 ⟨ij,.inr ke⟩)
  intro ke;refine B 14 ?_;by_cases h1:G.g.ms.map (·.dev)=dZ G.g.ns
  ·refine zTc ?_;refine CJ.chn 11 [4] [_,some (.slice G.ma G.g.ms.length G.mc),_,some (.agg #[.slice G.na G.g.ns.length G.nc]),none,_,some (cX),_,_,_,_] (λcv L' H'=>match cv with| []=>L'=[w1,w]/\H'=[]| [v1]=>∃(a7:Option Addr) (c7:Nat) (w7:World),v1= .slice a7 (dZ G.g.ns).length c7/\L'=[w7,w1,w]/\H'=[]/\ai (λx=>(aA x).toArray) 1 w7.heap.size w7 a7 (dZ G.g.ns)|_=>False) (pc XT (pc NO (pc XU (pc NO (pk (pc zN (pc (λcv L' H' hd hP=>match cv,hd,hP with| [],hd,hP=>(absurd (show false=true from hd) zB)| [v1],hd,hP=>zHc|_::_::_,_,hP=>hP.elim) (pc zN (pc XT (pc NO (pc zN (pn)))))))))))) ?_ ?_
   ·exact z1f
   intro cv L' H' hl hP;obtain⟨v1,rfl⟩:=iw hl;obtain⟨a7,c7,w7,rfl,rfl,rfl,jA⟩:=hP;refine z3d ?_;refine B 6 ?_;refine aF results148 rfl A2 ?_;exact nCn ⟨ar,by omega,by omega,jo⟩ (λh=>h.2.elim (λh=>by omega) (λh=>by rw[ke]at h;cases h)) h1
  exact zYf
 replace ij:=ya ij;refine B 28 ?_;by_cases h1:G.g.ms.map (·.dev)=dZ G.g.ns
 ·refine zTc ?_;refine CJ.chn 11 [4] [_,some (.slice G.ma G.g.ms.length G.mc),_,some (.agg #[.slice G.na G.g.ns.length G.nc]),none,_,some (cX),_,_,_,_] (λcv L' H'=>match cv with| []=>L'=[w1,w]/\H'=[]| [v1]=>∃(a7:Option Addr) (c7:Nat) (w7:World),v1= .slice a7 (dZ G.g.ns).length c7/\L'=[w7,w1,w]/\H'=[]/\ai (λx=>(aA x).toArray) 1 w7.heap.size w7 a7 (dZ G.g.ns)|_=>False) (pc XT (pc NO (pc XU (pc NO (pk (pc zN (pc (λcv L' H' hd hP=>match cv,hd,hP with| [],hd,hP=>(absurd (show false=true from hd) zB)| [v1],hd,hP=>zHc|_::_::_,_,hP=>hP.elim) (pc zN (pc XT (pc NO (pc zN (pn)))))))))))) ?_ ?_
  ·exact z1f
  intro cv L' H' hl hP;obtain⟨v1,rfl⟩:=iw hl;obtain⟨a7,c7,w7,rfl,rfl,rfl,jA⟩:=hP;refine z3d ?_;refine B 6 ?_;refine aF results148 rfl A2 ?_;exact nCn ⟨ar,by omega,by omega,jo⟩ (λh=>ij h.1) h1
 exact zYf
section
variable {C:Cx} {Q:aZ} {E E0:Env} {D:List Deferred} {G:Gh} {L:List World} {H:ad}
def XV (C:Cx) (E:Env) (D:List Deferred) (G:Gh) (L:List World) (H:ad):aZ:=λe a W=>e= .normal/\a.tmps.size=C.N/\a.defers=D/\Fits E a/\St G L H W
theorem CJ.mid{c:Code}{v:Value}(h0:Sub E0 E)(h:CJ C c (XV C ((t,v)::E0) D G L H) E D G L H)(k:PJ C Q .normal ((t,v)::E0) D G L H):CJ C c Q E D G L H:=by
 intro a W hN hD hF hS;refine wpIn_mono (h a W hN hD hF hS) ?_;rintro e a' W' ⟨rfl,h1,h2,h3,h4⟩;exact k a' W' h1 h2 h3 h4
theorem PJ.mid{E':Env}(hE:Sub E' E):PJ C (XV C E' D G L H) .normal E D G L H:=λa W hN hD hF hS=>⟨rfl,hN,hD,hE.fits hF,hS⟩
end
def agR (x:Ch):Prop:=((x.kind=1/\(dY x.pub/\dY x.ver)/\x.cut=0)\/(x.kind=2/\x.pub=0/\x.ver=0/\(0<=x.cut/\x.cut<=1048576))\/(x.kind=3/\(dY x.pub/\dY x.ver)/\(0<=x.cut/\x.cut<=1048576)))/\dW x.dev
def NS (kv:List (Int×Bool)) (x:Ch):List (Int×Bool):=dA kv x.dev true
def QE (l:List Ch):List (Int×Bool):=l.foldl NS []
variable {x:Ch} {l:List Ch}
theorem n3i(hx:l[j]? =some x):QE (l.take (j+1))=dA (QE (l.take j)) x.dev true:=by rw[np hx];simp[QE,NS,Iw]
def QF (l:List Ch) (i:Nat) (x:Ch):Prop:=agR x/\(bV (QE (l.take i)) x.dev).getD false=false
def yP (l:List Ch) (j:Nat):Prop:=∀i x,i<j->l[i]? =some x->QF l i x
theorem yP.next(h:yP l j)(hx:l[j]? =some x)(hk:QF l j x):yP l (j+1):=by
 exact zRh
def XW (l:List Ch):Prop:=yP l l.length/\l.length<=64
open Classical in
noncomputable def jC (l:List Ch):Bool:=decide (XW l)
theorem QG:jC l=true↔XW l:=by unfold jC;simp
theorem nnc(hx:l[j]? =some x)(h:¬QF l j x):bG= .bool (jC l):=vb (by
 cases e:jC l with
 |false=>rfl
 |true=>exact absurd ((QG.1 e).1 j x (nr hx) hx) h)
theorem nlh(h:yP l j)(hj:¬j<l.length):Value.bool (decide ((l.length:Int)<=64))= .bool (jC l):=vb (by
 have h1:yP l l.length:=λi x hi hx=>h i x aa hx;cases e:jC l with
 |false=>exact decide_eq_false (λh2=>absurd (QG.2 ⟨h1,by omega⟩) (by rw[e];decide))
 |true=>have:=(QG.1 e).2;exact decide_eq_true aa)
theorem nKc(l:List Ch)(hxl:l.length<=1000000)(N:Nat)(a:Option Addr)(cp:Nat)(w:World)(hN:N<=w.heap.size)(aJ:ai gh 5 N w a l):Calls prog 196 #[.slice a l.length cp] w (aM w (.bool (jC l))):=by
 refine eN func196 ntmps196 ?_;refine B 7 ?_;refine J4 Value.bool rfl rfl ?_;refine yW ?_;intro b9 xn tk;refine B 12 ?_;refine CJ.lp (α:=Mp×Nat) [0,3,10,11] (λp=>[(12,ab (p.2:Int))]) (λp=>[(b9,p.1.obj Value.bool (QE (l.take p.2)))]) (λp=>p.2<=l.length/\p.1.Ok (QE (l.take p.2))/\yP l p.2) (λp=>l.length-p.2) (⟨[],0⟩,0) ⟨cV _,Mp.nil,λi x hi=>absurd hi aa⟩ ?_;rintro⟨m,j⟩ ⟨hj,hm,ea⟩;dsimp only at hj hm ea ⊢;refine B 6 ?_;refine aG ?_ ?_
 ·intro ar;refine B 5 ?_;obtain⟨bo,oo,cs0,to,fG,rfl,fH,cJ,aW⟩:=aJ.get aa;obtain⟨x,hx⟩:=ng l j aa;obtain⟨e1,uo⟩:∃e,(if dY x.pub then(0:Int)else 40)=e:=⟨_,rfl⟩;obtain⟨e2,Iu⟩:∃e,(if dY x.ver then(0:Int)else 40)=e:=⟨_,rfl⟩;have QH:=XR x.pub;rw[uo]at QH;have QJ:=XR x.ver;rw[Iu]at QJ;refine XX ?_;refine yW ?_;intro b5 so sq;refine B 4 ?_;refine CJ.mid (t:=6) (v:=.bool (decide (e1=0/\e2=0))) (E0:=[(0,_),(3,_),(5,_),(10,_),(11,_),(12,_),(13,_),(14,_),(15,_)]) zR ?_ ?_
  ·refine B 3 ?_;refine call call65 rfl rfl rfl (λW hS=>by rw[<-uo];exact nO _ W) (v:=ab e1) ?_;refine B 2 ?_;refine ni (t:=20) rfl (λaN=>?_) (λaN=>?_)
   ·replace aN:=ya aN;refine B 2 ?_;refine call call65 rfl rfl rfl (λW hS=>by rw[<-Iu];exact nO _ W) (v:=ab e2) ?_;refine B 4 ?_;exact zAh
   replace aN:=ya aN;refine B 7 ?_;exact zAh
  refine B 2 ?_;refine CJ.mid (t:=7) (v:=.bool (decide (0<=x.cut/\x.cut<=1048576))) (E0:=[(0,_),(3,_),(5,_),(6,_),(10,_),(11,_),(12,_),(13,_),(14,_),(15,_)]) zR ?_ ?_
  ·refine B 5 ?_;refine ni (t:=29) rfl (λdc=>?_) (λdc=>?_)
   ·exact zZg
   exact zZg
  refine B 13 ?_;refine CJ.mid (t:=8) (v:=.bool (decide ((x.kind=1/\(e1=0/\e2=0)/\x.cut=0)\/(x.kind=2/\x.pub=0/\x.ver=0/\(0<=x.cut/\x.cut<=1048576))\/(x.kind=3/\(e1=0/\e2=0)/\(0<=x.cut/\x.cut<=1048576))))) (E0:=[(0,_),(3,_),(5,_),(6,_),(7,_),(10,_),(11,_),(12,_),(13,_),(14,_),(15,_),(34,_),(35,_)]) zR ?_ ?_
  ·refine B 7 ?_;refine aG ?_ ?_
   ·intro jo;refine B 3 ?_;refine ni (t:=39) rfl (λij=>?_) (λij=>?_)
    ·replace ij:=ya ij;refine B 7 ?_;exact XY
    replace ij:=ya ij;refine B 7 ?_;exact XY
   intro jo;refine B 6 ?_;refine aG ?_ ?_
   ·intro lI;refine B 5 ?_;refine ni (t:=49) rfl (λke=>?_) (λke=>?_)
    ·replace ke:=ya ke;refine B 5 ?_;refine ni (t:=54) rfl (λJe=>?_) (λJe=>?_)
     ·replace Je:=ya Je;exact z6h
     replace Je:=ya Je;exact z6h
    replace ke:=ya ke;refine B 10 ?_;exact XY
   intro lI;refine B 6 ?_;refine aG ?_ ?_
   ·intro qH;refine B 3 ?_;refine ni (t:=60) rfl (λtZ=>?_) (λtZ=>?_)
    ·replace tZ:=ya tZ;exact z6h
    replace tZ:=ya tZ;exact z6h
   intro qH;refine B 2 ?_;exact XY
  refine B 7 ?_;refine ni (t:=65) rfl (λua=>?_) (λua=>?_)
  ·replace ua:=ya ua;refine B 26 ?_;exact z6f
  replace ua:=ya ua;refine B 2 ?_;refine call call222 rfl rfl rfl (λW hS=>UG _ W) ?_;refine B 3 ?_;refine ni (t:=71) rfl (λoG=>?_) (λoG=>?_)
  ·replace oG:=ya oG;refine B 20 ?_;exact z6f
  replace oG:=ya oG;refine B 3 ?_;refine rq (.bool ((bV (QE (l.take j)) x.dev).getD false)) (mr (ev:=Value.bool) underlying307 underlying3 zeroValue4 hm (bB.own (i:=1) rfl) rfl rfl) (n2j _) ?_;refine B 3 ?_;refine aG ?_ ?_
  ·intro oH;refine B 12 ?_;exact z6f
  intro oH;refine B 6 ?_;refine NF (i:=1) (ev:=Value.bool) (v:=true) rfl hm underlying307 underlying3 rfl rfl rfl rfl ?_;intro m3 cK;refine xx ?_;refine PJ.again (m3,j+1) ⟨by dsimp only;omega,by rw[n3i hx];exact cK,ea.next hx ⟨⟨by rw[<-QH,<-QJ];assumption,by assumption⟩,by assumption⟩⟩ zW zR (by rw[n3i hx];rfl) rfl zJ
 intro ar;refine B 14 ?_;exact z6f
theorem qU{C:Cx}{E:Env}{G:Gh}{H:ad}{T U:Nat}{x y:Operand}{a b:Bool}(hU:C.P.underlying T=some .bool)(hx:ev E x=some (.bool a))(hy:ev E y=some (.bool b)):RV C G L H E (.binOp .neq T x y U) (.bool (a != b)):=λd ty pos aC g ac W hF _=>by
 have h1:(Op.equalIn (9999+1) T (.bool a) (.bool b)).run C.P W= .ok (a==b) W:=by
  generalize 9999=n;simp[Op.equalIn,run_underlying hU]
 have h2:(binOp .neq T (.bool a) (.bool b)).run C.P W= .ok (.bool (a != b)) W:=by
  have e:binOp .neq T (.bool a) (.bool b)=(do pure (.bool (!(<-Op.equalIn (9999+1) T (.bool a) (.bool b))))):=rfl;rw[e,Sem.run_bind,h1];rfl
 have h3:(eqGuard .neq T x y (.bool a) (.bool b)).run C.P W= .ok () W:=by simp[eqGuard]
 simp only[execOp,hF.ev hx,hF.ev hy,Sem.run_bind,h3,h2,Result.andThen];rfl
def EC (g:Gp) (own:Bool) (au:Int) (x:Ch):Bool:=(gS g.ms x.dev==decide (x.kind=1))||(own&&decide (x.dev=au))
def mz (g:Gp) (au:Int) (l:List Ch):Bool:= !((gS g.ms au != decide (0<g.epoch))||(decide (g.epoch=0)&&(decide (l.length=0)|| !decide ((l[0]?.map (·.dev))=some au))))&& !(l.any (EC g (gS g.ms au) au))
theorem nOd(G:Gv)(N:Nat)(w:World)(hN:N<=w.heap.size)(hG:bT N w G)(d:Int):Calls prog 199 #[.agg (bD G),ab d] w (aM w (.tuple #[ab (oV G.g.ms d:Int),.bool (gS G.g.ms d)])):=by
 refine eN func199 ntmps199 ?_;refine B 2 ?_;refine yX ?_;intro b2 w2 da bW eU dx dq;refine B 9 ?_;refine call call263 rfl rfl rfl (λW hS=>n3o G.g.ms (by have:=hG.mn;omega) N G.ma G.mc W cM (hG.ms.up (ak _) hS.sm) d) ?_;refine B 7 ?_;refine nS results199 rfl rfl A1 ?_ ?_;all_goals rfl
theorem nli(G:Gv)(N:Nat)(w:World)(hN:N<=w.heap.size)(hG:bT N w G)(b1 b2 b3:Nat)(own:Bool)(au:Int)(hb1:w.heap[b1]? =some (oC (bD G) 53))(da:w.heap[b2]? =some (oC #[.bool own] 4))(hb3:w.heap[b3]? =some (oC #[ab au] 3))(x:Ch):Calls prog 259 #[.agg (gh x),ptr b1 0,ptr b2 0,ptr b3 0] w (aM w (.bool (EC G.g own au x))):=by
 have cF:¬Gh.no.X b1:=λh=>h;have bW:¬Gh.no.X b2:=λh=>h;have cK:¬Gh.no.X b3:=λh=>h;refine eN func259 ntmps259 ?_;refine B 2 ?_;refine yX ?_;intro b4 w4 hb4 Cu VX ja jb;refine XZ ?_;refine B 2 ?_;refine call call199 rfl rfl rfl (λW hS=>nOd G N W cM (hG.up (ak _) hS.sm) x.dev) ?_;refine B 13 ?_;refine rv rfl rfl rfl (QK underlying4 rfl rfl) ?_;refine B 1 ?_;refine ni (t:=20) rfl (λar=>?_) (λar=>?_)
 ·replace ar:=ya ar;refine B 12 ?_;exact z7g
 replace ar:=ya ar;refine B 2 ?_;refine ni (t:=22) rfl (λaN=>?_) (λaN=>?_)
 ·replace aN:=ya aN;refine B 10 ?_;exact z7g
 replace aN:=ya aN;refine B 10 ?_;exact z7g
theorem nPe(G:Gv)(N:Nat)(w:World)(hN:N<=w.heap.size)(hG:bT N w G)(l:List Ch)(hxl:l.length<=1000000)(a:Option Addr)(cp:Nat)(aJ:ai gh 5 N w a l)(au:Int):Calls prog 197 #[.agg (bD G),ab au,.slice a l.length cp] w (aM w (.bool (mz G.g au l))):=by
 refine eN func197 ntmps197 ?_;refine B 2 ?_;refine yX ?_;intro b3 w3 hb3 cK fF ez eP;refine yX ?_;intro b4 w4 hb4 Cu VX ja jb;refine XZ ?_;refine B 1 ?_;refine call call199 rfl rfl rfl (λW hS=>nOd G N W cM (hG.up (ak _) hS.sm) au) ?_;refine B 4 ?_;refine yW ?_;intro b8 Ik Il;refine B 6 ?_;by_cases h1:gS G.g.ms au≠decide (0<G.g.epoch)
 ·refine eA 19 (pb:=by exact zU 4 (k:=by exact aU (X.v (RV.re (v':=cX) (qU underlying4 rfl rfl) (vb CM))) zT)) (k:=?_);refine B 14 ?_;exact X2
 by_cases h2:¬G.g.epoch=0
 ·refine eA 19 (pb:=by exact zU 4 (k:=by exact aU (X.v (RV.re (v':=bG) (qU underlying4 rfl rfl) (vb CM))) zT)) (sp:=(_::_::_::_::_::_::_::_::(some bG)::_)) (k:=?_);refine B 19 ?_;refine z0c ?_;refine B 5 ?_;exact X2
 by_cases h3:l.length=0
 ·refine eA 19 (pb:=by exact zU 4 (k:=by exact aU (X.v (RV.re (v':=bG) (qU underlying4 rfl rfl) (vb CM))) zT)) (sp:=[_,_,_,_,_,_,_,_,some cX,_,_,_,some cX,_,_,_,_,_,_]) (k:=?_);refine B 14 ?_;exact X2
 obtain⟨bo,oo,cs0,to,fG,rfl,fH,cJ,aW⟩:=aJ.get aa;obtain⟨x,hx⟩:=ng l 0 aa;refine eA 19 (pb:=by exact zU 4 (k:=by exact aU (X.v (RV.re (v':=bG) (qU underlying4 rfl rfl) (vb CM))) (zU 12 (k:=by exact aU (X.v (av (v:=ab x.dev) isAgg3 rfl A2 cJ zL zA (by have:=yQ aW hx (i:=0) rfl 1 zB;simpa[gh]using this))) zT)))) (sp:=[_,_,_,_,_,_,_,_,some cX,_,_,_,some bG,_,_,_,_,_,_]) (k:=?_);refine B 6 ?_;refine aG ?_ ?_
 ·intro ar;refine B 7 ?_;exact X2
 intro ar;refine B 12 ?_;refine z0c ?_;refine B 5 ?_;exact X2
noncomputable def oW (ns:List Nd) (d:Int):List Nd:=if jF ns=0/\(bV (dL ns) (512+d)).isSome=true then pX (oU (dL ns) d)else[]
noncomputable def uA (ns:List Nd) (d:Int):Int:=if jF ns=0 then(if(bV (dL ns) (512+d)).isSome=true then 0 else 200)else 210
open Classical in
noncomputable def mA (ns:List Nd) (d p:Int):List Nd:=if jF ns=0/\dY p then pX (dA (oU (dL ns) d) (512+d) p)else[]
open Classical in
noncomputable def uB (ns:List Nd) (d p:Int):Int:=if jF ns=0 then(if dY p then 0 else 50)else 210
theorem ED(ns:List Nd)(d:Int):(oW ns d).length<=ns.length:=by grind [oW,n2g,XH,UB]
theorem EE(ns:List Nd)(d p:Int):(mA ns d p).length<=ns.length+1:=by grind [mA,n2g,Xo,XH,UB]
theorem nEf(ns:List Nd)(hn:ns.length<=100000)(N:Nat)(a:Option Addr)(cp:Nat)(w:World)(hN:N<=w.heap.size)(aJ:ai fN 2 N w a ns)(d:Int)(hd:dW d):Calls prog 35 #[.agg #[.slice a ns.length cp],ab d] w (aD w gH 2 240 (oW ns d) (λs=>.tuple #[.agg #[s],ab (uA ns d)])):=by
 rcases njh ns with h|h
 ·by_cases h2:(bV (dL ns) (512+d)).isSome=true
  ·have e1:oW ns d=pX (oU (dL ns) d):=by unfold oW;rw[if_pos ⟨h,h2⟩]
   have e2:uA ns d=0:=by unfold uA;rw[if_pos h,if_pos h2]
   rw[e1,e2];exact nIp ns hn N a cp w hN aJ h d hd h2
  have e1:oW ns d=[]:=by unfold oW;rw[if_neg λg=>h2 g.2]
  have e2:uA ns d=200:=by unfold uA;rw[if_pos h,if_neg h2]
  rw[e1,e2];exact n0o ns hn N a cp w hN aJ h d hd Kq
 have e1:oW ns d=[]:=by unfold oW;rw[if_neg λg=>by have:=g.1;omega]
 have e2:uA ns d=210:=by unfold uA;rw[if_neg aa]
 rw[e1,e2];exact nwo ns hn N a cp w hN aJ h d
theorem nLh(ns:List Nd)(hn:ns.length<=100000)(N:Nat)(a:Option Addr)(cp:Nat)(w:World)(hN:N<=w.heap.size)(aJ:ai fN 2 N w a ns)(d p:Int)(hd:dW d)(hn1:ns.length<100000):Calls prog 34 #[.agg #[.slice a ns.length cp],ab d,ab p] w (aD w gH 2 240 (mA ns d p) (λs=>.tuple #[.agg #[s],ab (uB ns d p)])):=by
 rcases njh ns with h|h
 ·by_cases h2:dY p
  ·have e1:mA ns d p=pX (dA (oU (dL ns) d) (512+d) p):=by unfold mA;rw[if_pos ⟨h,h2⟩]
   have e2:uB ns d p=0:=by unfold uB;rw[if_pos h,if_pos h2]
   rw[e1,e2];exact Qo ns hn N a cp w hN aJ h d p hd hn1 (if_pos h2)
  have e1:mA ns d p=[]:=by unfold mA;rw[if_neg λg=>h2 g.2]
  have e2:uB ns d p=50:=by unfold uB;rw[if_pos h,if_neg h2]
  rw[e1,e2];exact Kg ns hn N a cp w hN aJ h d p hd (if_neg h2)
 have e1:mA ns d p=[]:=by unfold mA;rw[if_neg λg=>by have:=g.1;omega]
 have e2:uB ns d p=210:=by unfold uB;rw[if_neg aa]
 rw[e1,e2];exact Kf ns hn N a cp w hN aJ h d p
noncomputable def yR (ns:List Nd) (x:Ch):List Nd:=if x.kind=2 then oW ns x.dev else mA ns x.dev x.pub
noncomputable def aX (ns:List Nd) (l:List Ch):List Nd:=l.foldl yR ns
theorem nCk(hx:l[j]? =some x):aX ns (l.take (j+1))=yR (aX ns (l.take j)) x:=by rw[np hx];simp[aX,Iw]
theorem nag(hx:l[j]? =some x)(h:x.kind=2):aX ns (l.take (j+1))=oW (aX ns (l.take j)) x.dev:=by rw[nCk hx];unfold yR;rw[if_pos h]
theorem nZf(hx:l[j]? =some x)(h:¬x.kind=2):aX ns (l.take (j+1))=mA (aX ns (l.take j)) x.dev x.pub:=by rw[nCk hx];unfold yR;rw[if_neg h]
theorem QL(l:List Ch):∀ns:List Nd,(aX ns l).length<=ns.length+l.length:=by induction l<;>grind [aX,yR,ED,EE]
theorem nmk(ns:List Nd)(l:List Ch)(j:Nat)(hj:j<=l.length):(aX ns (l.take j)).length<=ns.length+l.length:=by grind [QL]
theorem nhl(ns:List Nd)(l:List Ch)(j:Nat)(h:¬j<l.length):aX ns (l.take j)=aX ns l:=by rw[jO aa]
theorem ai.to{α:Type}{enc:α->Array Value}{W:World}{xs:List α}{H:ad}(h:ai enc n N w a xs)(hS:St Gh.no L H W)(hw:w∈L)(hN:N<=w.heap.size)(ho:∀b off,a=some ⟨b,off,none⟩->xs=[]\/aY H b):ai enc n W.heap.size W a xs:=by
 by_cases h0:xs=[]
 ·exact .inl h0
 exact h.blk λb off e hb=>⟨by have:=(hS.links w hw).size;omega,(hS.links w hw).block b aa (λhx=>hx.elim id ((ho b off e).resolve_left h0).mem)⟩
abbrev X3 {α:Type} (N:Nat) (w:World) (enc:α->Array Value) (n:Nat) (xs:List α) (v:Value->Value):Ending->World->Prop:=cN w (λq:Option Addr×Nat=>v (.slice q.1 xs.length q.2)) (λq w'=>ai enc n w'.heap.size w' q.1 xs/\∀b off,q.1=some ⟨b,off,none⟩->xs=[]\/b<N\/w.heap.size<=b)
theorem ai.lt{α:Type}{enc:α->Array Value}{xs:List α}(h:ai enc n N w a xs){b off:Nat}(e:a=some ⟨b,off,none⟩):xs=[]\/b<N:=by
 rcases h with h|⟨b',off',cs,t,fr,h1,h2,_⟩;all_goals grind
theorem nxc(G:Gv)(N:Nat)(w:World)(hN:N<=w.heap.size)(hG:bT N w G)(l:List Ch)(hxl:l.length<=1000000)(a:Option Addr)(cp:Nat)(aJ:ai gh 5 N w a l)(Aw:l.length<=64)(qw:∀x∈l,dW x.dev):Calls prog 140 #[.agg (bD G),.slice a l.length cp] w (X3 N w fN 2 (aX G.g.ns l) (λs=>.agg #[s])):=by
 have Ur:=hG.nn;refine eN func140 ntmps140 ?_;refine B 2 ?_;refine yX ?_;intro b2 w2 da bW eU dx dq;refine B 1 ?_;refine yW ?_;intro b4 ja jb;refine B 5 ?_;refine ax (.agg #[.slice G.na G.g.ns.length G.nc]) ?_;refine B 1 ?_;refine yW ?_;intro b5 so sq;refine B 12 ?_;refine CJ.loop (α:=(Option Addr×Nat)×World×Nat) (λp=>[(4,ptr b4 0),(5,ptr b5 0),(10,.slice a l.length cp),(11,ab (l.length:Int)),(12,ab (p.2.2:Int))]) (λp=>[(b5,oC #[.slice p.1.1 (aX G.g.ns (l.take p.2.2)).length p.1.2] 51),(b4,oC #[ao] 51)]) (λp=>[p.2.1,w]) (λp=>Gh.no) (λp=>p.2.2<=l.length/\w.heap.size<=p.2.1.heap.size/\ai fN 2 p.2.1.heap.size p.2.1 p.1.1 (aX G.g.ns (l.take p.2.2))/\∀b off,p.1.1=some ⟨b,off,none⟩->aX G.g.ns (l.take p.2.2)=[]\/(b≠b5/\b≠b4/\(b<N\/w.heap.size<=b))) (λp=>l.length-p.2.2) ((G.na,G.nc),w,0) ⟨cV _,ak _,hG.ns.up hN R2,λb off e=>by rcases hG.ns.lt e with h|h;(exact .inl h);exact .inr aa⟩ zR rfl rfl zJ ?_;rintro⟨⟨ta,tc⟩,wk,j⟩ ⟨hj,sI,dX,ea⟩;dsimp only at hj sI dX ea ⊢;refine B 6 ?_;refine aG ?_ ?_
 ·intro ar;refine B 5 ?_;obtain⟨bo,oo,cs0,to,fG,rfl,fH,cJ,aW⟩:=aJ.get aa;obtain⟨x,hx⟩:=ng l j aa;have hd:=qw x (cP hx);have NU:=nmk G.g.ns l j aa;refine XX ?_;refine yW ?_;intro b7 jy vr;refine B 10 ?_;refine aG ?_ ?_
  ·intro aN;refine B 4 ?_;refine OJ.dropAt (i:=0) rfl zD ?_;refine nG (enc:=gH) (m:=2) (t:=240) (xs:=oW (aX G.g.ns (l.take j)) x.dev) (v:=λs=>.tuple #[.agg #[s],ab (uA (aX G.g.ns (l.take j)) x.dev)]) (first:=[]) (cap:=[]) rfl call35 rfl rfl rfl P3 (λW hS=>nEf (aX G.g.ns (l.take j)) aa W.heap.size ta tc W (ak _) (dX.to hS A0 (ak _) (λb off e=>by rcases ea b off e with h9|h9;(exact .inl h9);rcases dX.lt e with h8|h8;(exact .inl h8);refine .inr ?_;simp only[aY,cW,dB,sx,and_true];omega)) x.dev hd) ?_;intro W9 a9 EF IB cu xz jj jG;have QM:=cu.under;simp only[nZ,cW,dB,sx,and_true]at QM;have X4:=xz.size;have VZ:=(cu.links w A1).size;refine B 11 ?_;refine PJ.again ((a9,EF),IB,j+1) ⟨by dsimp only;omega,by dsimp only;omega,by dsimp only;rw[nag hx eC];exact jj,λb off e=>by have:=jG _ e;dsimp only at this;exact .inr aa⟩ zW zR (by rw[nag hx eC];rfl) rfl zJ
  intro aN;refine B 6 ?_;refine OJ.dropAt (i:=0) rfl zD ?_;refine nG (enc:=gH) (m:=2) (t:=240) (xs:=mA (aX G.g.ns (l.take j)) x.dev x.pub) (v:=λs=>.tuple #[.agg #[s],ab (uB (aX G.g.ns (l.take j)) x.dev x.pub)]) (first:=[]) (cap:=[]) rfl call34 rfl rfl rfl P3 (λW hS=>nLh (aX G.g.ns (l.take j)) aa W.heap.size ta tc W (ak _) (dX.to hS A0 (ak _) (λb off e=>by rcases ea b off e with h9|h9;(exact .inl h9);rcases dX.lt e with h8|h8;(exact .inl h8);refine .inr ?_;simp only[aY,cW,dB,sx,and_true];omega)) x.dev x.pub hd aa) ?_;intro W9 a9 EF IB cu xz jj jG;have QM:=cu.under;simp only[nZ,cW,dB,sx,and_true]at QM;have X4:=xz.size;have VZ:=(cu.links w A1).size;refine B 11 ?_;refine PJ.again ((a9,EF),IB,j+1) ⟨by dsimp only;omega,by dsimp only;omega,by dsimp only;rw[nZf hx eC];exact jj,λb off e=>by have:=jG _ e;dsimp only at this;exact .inr aa⟩ zW zR (by rw[nZf hx eC];rfl) rfl zJ
 intro ar;refine B 6 ?_;rw[nhl _ _ _ aa]at dX ea ⊢;refine B 6 ?_;exact bM (.inl rfl) results140 bj λW hS=>⟨(ta,tc),rfl,hS.base A1 zF,dX.to hS A0 (ak _) (λb off e=>by rcases ea b off e with h9|h9;(exact .inl h9);exact .inr zA),λb off e=>(ea b off e).imp id (λh=>h.2.2)⟩
noncomputable def qb (ns:List Nd) (au:Int) (i:Nat):List (Int×Int):=(List.range i).flatMap λ(t:Nat)=>(ou ns (((jz au)[t]?).getD 0)).map λn=>((t:Int)+1,n)
noncomputable def kC (ns:List Nd) (au:Int):List (Int×Int):=qb ns au 9
theorem ntm(ns:List Nd)(au:Int){s:Int}(hs:(jz au)[i]? =some s):qb ns au (i+1)=qb ns au i++(ou ns s).map λn=>((i:Int)+1,n):=by simp[qb,List.range_succ,hs]
theorem n1l(ns:List Nd)(au:Int)(i:Nat):∀k,qb ns au i <+:qb ns au (i+k)
 |0=>List.prefix_refl _
 |k+1=>(n1l ns au i k).trans (by
  have:qb ns au (i+(k+1))=qb ns au (i+k)++(ou ns (((jz au)[i+k]?).getD 0)).map λn=>(((i+k:Nat):Int)+1,n):=by rw[<-Nat.add_assoc];simp[qb,List.range_succ]
  rw[this];exact List.prefix_append _ _)
theorem Kr{au:Int}{s:Int}(hs:(jz au)[i]? =some s)(hi:i<9){p:List (Int×Int)}(h:p <+:(ou ns s).map λn=>((i:Int)+1,n)):qb ns au i++p <+:kC ns au:=by
 have h1:qb ns au i++p <+:qb ns au (i+1):=by rw[ntm ns au hs];exact(List.prefix_append_right_inj _).2 h
 refine h1.trans ?_;have h2:=n1l ns au (i+1) (8-i);rw[show i+1+(8-i)=9 by omega]at h2;exact h2
theorem nUn(ns:List Nd)(au:Int):∀i,(qb ns au i).length<=1024*i
 |0=>by simp[qb]
 |i+1=>by
  have h1:=nUn ns au i;have h2:=nNk ns (((jz au)[i]?).getD 0);have:qb ns au (i+1)=qb ns au i++(ou ns (((jz au)[i]?).getD 0)).map λn=>((i:Int)+1,n):=by simp[qb,List.range_succ]
  rw[this,ck,eG];omega
theorem EG(ns:List Nd)(au:Int):(kC ns au).length<=9216:=nUn ns au 9
noncomputable def IC (ns:List Nd) (i:Nat) (s:Int) (j:Nat):List (Int×Int):=((ou ns s).take j).map λn=>((i:Int)+1,n)
theorem EH(ns:List Nd)(i:Nat)(s:Int):IC ns i s 0=[]:=rfl
theorem nHl{s:Int}{n:Int}(h:(ou ns s)[j]? =some n):IC ns i s (j+1)=IC ns i s j++[((i:Int)+1,n)]:=by unfold IC;rw[np h];simp
theorem Ks(ns:List Nd)(i:Nat)(s:Int)(h:¬j<(ou ns s).length):IC ns i s j=(ou ns s).map λn=>((i:Int)+1,n):=by unfold IC;rw[jO aa]
theorem Kt(ns:List Nd)(i:Nat)(s:Int)(j:Nat):IC ns i s j <+:(ou ns s).map λn=>((i:Int)+1,n):=(List.take_prefix _ _).map _
def X5 (p:Int×Int):List Value:=[ab p.1,ab p.2]
def X6 (b1 b2:Nat) (ns:List Nd) (ta:Option Addr):aE:=λk=>k=b1\/k=b2\/(ns≠ []/\∃off,ta=some ⟨k,off,none⟩)
theorem ai.toG{α:Type}{enc:α->Array Value}{W:World}{xs:List α}{G:Gh}{H:ad}(h:ai enc n N w a xs)(hS:St G L H W)(hw:w∈L)(hN:N<=w.heap.size)(ho:∀b off,a=some ⟨b,off,none⟩->xs=[]\/(b<N->¬G.X b/\aY H b)):ai enc n W.heap.size W a xs:=by
 by_cases h0:xs=[]
 ·exact .inl h0
 exact h.blk λb off e hb=>⟨by have:=(hS.links w hw).size;omega,(hS.links w hw).block b aa (λhx=>hx.elim ((ho b off e).resolve_left h0 hb).1 ((ho b off e).resolve_left h0 hb).2.mem)⟩
theorem n1m(ns:List Nd)(hn:ns.length<=100000)(au:Int)(sD:dW au)(b1 b2:Nat)(NT:Nat)(ta:Option Addr)(tc:Nat)(W:World)(hNW:NT<=W.heap.size)(dX:ai fN 2 NT W ta ns)(hb1:W.heap[b1]? =some (oC #[ab au] 3))(da:W.heap[b2]? =some (oC #[.slice ta ns.length tc] 51)):uc prog 260 [ptr b1 0,ptr b2 0] X5 (Cs (kC ns au)) (Is (kC ns au)) (λ_=>False) (X6 b1 b2 ns ta) W:=by
 intro l M I X0 hM hI hX hy h0;have cF:¬(dh hM (λ_=>False) (hI [] _)).X b1:=by rintro(h|h);exact(hM _ h).2.2 (.inl rfl);exact h.elim
 have bW:¬(dh hM (λ_=>False) (hI [] _)).X b2:=by rintro(h|h);exact(hM _ h).2.2 (.inr (.inl rfl));exact h.elim
 have lX:=(aT.1 hb1).1;have Iz:=(aT.1 da).1;have lQ:=nDp sD;refine nB (dh hM (λ_=>False) (hI [] _)) [] (vs:=[_,_,_]) func260 rfl ntmps260 rfl (Nj hM (hI [] _) h0 zJ (by simp[kV]) zJ) ?_;refine B 3 ?_;refine nG (enc:=aA) (m:=1) (t:=3) (xs:=jz au) (v:=λs=>.tuple #[s,ab 0]) (first:=[]) (cap:=[]) rfl call261 rfl rfl rfl nz (λW hS=>nTl au sD W) ?_;intro Wq aq cpq wq BT QN mx NV;have X7:=BT.sizes;replace X7:=yb X7;have hzq:=QN.size;have X8:=BT.under;replace X8:=yg X8;refine B 15 ?_;refine CJ.loop (α:=Nat×aE) (λp=>[(0,yv l),(1,ptr b1 0),(2,ptr b2 0),(17,.slice aq (jz au).length cpq),(18,ab ((jz au).length:Int)),(19,ab (p.1:Int))]) (λp=>[]) (λp=>[wq,W]) (λp=>dh hM p.2 (hI (qb ns au p.1) p.2)) (λp=>p.1<=9/\∀k,p.2 k->wq.heap.size<=k) (λp=>9-p.1) (0,λ_=>False) ⟨cV _,λ_ h=>h.elim⟩ zR rfl rfl zJ ?_;rintro⟨i,V⟩ ⟨hi,hV⟩;dsimp only at hi hV ⊢;have ann:W.heap.size<=wq.heap.size:=by omega
 clear cF bW;have cF:¬(dh hM V (hI (qb ns au i) V)).X b1:=by rintro(h|h);(exact(hM _ h).2.2 (.inl rfl));(have:=hV _ h;omega)
 have bW:¬(dh hM V (hI (qb ns au i) V)).X b2:=by rintro(h|h);(exact(hM _ h).2.2 (.inr (.inl rfl)));(have:=hV _ h;omega)
 refine B 6 ?_;refine aG ?_ ?_
 ·intro ar;refine B 5 ?_;obtain⟨bq,oq,Qj,tq,Qk,rfl,oT,yK,pY⟩:=mx.get aa;obtain⟨sb,Ul⟩:=ng (jz au) i aa;have agX:=NV _ rfl;dsimp only at agX;refine B 3 ?_;refine rv rfl rfl rfl (av (v:=ab sb) isAgg3 rfl A0 yK (λhx=>by rcases hx with hx|hx;(have:=(hM _ hx).1;omega);(have:=hV _ hx;omega)) trivial (by have:=nN (enc:=λx=>(aA x).toArray) (n:=1) pY Ul rfl zB;simpa[aA]using this)) ?_;refine B 6 ?_;refine ax (.agg #[.slice ta ns.length tc]) ?_;refine B 1 ?_;refine nG (enc:=aA) (m:=1) (t:=3) (xs:=ou ns sb) (v:=λs=>.tuple #[s,ab (NM ns sb)]) (first:=[]) (cap:=[]) rfl call262 rfl rfl rfl nz (λW2 hS=>nHg ns hn W2.heap.size ta tc W2 (ak _) (dX.toG hS A1 hNW (λb off e=>by by_cases h0:ns=[];(exact .inl h0);exact .inr (λhb=>⟨λhx=>by rcases hx with hx|hx;(exact(hM _ hx).2.2 (.inr (.inr ⟨h0,off,e⟩)));(have:=hV _ hx;omega),trivial⟩))) sb) ?_;intro Wr a8 NK wr NW hBr uw BL;have NU:=nNk ns sb;have qV:=hBr.size;have ano:=(NW.links wq A0).size;have hVr:∀j,V j->j<Wr.heap.size:=λj hj=>NW.xlt j (.inr hj);refine B 15 ?_;refine CJ.loop (α:=Nat×aE) (λp=>[(0,yv l),(1,ptr b1 0),(2,ptr b2 0),(6,ab (i:Int)),(17,.slice (some ⟨bq,oq,none⟩) (jz au).length cpq),(18,ab ((jz au).length:Int)),(19,ab (i:Int)),(30,.slice a8 (ou ns sb).length NK),(31,ab ((ou ns sb).length:Int)),(32,ab (p.1:Int))]) (λp=>[]) (λp=>[wr,wq,W]) (λp=>dh hM p.2 (hI (qb ns au i++IC ns i sb p.1) p.2)) (λp=>p.1<=(ou ns sb).length/\∀k,p.2 k->V k\/wr.heap.size<=k) (λp=>(ou ns sb).length-p.1) (0,V) ⟨cV _,λ_ h=>.inl h⟩ zR rfl (by rw[EH,dV]) zJ ?_
  rintro⟨j,V1⟩ ⟨hj,ue⟩;dsimp only at hj ue ⊢;have X9:∀k,V1 k->W.heap.size<=k:=λk hk=>by rcases ue k hk with h|h;(have:=hV k h;omega);omega
  refine B 6 ?_;refine aG ?_ ?_
  ·intro aN;refine B 5 ?_;obtain⟨bn,on,csn,tn,Nx,rfl,ml,agY,agZ⟩:=uw.get aa;obtain⟨n,hn1⟩:=ng (ou ns sb) j aa;have ag0:=BL _ rfl;dsimp only at ag0;refine B 2 ?_;refine rv rfl rfl rfl (av (v:=ab n) isAgg3 rfl A0 agY (λhx=>by rcases hx with hx|hx;(have:=(hM _ hx).1;omega);(rcases ue _ hx with h|h;(have:=hVr _ h;omega);omega)) trivial (by have:=nN (enc:=λx=>(aA x).toArray) (n:=1) agZ hn1 rfl zB;simpa[aA]using this)) ?_;refine B 9 ?_;refine XO (λ_=>False) id Ya (V:=V1) (λV=>hI ((qb ns au i++IC ns i sb j)++[((i:Int)+1,n)]) V) hX X9 rfl rfl rfl rfl (λW1 hw1 kO=>hy (qb ns au i++IC ns i sb j) ((i:Int)+1,n) V1 W1 (by rw[iP,<-nHl hn1];exact Kr Ul aa (Kt ns i sb (j+1))) hw1 kO) ?_ ?_
   ·intro V2 kS wg;have QO:=wg wr A0;refine B 11 ?_;refine PJ.again (j+1,V2) ⟨by dsimp only;omega,λk hk=>by rcases QO k hk with h|h;(exact ue k h);exact .inr h⟩ zW zR rfl (by rw[nHl hn1,<-iP];rfl) zJ
   intro V2 kS wg;have QO:=wg wr A0;refine B 13 ?_;exact Bs (.inl rfl) results260 A2 (λk hk=>by rcases QO k hk with h|h;(exact X9 k h);omega) (by intro k hk hx;simp at hx) (λA hA=>.inr hA)
  intro aN;refine B 10 ?_;refine PJ.again (i+1,V1) ⟨by dsimp only;omega,λk hk=>by rcases ue k hk with h|h;(exact hV k h);omega⟩ zW zR rfl (by rw[ntm ns au Ul,Ks ns i sb aa]) zJ
 intro ar;refine B 4 ?_;exact Bs (.inr rfl) results260 A1 (λk hk=>by have:=hV k hk;omega) (by intro k hk hx;simp at hx) (λA hA=>.inl ⟨qb ns au i,by unfold kC;rw[show i=9 by omega],hA⟩)
def sJ (p:Int×Int):List Value:=[ab p.2,ab p.1,ab 0,ao]
def QP (p:Int×Int):Array Value:=#[ab p.2,ab p.1,ab 0,ao]
theorem UO(p:Int×Int):(sJ p).length=4:=rfl
theorem Ku(p:Int×Int):∀u∈sJ p,u.oneCell'=true:=by intro u hu;simp[sJ]at hu;rcases hu with rfl|rfl|rfl|rfl<;>rfl
theorem Kx:prog.info? 110=some Tryz.t110:=by kernel_rfl
theorem Yb:iR prog 56 110 4:=⟨underlying56,Tryz.t110,.agg #[ab 0,ab 0,ab 0,ao],Kx,rfl,rfl,rfl,by decide⟩
noncomputable def AD (g:Gp) (au:Int) (l:List Ch):Bool:=jC l&&mz g au l
noncomputable def fZ (g:Gp) (au:Int) (l:List Ch):List (Int×Int):=if dR g=true/\AD g au l=true then kC (aX g.ns l) au else[]
noncomputable def eT (g:Gp) (au:Int) (l:List Ch):Int:=if dR g=true then(if AD g au l=true then 0 else 221)else 1
theorem n4i(h:jC l=true):(∀x∈l,dW x.dev)/\l.length<=64:=⟨λx hx=>by obtain⟨i,hi⟩:=kA.1 hx;exact((QG.1 h).1 i x (nr hi) hi).1.2,(QG.1 h).2⟩
theorem nkj(ta:Option Addr)(n tc:Nat)(au:Int)(w:World):Calls prog 198 #[.agg #[.slice ta n tc],ab au] w (cN w (λq:Nat×Nat=>.func (.func 260) #[] #[ptr q.1 0,ptr q.2 0]) (λq w1=>w.heap.size<=q.1/\w.heap.size<=q.2/\w1.heap[q.1]? =some (oC #[ab au] 3)/\w1.heap[q.2]? =some (oC #[.slice ta n tc] 51))):=by
 refine eN func198 ntmps198 ?_;refine B 2 ?_;refine yX ?_;intro b2 w2 da bW eU dx dq;refine yX ?_;intro b3 w3 hb3 cK fF ez eP;refine B 10 ?_;refine rS (b3,b2) results198 rfl A2 rfl ?_;exact λW hS=>⟨by have:=ez.2.1;omega,by have:=dx.1;omega,hS.old A0 hb3 cK trivial,hS.old A1 da bW trivial⟩
theorem nYi(G:Gv)(N:Nat)(w:World)(hN:N<=w.heap.size)(hG:bT N w G)(l:List Ch)(hxl:l.length<=1000000)(a:Option Addr)(cp:Nat)(aJ:ai gh 5 N w a l)(au:Int)(hv:dR G.g=false):Calls prog 134 #[.agg (bD G),ab au,.slice a l.length cp] w (aD w sJ 4 110 [] (λs=>.tuple #[s,ab 1])):=by
 refine eN func134 ntmps134 ?_;refine B 2 ?_;refine yX ?_;intro b3 w3 hb3 cK fF ez eP;refine B 1 ?_;refine yW ?_;intro b6 jD qu;refine B 6 ?_;refine ax (.agg (bD G)) ?_;refine zle ?_;refine B 11 ?_;exact zug
theorem nfn(G:Gv)(N:Nat)(w:World)(hN:N<=w.heap.size)(hG:bT N w G)(l:List Ch)(hxl:l.length<=1000000)(a:Option Addr)(cp:Nat)(aJ:ai gh 5 N w a l)(au:Int)(hv:dR G.g=true)(hf:jC l=false):Calls prog 134 #[.agg (bD G),ab au,.slice a l.length cp] w (aD w sJ 4 110 [] (λs=>.tuple #[s,ab 221])):=by
 refine eN func134 ntmps134 ?_;refine B 2 ?_;refine yX ?_;intro b3 w3 hb3 cK fF ez eP;refine B 1 ?_;refine yW ?_;intro b6 jD qu;refine Yc ?_;refine B 9 ?_;refine z5d ?_;refine rq cX (iT rfl) (by rw[hf];rfl) ?_;refine B 18 ?_;exact zug
theorem nPh(G:Gv)(N:Nat)(w:World)(hN:N<=w.heap.size)(hG:bT N w G)(l:List Ch)(hxl:l.length<=1000000)(a:Option Addr)(cp:Nat)(aJ:ai gh 5 N w a l)(au:Int)(hv:dR G.g=true)(hf:jC l=true)(hp:mz G.g au l=false):Calls prog 134 #[.agg (bD G),ab au,.slice a l.length cp] w (aD w sJ 4 110 [] (λs=>.tuple #[s,ab 221])):=by
 refine eN func134 ntmps134 ?_;refine B 2 ?_;refine yX ?_;intro b3 w3 hb3 cK fF ez eP;refine B 1 ?_;refine yW ?_;intro b6 jD qu;refine zdf ?_;refine B 1 ?_;refine ax (.agg (bD G)) ?_;refine B 2 ?_;refine zFe ?_;refine rq cX (iT rfl) (by rw[hp];rfl) ?_;refine B 12 ?_;exact zug
theorem nBp(G:Gv)(N:Nat)(w:World)(hN:N<=w.heap.size)(hG:bT N w G)(l:List Ch)(hxl:l.length<=1000000)(a:Option Addr)(cp:Nat)(aJ:ai gh 5 N w a l)(au:Int)(sD:dW au)(hv:dR G.g=true)(hf:jC l=true)(hp:mz G.g au l=true):Calls prog 134 #[.agg (bD G),ab au,.slice a l.length cp] w (aD w sJ 4 110 (kC (aX G.g.ns l) au) (λs=>.tuple #[s,ab 0])):=by
 obtain⟨qw,Aw⟩:=n4i hf;have Ur:=hG.nn;have NU:=QL l G.g.ns;obtain⟨T,hT⟩:∃T,aX G.g.ns l=T:=⟨_,rfl⟩;rw[hT]at NU ⊢;have wh:=EG T au;refine Pj Gh.no [] (vs:=[_,_,_]) func134 rfl ntmps134 rfl (Jg w) ?_;refine B 2 ?_;refine yX ?_;intro b3 w3 hb3 cK fF ez eP;refine B 1 ?_;refine yW ?_;intro b6 jD qu;refine zdf ?_;refine B 1 ?_;refine ax (.agg (bD G)) ?_;refine B 2 ?_;refine zFe ?_;refine rq bG (iT rfl) (by rw[hp];rfl) ?_;refine B 9 ?_;refine ax (.agg (bD G)) ?_;refine B 1 ?_;refine nv (α:=Option Addr×Nat) (v:=λq=>.agg #[.slice q.1 T.length q.2]) (Φ:=λW q w1=>ai fN 2 w1.heap.size w1 q.1 T/\∀b off,q.1=some ⟨b,off,none⟩->T=[]\/b<N\/W.heap.size<=b) call140 rfl rfl rfl (λW hS=>by rw[<-hT];exact nxc G N W cM (hG.up (ak _) hS.sm) l hxl a cp (aJ.up (ak _) hS.sm) Aw qw) ?_;rintro Wr ⟨ta,tc⟩ wr NW hBr ⟨rY,gO⟩;dsimp only at rY gO ⊢;have hUr:=NW.under;replace hUr:=yg hUr;have qV:=hBr.size;have anp:=(NW.links w A1).size;refine B 1 ?_;refine nv (α:=Nat×Nat) (v:=λq:Nat×Nat=>.func (.func 260) #[] #[ptr q.1 0,ptr q.2 0]) (Φ:=λW q w1=>W.heap.size<=q.1/\W.heap.size<=q.2/\w1.heap[q.1]? =some (oC #[ab au] 3)/\w1.heap[q.2]? =some (oC #[.slice ta T.length tc] 51)) call198 rfl rfl rfl (λW hS=>nkj ta _ tc au W) ?_;rintro Wn q wn sK AE ⟨hq1,hq2,hq3,hq4⟩
 try dsimp only at hq1 hq2 hq3 hq4
 have Qu:=(aT.1 hq3).1;have Qv:=(aT.1 hq4).1;have UP:=AE.size;have anr:=(sK.links wr A0).size;have tE:=sK.under;replace tE:=yg tE;have hOt:∀b off,ta=some ⟨b,off,none⟩->T=[]\/b≠b6:=λb off e=>by rcases gO b off e with h|h|h;(exact .inl h);(exact .inr aa);(exact .inr aa)
 refine B 3 ?_;refine VU (f:=260) (cap:=[ptr q.1 0,ptr q.2 0]) (α:=Int×Int) (enc:=X5) (Pre:=Cs (kC T au)) (Fin:=Is (kC T au)) (RO:=X6 q.1 q.2 T ta) (MI:=λ_=>False) rfl call260 (λW' W2 hS hB=>by have lX:=(hS.links wn A0).size;have Iz:=(hS.links wr A1).size;exact n1m T aa au sD q.1 q.2 W'.heap.size ta tc W2 hB.size ((rY.toG hS A1 (ak _) (λb off e=>(hOt b off e).imp id (λh _=>⟨λhx=>hx,by simp only[aY,and_true];omega⟩))).up (ak _) (λk hk=>hB.block k hk)) (by rw[hB.block q.1 aa];exact hS.old A0 hq3 zL zA) (by rw[hB.block q.2 aa];exact hS.old A0 hq4 zL zA)) (λ_ _ _ hk=>hk.elim) (λW' hS k hk=>by have lX:=(hS.links wn A0).size;have Iz:=(hS.links wr A1).size;simp only[dt,eL,bX,dy,or_false];rcases hk with rfl|rfl|⟨h0,off,e⟩;(exact⟨by omega,by omega,λh=>h⟩);(exact⟨by omega,by omega,λh=>h⟩);exact⟨by have:=(rY.lt e).resolve_left h0;omega,(hOt _ off e).resolve_left h0,λh=>h⟩) (λ_=>rfl) (λpre G' Hc=>G'=Gh.no/\∃r:Rw,r.Fr Gh.no [wn,wr,w3,w]/\r.Fit 4 pre/\Hc=[(b6,oC #[r.val pre.length] 56)]++(r.hp sJ 110 pre++[])) (λ_ _ _=>False) ⟨rfl,.nil,True.intro,rfl,rfl⟩ zB ?_ ?_ ?_
 ·rintro pre x G' Hc l Dk rec W1 M V Wy oe vn dP ⟨rfl,r,aK,ah,rfl⟩ iH lD Pm yi du Df;simp only[ae]at iH yi;have bH:r.ge wn.heap.size:=Rw.ge_of aK A0;have im:=dP.length_le;simp only[ck,dC,fb]at im;have D5:∀p∈r.hp sJ 110 pre,M p.1\/V p.1:=λp hp=>du.loc.h p Ux;refine B 8 ?_;refine Nl oe ?_;refine B 5 ?_;refine ax (.agg #[ab x.2,ab x.1,ab 0,ao]) ?_;refine iS underlying56 sizeOf110 zeroValue110 rfl rfl rfl rfl rfl rfl rfl ?_;refine yW ?_;intro eH iz ag3;refine jS (r:=r) (xs:=pre) (zs:=[x]) (enc:=sJ) (m:=4) (H0:=[(eH,oC #[ab x.2,ab x.1,ab 0,ao] 110),(b6,oC #[r.val pre.length] 56)]) (H1:=(l,.loop {rec with state:=.busy})::fq Dk) zX Yb UO rfl rfl rfl rfl (bO.one (z:=x) UO Ku underlying56 (bB.own (i:=0) rfl)) ah (Rw.Fr_ext D5) zJ Az ?_;intro mB gM iA lg gT;replace lg:=yb lg;refine B 3 ?_;refine pV ?_;refine Jh (G2:=Gh.no) (Hc2:=[(b6,oC #[(Rw.row mB gM iA).val (pre++[x]).length] 56)]++((Rw.row mB gM iA).hp sJ 110 (pre++[x])++[])) du lD ⟨λ_ h=>h,λ_ h=>.inl h,λ_ h=>.inl h,(Uy rfl (lg.imp id (λh=>h.1))),zNc⟩ (Ji oe vn) ?_;exact⟨rfl,.row mB gM iA,lg.elim (λh=>Rw.Fr_at aK h) (λh=>.inr h.2),gT,rfl⟩
 ·rintro pQ l Dk rec G' Hc rfl iH lD ⟨rfl,r,aK,ah,rfl⟩;replace iH:=yb iH;have bH:r.ge wn.heap.size:=Rw.ge_of aK A0;refine P0 λWd yh=>?_;have ml:=Uz yh;refine B 5 ?_;refine gK (i:=0) rfl sizeOf56 rfl rfl rfl (Rw.val_size _ _) rfl (Rw.val_one _ _) ?_;refine B 4 ?_;have hq:=λ(k:Nat)=>Rw.mem_ge (enc:=sJ) (t:=110) (xs:=kC T au) (k:=k) bH;refine PJ.reH (H':=(b6,oC #[r.val (kC T au).length] 56)::(r.hp sJ 110 (kC T au)++(l,.loop rec)::fq Dk)) UA ?_;refine D6 (b:=b6) (r:=r) (xs:=kC T au) (.inl rfl) results134 isAgg56 rfl rfl zJ A0 (ml _ A0).1 rfl ah (λp hp=>⟨.tail _ (bA.2 (.inl hp)),(ml p (bA.2 (.inr (bA.2 (.inl hp))))).1⟩) (Rw.ge_of aK A3) (λW H' hS aQ=>(hS.links w A3).below λk hk hx=>?_);exact Xi
 exact Pn
theorem nzb(G:Gv)(N:Nat)(w:World)(hN:N<=w.heap.size)(hG:bT N w G)(l:List Ch)(hxl:l.length<=1000000)(a:Option Addr)(cp:Nat)(aJ:ai gh 5 N w a l)(au:Int)(sD:dW au):Calls prog 134 #[.agg (bD G),ab au,.slice a l.length cp] w (aD w sJ 4 110 (fZ G.g au l) (λs=>.tuple #[s,ab (eT G.g au l)])):=by
 cases hv:dR G.g with
 |false=>rw[show fZ G.g au l=[] by simp[fZ,hv],show eT G.g au l=1 by simp[eT,hv]];exact nYi G N w hN hG l hxl a cp aJ au hv
 |true=>cases hf:jC l with
  |false=>rw[show fZ G.g au l=[] by simp[fZ,AD,hf],show eT G.g au l=221 by simp[eT,AD,hv,hf]];exact nfn G N w hN hG l hxl a cp aJ au hv hf
  |true=>cases hp:mz G.g au l with
   |false=>rw[show fZ G.g au l=[] by simp[fZ,AD,hp],show eT G.g au l=221 by simp[eT,AD,hv,hp]];exact nPh G N w hN hG l hxl a cp aJ au hv hf hp
   |true=>rw[show fZ G.g au l=kC (aX G.g.ns l) au by simp[fZ,AD,hv,hf,hp],show eT G.g au l=0 by simp[eT,AD,hv,hf,hp]];exact nBp G N w hN hG l hxl a cp aJ au sD hv hf hp
structure CN where
 u:Int
 ba:Option Addr
 bc:Nat
 body:List UInt8
def wrA (x:CN):Array Value:=#[ab x.u,.slice x.ba x.body.length x.bc]
structure Bx where
 node:Int
 level:Int
 w:CN
def yS (x:Bx):Array Value:=#[ab x.node,ab x.level,ab x.w.u,.slice x.w.ba x.w.body.length x.w.bc]
structure We where
 dev:Int
 w:CN
def wj (x:We):Array Value:=#[ab x.dev,ab x.w.u,.slice x.w.ba x.w.body.length x.w.bc]
structure Cm where
 folder:Int
 epoch:Int
 par:Nat->Int
 author:Int
 chs:List Ch
 ca:Option Addr
 cc:Nat
 path:List Int
 pa:Option Addr
 pc:Nat
 bxs:List Bx
 ba:Option Addr
 bc:Nat
 wes:List We
 wa:Option Addr
 wc:Nat
 conf:Nat->Int
 sr:Int
 ss:Int
def cG (c:Cm):Array Value:=(ab c.folder::ab c.epoch::lL c.par (ab c.author:: .slice c.ca c.chs.length c.cc:: .slice c.pa c.path.length c.pc:: .slice c.ba c.bxs.length c.bc:: .slice c.wa c.wes.length c.wc::lL c.conf [ab c.sr,ab c.ss])).toArray
def uC (N:Nat) (w:World) (x:CN):Prop:=x.body=[]\/∃b off,x.ba=some ⟨b,off,none⟩/\b<N/\cj w b off x.body
theorem uC.up{N':Nat}{w':World}{x:CN}(h:uC N w x)(hN:N<=N')(hw:∀k,k<N->w'.heap[k]? =w.heap[k]?):uC N' w' x:=by
 exact zEh
structure dm (N:Nat) (w:World) (c:Cm):Prop where
 chs:ai gh 5 N w c.ca c.chs
 path:ai encI 1 N w c.pa c.path
 bxs:ai yS 4 N w c.ba c.bxs
 wes:ai wj 3 N w c.wa c.wes
 bb:∀x∈c.bxs,uC N w x.w
 wb:∀x∈c.wes,uC N w x.w
structure qW (c:Cm):Prop where
 bp:ec c.par
 bf:ec c.conf
 chs:c.chs.length<=10
 path:c.path.length<=12
 bxs:c.bxs.length<=40
 wes:c.wes.length<=10
 bb:∀x∈c.bxs,x.w.body.length<=200
 wb:∀x∈c.wes,x.w.body.length<=200
theorem dm.up{N':Nat}{w':World}{c:Cm}(h:dm N w c)(hN:N<=N')(hw:∀k,k<N->w'.heap[k]? =w.heap[k]?):dm N' w' c:=⟨h.chs.up hN hw,h.path.up hN hw,h.bxs.up hN hw,h.wes.up hN hw,λx hx=>(h.bb x hx).up hN hw,λx hx=>(h.wb x hx).up hN hw⟩
def BU (x:CN):Prop:=dY x.u/\16<=x.body.length/\x.body.length<=65552
open Classical in
noncomputable def yT (x:CN):Int:=if BU x then 0 else 90
theorem ny{x:CN}:yT x=0↔BU x:=by unfold yT;split<;>simp_all
theorem Yd{x:CN}(h:¬BU x):ab 90=ab (yT x):=by unfold yT;rw[if_neg h]
theorem n6i{x:CN}(h:BU x):ab 0=ab (yT x):=by unfold yT;rw[if_pos h]
def pD {α:Type} (p:Nat->α->Prop) (xs:List α) (j:Nat):Prop:=∀i x,i<j->xs[i]? =some x->p i x
theorem pD.next{α:Type}{p:Nat->α->Prop}{xs:List α}{x:α}(h:pD p xs j)(hx:xs[j]? =some x)(hp:p j x):pD p xs (j+1):=by
 exact zQh
theorem pD.all{α:Type}{p:Nat->α->Prop}{xs:List α}(h:pD p xs j)(hj:¬j<xs.length):∀i x,xs[i]? =some x->p i x:=λi x hx=>h i x UD hx
def Ye (x:Bx):Prop:=(1<=x.node/\x.node<1024/\1<=x.level/\x.level<=9)/\BU x.w
def Yf (l:List We) (i:Nat) (x:We):Prop:=dW x.dev/\(∀y,0<i->l[i-1]? =some y->y.dev<x.dev)/\BU x.w
structure CkP (c:Cm):Prop where
 fo:p7 c.folder
 e1:1<=c.epoch
 e2:c.epoch<=1099511627776
 au:dW c.author
 ch:jC c.chs=true
 pl:c.path.length=10
 bl:c.bxs.length<=1024
 wl:c.wes.length<=512
 path:∀(i:Nat) x,c.path[i]? =some x->dY x
 box:∀(i:Nat) x,c.bxs[i]? =some x->Ye x
 wel:∀i x,c.wes[i]? =some x->Yf c.wes i x
open Classical in
noncomputable def sL (c:Cm):Int:=if CkP c then 0 else 220
theorem QQ{c:Cm}:sL c=0↔CkP c:=by unfold sL;split<;>simp_all
theorem Ky(c:Cm):sL c=0\/sL c=220:=by unfold sL;split<;>simp
theorem nb{c:Cm}(h:¬CkP c):ab 220=ab (sL c):=by unfold sL;rw[if_neg h]
theorem npb{c:Cm}(h:CkP c):ab 0=ab (sL c):=by unfold sL;rw[if_pos h]
theorem nle(x:CN)(w:World):Calls prog 71 #[.agg (wrA x)] w (aM w (ab (yT x))):=by
 obtain⟨e,he⟩:∃e,(if dY x.u then(0:Int)else 40)=e:=⟨_,rfl⟩;have IA:=XR x.u;rw[he]at IA;refine eN func71 ntmps71 ?_;refine B 2 ?_;refine yX ?_;intro b1 w1 hb1 cF gA fX jq;refine B 16 ?_;refine zOd ?_;refine B 2 ?_;refine ni (t:=11) rfl (λar=>?_) (λar=>?_)
 ·replace ar:=ya ar;refine B 17 ?_;exact zgg
 replace ar:=ya ar;refine B 4 ?_;refine ni (t:=15) rfl (λaN=>?_) (λaN=>?_)
 ·replace aN:=ya aN;refine B 13 ?_;exact zgg
 replace aN:=ya aN;refine B 5 ?_;refine aG ?_ ?_
 ·intro dc;refine B 7 ?_;exact zgg
 intro dc;refine B 8 ?_;exact zgg
theorem ntb(c:Cm)(qX:qW c)(N:Nat)(w:World)(hN:N<=w.heap.size)(hC:dm N w c):Calls prog 149 #[.agg (cG c)] w (aM w (ab (sL c))):=by
 have Ax:=qX.chs;have DH:=qX.path;have PF:=qX.bxs;have UQ:=qX.wes;have yU:=hC.chs;have oS:=hC.path;have QR:=hC.bxs;have KA:=hC.wes;refine eN func149 ntmps149 ?_;refine B 2 ?_;refine yX ?_;intro b1 w1 hb1 cF gA fX jq;refine B 8 ?_;refine call call217 rfl rfl rfl (λW hS=>nwl _ W) ?_;refine B 2 ?_;refine ni (t:=13) rfl (λar=>?_) (λar=>?_)
 ·replace ar:=ya ar;refine B 49 ?_;exact ID
 replace ar:=ya ar;refine B 5 ?_;refine ni (t:=18) rfl (λaN=>?_) (λaN=>?_)
 ·replace aN:=ya aN;refine B 44 ?_;exact ID
 replace aN:=ya aN;refine B 5 ?_;refine ni (t:=23) rfl (λdc=>?_) (λdc=>?_)
 ·replace dc:=ya dc;refine B 39 ?_;exact ID
 replace dc:=ya dc;refine B 2 ?_;refine call call222 rfl rfl rfl (λW hS=>UG _ W) ?_;refine B 3 ?_;refine ni (t:=29) rfl (λjo=>?_) (λjo=>?_)
 ·replace jo:=ya jo;refine B 33 ?_;exact ID
 replace jo:=ya jo;refine B 2 ?_;refine call call196 rfl rfl rfl (λW hS=>nKc c.chs aa N c.ca c.cc W cM (hC.chs.up (ak _) hS.sm)) ?_;refine B 3 ?_;refine ni (t:=35) rfl (λij=>?_) (λij=>?_)
 ·replace ij:=ya ij;refine B 27 ?_;exact ID
 replace ij:=ya ij;refine B 6 ?_;refine ni (t:=41) rfl (λlI=>?_) (λlI=>?_)
 ·replace lI:=ya lI;refine B 21 ?_;exact ID
 replace lI:=ya lI;refine B 6 ?_;refine ni (t:=47) rfl (λke=>?_) (λke=>?_)
 ·replace ke:=ya ke;refine B 15 ?_;exact ID
 replace ke:=ya ke;refine B 7 ?_;refine aG ?_ ?_
 ·intro Je;refine B 7 ?_;exact ID
 intro Je;refine B 12 ?_;refine CJ.lp (α:=Nat) [1,55] (λj=>[(54,.slice c.pa c.path.length c.pc),(56,ab (j:Int))]) (λj=>[]) (λj=>j<=c.path.length/\pD (λ_ x=>dY x) c.path j) (λj=>c.path.length-j) 0 ⟨cV _,λi x hi=>absurd hi aa⟩ ?_;rintro j ⟨hj,ea⟩;refine B 6 ?_;refine aG ?_ ?_
 ·intro qH;refine B 5 ?_;obtain⟨bo,oo,cs0,to,fG,gU,fH,cJ,aW⟩:=oS.get aa;obtain⟨y,hy⟩:=ng c.path j aa;rw[gU];obtain⟨e,he⟩:∃e,(if dY y then(0:Int)else 40)=e:=⟨_,rfl⟩;have IA:=XR y;rw[he]at IA;refine B 2 ?_;refine rv rfl rfl rfl (av (v:=ab y) isAgg3 rfl A1 cJ zL trivial (by have:=nN aW hy rfl zB;simpa[encI]using this)) ?_;refine B 6 ?_;refine zOd ?_;refine B 3 ?_;refine aG ?_ ?_
  ·intro tZ;refine B 11 ?_;exact ID
  intro tZ;refine B 7 ?_;refine ag (j+1) ⟨by omega,ea.next hy (IA.1 aa)⟩
 intro qH;refine B 15 ?_;have hA1:=ea.all aa;refine CJ.lp (α:=Nat) [1,66] (λj=>[(65,.slice c.ba c.bxs.length c.bc),(67,ab (j:Int))]) (λj=>[]) (λj=>j<=c.bxs.length/\pD (λ_ x=>Ye x) c.bxs j) (λj=>c.bxs.length-j) 0 ⟨cV _,λi x hi=>absurd hi aa⟩ ?_;rintro j ⟨hj,ea⟩;refine B 6 ?_;refine aG ?_ ?_
 ·intro ua;refine B 5 ?_;obtain⟨bo,oo,cs0,to,fG,gU,fH,cJ,aW⟩:=QR.get aa;obtain⟨x,hx⟩:=ng c.bxs j aa;rw[gU];refine B 2 ?_;refine ax (.agg (yS x)) ?_;refine B 1 ?_;refine yW ?_;intro b6 jD qu;refine B 9 ?_;refine ni (t:=74) rfl (λoG=>?_) (λoG=>?_)
  ·replace oG:=ya oG;refine B 34 ?_;exact QS
  replace oG:=ya oG;refine B 5 ?_;refine ni (t:=79) rfl (λoH=>?_) (λoH=>?_)
  ·replace oH:=ya oH;refine B 29 ?_;exact QS
  replace oH:=ya oH;refine B 5 ?_;refine ni (t:=84) rfl (λxY=>?_) (λxY=>?_)
  ·replace xY:=ya xY;refine B 24 ?_;exact QS
  replace xY:=ya xY;refine B 5 ?_;refine ni (t:=89) rfl (λxZ=>?_) (λxZ=>?_)
  ·replace xZ:=ya xZ;refine B 19 ?_;exact QS
  replace xZ:=ya xZ;refine B 1 ?_;refine ax (.agg (wrA x.w)) ?_;refine call call71 rfl rfl rfl (λW hS=>nle x.w W) ?_;refine B 4 ?_;refine aG ?_ ?_
  ·intro Pf;exact z7h
  intro Pf;refine xx ?_;refine ag (j+1) ⟨by omega,ea.next hx ⟨by omega,ny.1 aa⟩⟩
 intro ua;refine B 15 ?_;have Yg:=ea.all aa;refine CJ.lp (α:=Nat) [1,98] (λj=>[(97,.slice c.wa c.wes.length c.wc),(99,ab (j:Int))]) (λj=>[]) (λj=>j<=c.wes.length/\pD (Yf c.wes) c.wes j) (λj=>c.wes.length-j) 0 ⟨cV _,λi x hi=>absurd hi aa⟩ ?_;rintro j ⟨hj,ea⟩;refine B 6 ?_;refine aG ?_ ?_
 ·intro ag8;refine B 5 ?_;obtain⟨bo,oo,cs0,to,fG,gU,fH,cJ,aW⟩:=KA.get aa;obtain⟨x,hx⟩:=ng c.wes j aa;rw[gU];refine B 3 ?_;refine ax (.agg (wj x)) ?_;refine B 1 ?_;refine yW ?_;intro b8 Ik Il;refine B 5 ?_;by_cases h1:¬dW x.dev
  ·refine eA 17 (pb:=by exact zU 2 (k:=by exact aU (nf call222 rfl rfl (λW hS _=>by have h9:=UG x.dev W;rw[decide_eq_false h1]at h9;exact h9) (λ_=>rfl)) zT)) (sp:=(_::_::(some (bG))::(some cX)::_)) (k:=?_);refine B 23 ?_;exact QS
  by_cases h2:j=0
  ·refine eA 17 (pb:=by exact zU 2 (k:=by exact aU (nf call222 rfl rfl (λW hS _=>by have h9:=UG x.dev W;rw[decide_eq_true (Classical.not_not.1 h1)]at h9;exact h9) (λ_=>rfl)) zT)) (sp:=(_::_::(some (cX))::(some bG)::_::_::(some bG)::_)) (k:=?_);refine B 5 ?_;refine zLe ?_;refine B 4 ?_;refine aG ?_ ?_
   ·intro ag9;exact z7h
   intro ag9;exact zKg
  obtain⟨y,hy⟩:=ng c.wes (j-1) aa;by_cases h3:x.dev<=y.dev
  ·refine eA 17 (pb:=by exact zU 2 (k:=by exact aU (nf call222 rfl rfl (λW hS _=>by have h9:=UG x.dev W;rw[decide_eq_true (Classical.not_not.1 h1)]at h9;exact h9) (λ_=>rfl)) (zU 6 (k:=by exact aU (X.v (RV.re (v':=.slice (some ⟨bo,oo,none⟩) c.wes.length c.wc) (av isAgg57 rfl A0 hb1 cF zA rfl) (congrArg (λq=>Value.slice q c.wes.length c.wc) gU))) (zU 4 (k:=by exact aU (X.v (av (v:=ab y.dev) isAgg3 rfl A1 cJ zL zA (by have:=yQ (i:=(j:Int)-1) aW hy aa 0 zB;simpa[wj]using this))) zT)))))) (sp:=(_::_::(some (cX))::(some bG)::_::_::(some cX)::_)) (k:=?_);refine ax cX ?_;refine B 22 ?_;exact QS
  refine eA 17 (pb:=by exact zU 2 (k:=by exact aU (nf call222 rfl rfl (λW hS _=>by have h9:=UG x.dev W;rw[decide_eq_true (Classical.not_not.1 h1)]at h9;exact h9) (λ_=>rfl)) (zU 6 (k:=by exact aU (X.v (RV.re (v':=.slice (some ⟨bo,oo,none⟩) c.wes.length c.wc) (av isAgg57 rfl A0 hb1 cF zA rfl) (congrArg (λq=>Value.slice q c.wes.length c.wc) gU))) (zU 4 (k:=by exact aU (X.v (av (v:=ab y.dev) isAgg3 rfl A1 cJ zL zA (by have:=yQ (i:=(j:Int)-1) aW hy aa 0 zB;simpa[wj]using this))) zT)))))) (sp:=(_::_::(some (cX))::(some bG)::_::_::(some cX)::_)) (k:=?_);refine ax bG ?_;refine B 4 ?_;refine zLe ?_;refine B 4 ?_;refine aG ?_ ?_
  ·intro aha;exact z7h
  intro aha;exact zKg
 intro ag8;refine B 11 ?_;exact ID
abbrev qd (l:List UInt8):ByteArray:=strOfNums (l.map λu=>(u.toNat:Int))
theorem EI(l:List UInt8):(qd l).size=l.length:=by rw[strOfNums_size,eG]
def ByAt (N:Nat) (w:World) (a:Option Addr) (l:List UInt8):Prop:=l=[]\/∃b off,a=some ⟨b,off,none⟩/\b<N/\cj w b off l
theorem ndf{P:Program}(w:World)(src e:Nat)(hs:P.underlying src=some (.slice e))(he:P.underlying e=some (.int .u8))(a:Option Addr)(cap:Nat)(dst:Nat)(hd:P.underlying dst=some .string):(convert src dst (.slice a 0 cap)).run P w= .ok (.string (strOfNums [])) w:=by
 cases a with
 |none=>
  have hr:=run_convert_bytes_nil (P:=P) w src e hs he 0 cap dst hd;rw[hr];rfl
 |some a=>
  have hl:(loadCells a 0).run P w= .ok (([]:List Int).map (Value.int .u8)).toArray w:=by simp[loadCells,loadCellsFrom]
  rw[run_convert_bytes_string w src dst e _ 0 cap hs he hd,run_bytesToString w _ 0 cap [] hl,foldl_push_bytes];simp[strOfNums,ByteArray.empty,ByteArray.emptyWithCapacity];rfl
theorem QT{C:Cx}{G:Gh}{H:ad}{E:Env}{x:Operand}{src dst e c:Nat}{l:List UInt8}{w1:World}(hs:C.P.underlying src=some (.slice e))(he:C.P.underlying e=some (.int .u8))(hd:C.P.underlying dst=some .string)(hx:ev E x=some (.slice a l.length c))(hm:w1∈L)(hb:ByAt N w1 a l)(hG:∀b,b<N->¬G.X b/\aY H b):RV C G L H E (.convert src dst x) (.string (qd l)):=λd ty pos aC g ac W hF hS=>by
 rcases hb with h1|⟨b,off,h1,h2,cs,t,fr,h3,h4,h5⟩
 ·subst h1;have hr:=ndf (P:=C.P) W src e hs he a c dst hd;simp only[fb]at hx;simp[execOp,hF.ev hx,hr];rfl
 subst h1;have hW:=hS.old hm h3 (hG b h2).1 (hG b h2).2;have hr:=run_convert_bytes_arg (P:=C.P) W src e hs he b off l.length c (l.map λu=>(u.toNat:Int)) zJ (λi hi=>by
  rw[KB hW,h5 i hi];simp[fU,List.getD,hi]) dst hd
 simp[execOp,hF.ev hx,hr]
theorem nDb(n:Int)(w:World):Calls prog 89 #[ab n] w (aM w (vI n)):=by
 refine eN func89 ntmps89 ?_;refine B 3 ?_;refine yW ?_;intro b2 dx dq;refine B 10 ?_;refine cC (.inl rfl) results89 bj A0 zC ?_;rfl
theorem Yh(l:List UInt8)(N:Nat)(a:Option Addr)(c:Nat)(w:World)(hN:N<=w.heap.size)(hb:ByAt N w a l):Calls prog 90 #[.slice a l.length c] w (aM w (vT (qd l))):=by
 refine eN func90 ntmps90 ?_;refine B 3 ?_;refine yW ?_;intro b2 dx dq;refine B 5 ?_;refine zfe ?_;refine B 5 ?_;refine cC (.inl rfl) results90 bj A0 zC ?_;rfl
theorem Yi(base:Option Addr)(n c:Nat)(w:World):Calls prog 86 #[.slice base n c] w (aM w (vL base n c)):=by
 refine eN func86 ntmps86 ?_;refine B 3 ?_;refine yW ?_;intro b2 dx dq;refine B 10 ?_;refine cC (.inl rfl) results86 bj A0 zC ?_;rfl
def uD (n:Int):List Value:=[ab 1,ab n,Un,ao]
theorem nVn(n:Int):(uD n).length=4:=rfl
theorem KC(n:Int):∀u∈uD n,u.oneCell'=true:=by intro u hu;simp[uD]at hu;rcases hu with rfl|rfl|rfl|rfl<;>rfl
theorem QU:prog.info? 200=some Tryz.t200:=by kernel_rfl
theorem Yj:iR prog 134 200 4:=⟨underlying134,Tryz.t200,.agg #[ab 0,ab 0,Un,ao],QU,rfl,rfl,rfl,by decide⟩
theorem nqi(xs:List Int)(hxl:xs.length<=1000)(N:Nat)(a:Option Addr)(cp:Nat)(w:World)(hN:N<=w.heap.size)(aJ:ai encI 1 N w a xs):Calls prog 88 #[.slice a xs.length cp] w (aD w uD 4 200 xs id):=by
 refine eN func88 ntmps88 ?_;refine B 19 ?_;refine CJ.loop (α:=Rw×Nat) (λp=>[(3,p.1.val (xs.take p.2).length),(6,.slice a xs.length cp),(7,ab (xs.length:Int)),(8,ab (p.2:Int))]) (λp=>p.1.hp uD 200 (xs.take p.2)++[]) (λp=>[w]) (λp=>Gh.no) (λp=>p.2<=xs.length/\p.1.Fr Gh.no [w]/\p.1.Fit 4 (xs.take p.2)) (λp=>xs.length-p.2) (.nil,0) ⟨cV _,True.intro,rfl⟩ zR rfl rfl zJ ?_;rintro⟨r,j⟩ ⟨hj,aK,ah⟩;dsimp only at hj aK ah ⊢;have bH:r.ge w.heap.size:=Rw.ge_of aK A0;refine B 6 ?_;refine aG ?_ ?_
 ·intro ar;refine B 5 ?_;obtain⟨bo,oo,cs0,to,fG,rfl,fH,cJ,aW⟩:=aJ.get aa;obtain⟨x,hx⟩:=ng xs j aa;refine B 2 ?_;refine rv rfl rfl rfl (av (v:=ab x) isAgg3 rfl A0 cJ zL zA (by have:=nN aW hx rfl zB;simpa[encI]using this)) ?_;refine B 6 ?_;refine call call89 rfl rfl rfl (λW hS=>nDb _ W) ?_;refine Yk ?_;refine yW ?_;intro di BV EJ;refine jS (r:=r) (xs:=(xs.take j)) (zs:=[x]) (enc:=uD) (m:=4) (H0:=[(di,oC #[ab 1,ab x,Un,ao] 200)]) (H1:=[]) zX Yj nVn rfl rfl rfl rfl (bO.one (z:=x) nVn KC underlying134 (bB.own (i:=0) rfl)) ah aK zJ (by simp only[kQ,dC,fb];omega) ?_;intro UR QV QW yY yZ;replace yY:=yb yY;refine B 8 ?_;refine pV ?_;refine PJ.again (Rw.row UR QV QW,j+1) ⟨by dsimp only;omega,yY.elim (λh=>Rw.Fr_at aK h) (λh=>.inr h),by rw[np hx];exact yZ⟩ zW ⟨by rw[np hx];rfl,rfl,rfl,rfl,trivial⟩ (by rw[np hx];rfl) rfl zJ
 intro ar;refine B 6 ?_;have cx:xs.take j=xs:=jO aa;rw[cx]at ah ⊢;refine B 6 ?_;exact nP (H0:=[]) (H1:=[]) (r:=r) (.inl rfl) results88 bj A0 Xj rfl ah (Rw.ge_of aK A0) zJ
abbrev El:=Nat×Nat
def jr (n:Nat) (e:El):List Value:=[ab 3,ab 0,Un,.slice (aj e.1) n e.2]
theorem NY(n:Nat)(e:El):(jr n e).length=4:=rfl
theorem n7g(n:Nat)(e:El):∀u∈jr n e,u.oneCell'=true:=by intro u hu;simp[jr]at hu;rcases hu with rfl|rfl|rfl|rfl<;>rfl
def iB (F:ad) (n:Nat) (es:List El) (ls:List (List V)):Prop:=es.length=ls.length/\∀(i:Nat) (e:El) (l:List V),es[i]? =some e->ls[i]? =some l->l.length=n/\l.all vw=true/\n<=e.2/\∃sp t fr,(e.1,Obj.cells (nK l++sp).toArray t fr)∈F
theorem iB.nil{F:ad}:iB F n [] []:=⟨rfl,λi e l h=>by simp at h⟩
variable {es:List El}
theorem iB.up{F F':ad}(h:iB F n es ls)(hF:∀p∈F,p∈F'):iB F' n es ls:=⟨h.1,λi e l h1 h2=>by
 obtain⟨g1,g2,g3,sp,t,fr,g4⟩:=h.2 i e l h1 h2;exact⟨g1,g2,g3,sp,t,fr,hF _ g4⟩⟩
theorem nXl{α:Type}{xs:List α}{y z:α}(h:(xs++[y])[i]? =some z):xs[i]? =some z\/(i=xs.length/\z=y):=by grind
theorem iB.snoc{F F':ad}{b c:Nat}{l:List V}{sp:List Value}(h:iB F n es ls)(hF:∀p∈F,p∈F')(hl:l.length=n)(hf:l.all vw=true)(hc:n<=c)(hp:(b,Obj.cells (nK l++sp).toArray t fr)∈F'):iB F' n (es++[(b,c)]) (ls++[l]):=by
 refine⟨by simp[h.1],λi e l' h1 h2=>?_⟩;have e1:=h.1;rcases nXl h1 with h1|⟨rfl,rfl⟩
 ·rcases nXl h2 with h2|⟨rfl,rfl⟩
  ·exact(h.up hF).2 i e l' h1 h2
  have:=nr h1;omega
 all_goals grind
theorem n6n{N:Nat}{w:World}:∀(l:List V) (ys:List (List Value)) (pre EK:List Value),l.length=ys.length->(∀(i:Nat) (x:V) (y:List Value),l[i]? =some x->ys[i]? =some y->y.length=4/\eM N w x (.agg y.toArray))->gB N w (pre++(ys.flatten++EK)).toArray pre.length l
 | [],_,pre,EK,_,_=>by simp[gB]
 |x::l,[],pre,EK,hl,_=>by simp at hl
 |x::l,y::ys,pre,EK,hl,h=>by
  obtain⟨h1,h2⟩:=h 0 x y rfl rfl;have ih:=n6n (N:=N) (w:=w) l ys (pre++y) EK NN (λi x' y' hx hy=>h (i+1) x' y' (by simpa using hx) (by simpa using hy));have e:pre++y++(ys.flatten++EK)=pre++((y::ys).flatten++EK):=by simp
  rw[e]at ih;simp only[gB];have hc:cut (pre++((y::ys).flatten++EK)).toArray pre.length 4=y.toArray:=by
   unfold cut;simp only[List.flatten_cons,iP];rw[List.drop_left,<-h1,List.take_left]
  refine⟨?_,by rw[hc];exact h2,?_⟩
  ·simp only[qq,ck,List.flatten_cons];omega
  rw[ck,h1]at ih;exact ih
theorem nwm{α:Type}{enc:α->List Value}{xs:List α}{l:List V}{r:Rw}(hl:l.length=xs.length)(he:∀(i:Nat) (x:α) (y:V),xs[i]? =some x->l[i]? =some y->(enc x).length=4/\eM N w y (.agg (enc x).toArray))(hr:∀p∈r.hp enc t xs,p.1<N/\w.heap[p.1]? =some p.2)(hf:r.Fit 4 xs):eM N w (.list l) (.agg (dD (r.val xs.length))):=by
 simp only[eM];cases r with
 |nil=>
  have h0:xs=[]:=hf;subst h0;have h1:l=[]:=kX NN;subst h1;exact⟨none,0,rfl,ak _,.inl rfl⟩
 |row b cap sp=>
  obtain⟨f1,f2⟩:=hf;obtain⟨g1,g2⟩:=hr (b,aO enc t xs sp) oR;refine⟨some ⟨b,0,none⟩,cap,by rw[hl];rfl,by omega,.inr ⟨b,_,t,(0,0),rfl,g1,g2,?_⟩⟩;have h2:=n6n (N:=N) (w:=w) l (xs.map enc) [] sp NN (λi x y hx hy=>by
   rw[sA]at hy;cases IE:xs[i]? with
   |none=>rw[IE]at hy;cases hy
   |some z=>rw[IE]at hy;cases hy;exact he i z x IE hx)
  simpa[gN,List.flatMap]using h2
theorem iB.vat{F:ad}{r:Rw}(h:iB F n es ls)(hw:∀p∈F,p.1<N/\w.heap[p.1]? =some p.2)(hr:∀p∈r.hp (jr n) t es,p∈F)(hf:r.Fit 4 es):eM N w (.list (ls.map V.list)) (.agg (dD (r.val es.length))):=
 nwm (by rw[eG];exact h.1.symm) (λi e y hx hy=>⟨rfl,by
  rw[sA]at hy;cases hl:ls[i]? with
  |none=>rw[hl]at hy;cases hy
  |some l=>
   rw[hl]at hy;cases hy;obtain⟨g1,g2,g3,sp,t',fr,g4⟩:=h.2 i e l hx hl;obtain⟨k1,k2⟩:=hw _ g4;have:=JQ (cap:=e.2) g2 k1 aa k2;rw[g1]at this;exact this⟩) (λp hp=>hw p (hr p hp)) hf
theorem EL{xs:List Int}{r:Rw}(hr:∀p∈r.hp uD t xs,p.1<N/\w.heap[p.1]? =some p.2)(hf:r.Fit 4 xs):eM N w (.list (xs.map V.int)) (.agg (dD (r.val xs.length))):=
 nwm zJ (λi x y hx hy=>⟨rfl,by rw[sA,hx]at hy;cases hy;simp only[eM];rfl⟩) hr hf
def BW (x:Ch):List V:=[.int x.kind,.int x.dev,.int x.pub,.int x.ver,.int x.cut]
def uF (x:Bx):List V:=[.int x.node,.int x.level,.int x.w.u,.text (qd x.w.body)]
def uG (x:We):List V:=[.int x.dev,.int x.w.u,.text (qd x.w.body)]
def mC (c:Cm):List V:=[.int c.folder,.int c.epoch,.text (qd (cy c.par)),.int c.author,.list ((c.chs.map BW).map V.list),.list (c.path.map V.int),.list ((c.bxs.map uF).map V.list),.list ((c.wes.map uG).map V.list),.text (qd (cy c.conf)),.int c.sr,.int c.ss]
theorem n8f{α β:Type}(f:α->β){xs:List α}{x:α}(hx:xs[j]? =some x):(xs.take (j+1)).map f=(xs.take j).map f++[f x]:=by rw[np hx];simp
theorem cj.dgo{b off:Nat}{f:Nat->Int}(h:w.heap[b]? =some (.cells cs t fr))(hc:cut cs off 32=Px.dg f)(hs:off+32<=cs.size)(hf:ec f):cj w b off (cy f):=
 ⟨cs,t,fr,h,by rw[nH];exact hs,λi hi=>by
  rw[nH]at hi;rw[Us f hf i hi,<-qK f i hi,<-hc];unfold cut;rw[<-NZ,<-NZ];simp only[QX hi,QY]⟩
theorem EM{W:World}{b:Nat}{xs:List Int}(h:W.heap[b]? =some (.cells (xs.map ab).toArray t fr)):ai encI 1 W.heap.size W (aj b) xs:=by
 refine .inr ⟨b,0,_,t,fr,rfl,(aT.1 h).1,h,λi hi=>⟨by simp;omega,?_⟩⟩;all_goals grind [cut,encI]
theorem IF(N:Nat)(w:World)(n:Int):eM N w (.int n) (vI n):=by simp only[eM]
theorem US(N:Nat)(w:World)(s:ByteArray):eM N w (.text s) (vT s):=by simp only[eM]
theorem EN{r:Rw}(W:World):Calls prog 86 #[r.val n] W (aM W (.agg (dD (r.val n)))):=by cases r<;>exact Yi _ _ _ W
theorem nNl(l:List V){b cap:Nat}(hl:l.length<=cap)(h:w.heap[b]? =some (.cells cs t fr))(hb:b<N)(hv:gB N w cs 0 l):eM N w (.list l) (vL (aj b) l.length cap):=by grind [eM]
theorem sM{off:Nat}{x:V}{l:List V}(h1:off+4<=cs.size)(h2:eM N w x (.agg (cut cs off 4)))(h3:gB N w cs (off+4) l):gB N w cs off (x::l):=by
 simp only[gB];exact⟨h1,h2,h3⟩
theorem nul{off:Nat}:gB N w cs off []:=by simp only[gB]
theorem nR(f:Nat->Int):(cy f).length=32:=nH f
theorem ByAt.up{N':Nat}{w':World}{l:List UInt8}(h:ByAt N w a l)(hN:N<=N')(hw:∀k,k<N->w'.heap[k]? =w.heap[k]?):ByAt N' w' a l:=by
 exact zEh
theorem n6c(c:Cm)(qX:qW c)(N:Nat)(w:World)(hN:N<=w.heap.size)(hC:dm N w c):Calls prog 45 #[.agg (cG c)] w (cN w (λb:Nat=>.slice (aj b) 11 11) (λb w1=>w.heap.size<=b/\eM w1.heap.size w1 (.list (mC c)) (vL (aj b) 11 11))):=by
 have Ax:=qX.chs;have DH:=qX.path;have PF:=qX.bxs;have UQ:=qX.wes;have yU:=hC.chs;have oS:=hC.path;have QR:=hC.bxs;have KA:=hC.wes;refine nB (dI []) [] (vs:=[_]) func45 rfl ntmps45 rfl (N0 w) ?_;refine B 2 ?_;refine yX ?_;intro b1 w1 hb1 cF gA fX jq;refine B 5 ?_;refine zce ?_;refine zce ?_;refine zce ?_;refine B 1 ?_;refine yW ?_;intro b3 ez eP;refine B 1 ?_;refine yW ?_;intro b4 ja jb;refine B 1 ?_;refine yW ?_;intro b5 so sq;refine B 15 ?_;refine CJ.loop (α:=((Rw×List El)×ad)×Nat) (λp=>[(1,ptr b1 0),(3,ptr b3 0),(4,ptr b4 0),(5,ptr b5 0),(16,.slice c.ca c.chs.length c.cc),(17,ab (c.chs.length:Int)),(18,ab (p.2:Int))]) (λp=>[(b5,oC (dD (ao)) 200),(b4,oC (dD (ao)) 200),(b3,oC (dD (p.1.1.1.val p.1.1.2.length)) 200)]++(p.1.1.1.hp (jr 5) 200 p.1.1.2++[])) (λp=>[w1,w]) (λp=>dI p.1.2) (λp=>p.2<=c.chs.length/\p.1.1.1.Fr (dI p.1.2) [w1,w]/\p.1.1.1.Fit 4 p.1.1.2/\iB p.1.2 5 p.1.1.2 ((c.chs.take p.2).map BW)/\∀q∈([]:ad),q∈p.1.2) (λp=>c.chs.length-p.2) (((.nil,[]),([]:ad)),0) ⟨cV _,True.intro,rfl,iB.nil,λq h=>h⟩ zR rfl rfl zJ ?_;rintro⟨⟨⟨r1,iI⟩,F1⟩,j1⟩ ⟨hj,aK,ah,oX,N1⟩;dsimp only at hj aK ah oX N1 ⊢;have bH:r1.ge w1.heap.size:=Rw.ge_fz aK A0;have hel:iI.length<=50:=by rw[oX.1,eG,kQ];omega
 refine B 6 ?_;refine aG ?_ ?_
 ·intro ar;refine B 5 ?_;obtain⟨bo,oo,cs0,to,fG,gU,fH,cJ,aW⟩:=yU.get aa;obtain⟨x,hx⟩:=ng c.chs j1 aa;rw[gU];refine XX ?_;refine yW ?_;intro b7 jy vr;refine B 3 ?_;refine CJ.less (E':=[(1,_),(3,_),(4,_),(5,_),(7,_),(16,_),(17,_),(18,_),(19,_),(20,_),(21,_)]) zR ?_;refine CJ.chn 16 [12,13,14,15] [_,_,_,_,_,_,_,_,_,_,_,_,none,none,none,none] (λcv L' H'=>let dU:ad:=[(b7,oC (gh x) 99),(b5,oC (dD (ao)) 200),(b4,oC (dD (ao)) 200),(b3,oC (dD (r1.val iI.length)) 200)]++(r1.hp (jr 5) 200 iI++[]);match cv with| []=>L'=[w1,w]/\H'=dU| [v1]=>∃(l9:Nat),v1= .slice (aj l9) 5 5/\L'=[w1,w]/\H'=(l9,oC #[ab x.kind,ab x.dev,ab x.pub,ab x.ver,ab x.cut] 3)::dU/\ae [w1,w] l9| [v1,v2]=>∃(l9:Nat) (bn:Nat) (cn:Nat) (sn:List Value),v1= .slice (aj l9) 5 5/\v2= .slice (aj bn) 5 cn/\L'=[w1,w]/\H'=(bn,aO uD 200 [x.kind,x.dev,x.pub,x.ver,x.cut] sn)::(l9,oC #[ab x.kind,ab x.dev,ab x.pub,ab x.ver,ab x.cut] 3)::dU/\ae [w1,w] l9/\ae [w1,w] bn/\5<=cn| [v1,v2,v3]=>∃(l9:Nat) (bn:Nat) (cn:Nat) (sn:List Value),v1= .slice (aj l9) 5 5/\v2= .slice (aj bn) 5 cn/\v3=vL (aj bn) 5 cn/\L'=[w1,w]/\H'=(bn,aO uD 200 [x.kind,x.dev,x.pub,x.ver,x.cut] sn)::(l9,oC #[ab x.kind,ab x.dev,ab x.pub,ab x.ver,ab x.cut] 3)::dU/\ae [w1,w] l9/\ae [w1,w] bn/\5<=cn| [v1,v2,v3,v4]=>∃(l9:Nat) (bn:Nat) (cn:Nat) (sn:List Value) (mD:Nat),v1= .slice (aj l9) 5 5/\v2= .slice (aj bn) 5 cn/\v3=vL (aj bn) 5 cn/\v4= .slice (aj mD) 1 1/\L'=[w1,w]/\H'=(mD,oC (dD (.slice (aj bn) 5 cn)) 200)::(bn,aO uD 200 [x.kind,x.dev,x.pub,x.ver,x.cut] sn)::(l9,oC #[ab x.kind,ab x.dev,ab x.pub,ab x.ver,ab x.cut] 3)::dU/\ae [w1,w] l9/\ae [w1,w] bn/\5<=cn/\ae [w1,w] mD|_=>False) (pc WR (pc UT (pc KD (pc UT (pc KD (pc UT (pc KD (pc UT (pc KD (pc UT (pc KD (pc UT (pk (pk (pk (pk (pn))))))))))))))))) ?_ ?_
  ·refine ss rfl ?_ ?_
   ·intro cv L' H' hl hP F Q' hk;obtain rfl:=kX hl;obtain⟨rfl,rfl⟩:=hP;refine Eb ?_;exact zvg
   refine ss rfl ?_ ?_
   ·intro cv L' H' hl hP F Q' hk;obtain⟨v1,rfl⟩:=iw hl;obtain⟨l9,rfl,rfl,rfl,kD⟩:=hP;refine Iv (enc:=uD) (m:=4) (t:=200) (xs:=[x.kind,x.dev,x.pub,x.ver,x.cut]) (v:=id) (first:=[]) (cap:=[]) rfl call88 rfl rfl rfl (λW hS=>nqi [x.kind,x.dev,x.pub,x.ver,x.cut] zJ W.heap.size (aj l9) 5 W (ak _) (EM (xs:=[x.kind,x.dev,x.pub,x.ver,x.cut]) (hS.own _ A0))) ?_;intro r_ UU ft;obtain⟨b_,c_,s_,rfl⟩:=Rw.row_of ft zJ;exact OJ.done (hk _ _ _ ⟨l9,b_,c_,s_,rfl,rfl,rfl,rfl,kD,UU.elim (λh=>h.elim) id,ft.1⟩)
   refine ss rfl ?_ ?_
   ·intro cv L' H' hl hP F Q' hk;obtain⟨v1,v2,rfl⟩:=pS hl;obtain⟨l9,bn,cn,sn,rfl,rfl,rfl,rfl,kD,hfn,tF⟩:=hP;refine call call86 rfl rfl rfl (λW hS=>Yi (aj bn) 5 cn W) ?_;exact OJ.done (hk _ _ _ ⟨l9,bn,cn,sn,rfl,rfl,rfl,rfl,rfl,kD,hfn,tF⟩)
   refine ss rfl ?_ ?_
   ·intro cv L' H' hl hP F Q' hk;obtain⟨v1,v2,v3,rfl⟩:=mj hl;obtain⟨l9,bn,cn,sn,rfl,rfl,rfl,rfl,rfl,kD,hfn,tF⟩:=hP;refine Yk ?_;intro b_ mE gP;exact OJ.done (hk _ _ _ ⟨l9,bn,cn,sn,b_,rfl,rfl,rfl,rfl,rfl,rfl,kD,hfn,tF,mE⟩)
   exact nn
  intro cv L' H' hl hP;obtain⟨v1,v2,v3,v4,rfl⟩:=uH hl;obtain⟨l9,bn,cn,sn,mD,rfl,rfl,rfl,rfl,rfl,rfl,kD,hfn,tF,uI⟩:=hP;refine jS (r:=r1) (xs:=iI) (zs:=[((bn,cn):El)]) (enc:=jr 5) (m:=4) (H0:=[(mD,oC (dD (.slice (aj bn) 5 cn)) 200),(bn,aO uD 200 [x.kind,x.dev,x.pub,x.ver,x.cut] sn),(l9,oC #[ab x.kind,ab x.dev,ab x.pub,ab x.ver,ab x.cut] 3),(b7,oC (gh x) 99),(b5,oC (dD (ao)) 200),(b4,oC (dD (ao)) 200),(b3,oC (dD (r1.val iI.length)) 200)]) (H1:=[]) rfl Yj (NY 5) rfl rfl rfl rfl (bO.one (z:=((bn,cn):El)) (NY 5) (n7g 5) underlying134 (bB.own (i:=0) rfl)) ah aK zJ Az ?_;intro br cr sr jt qY;refine B 1 ?_;refine jP (i:=6) rfl sizeOf134 rfl rfl rfl rfl (dO rfl) rfl ?_;refine B 7 ?_;refine PJ.reH (H':=[(mD,oC (dD (.slice (aj bn) 5 cn)) 200),(bn,aO uD 200 [x.kind,x.dev,x.pub,x.ver,x.cut] sn),(l9,oC #[ab x.kind,ab x.dev,ab x.pub,ab x.ver,ab x.cut] 3),(b7,oC (gh x) 99),(b5,oC (dD (ao)) 200),(b4,oC (dD (ao)) 200),(b3,oC (dD ((Rw.row br cr sr).val (iI++[((bn,cn):El)]).length)) 200)]++((br,aO (jr 5) 200 (iI++[((bn,cn):El)]) sr)::[])) rfl ?_;refine UW ?_;refine PJ.fz [(bn,aO uD 200 [x.kind,x.dev,x.pub,x.ver,x.cut] sn)] (H':=[(l9,oC #[ab x.kind,ab x.dev,ab x.pub,ab x.ver,ab x.cut] 3),(b7,oC (gh x) 99),(b5,oC (dD (ao)) 200),(b4,oC (dD (ao)) 200),(b3,oC (dD ((Rw.row br cr sr).val (iI++[((bn,cn):El)]).length)) 200)]++((br,aO (jr 5) 200 (iI++[((bn,cn):El)]) sr)::[])) (List.Perm.refl _) zcc ?_
  refine PJ.dropAt (i:=0) rfl kD ?_;refine pV ?_;refine ag (((Rw.row br cr sr,(iI++[((bn,cn):El)])),(bn,aO uD 200 [x.kind,x.dev,x.pub,x.ver,x.cut] sn)::F1),j1+1) ⟨by dsimp only;omega,jt.elim (λh=>Rw.Fr_at aK h) (λh=>.inr h),qY,by dsimp only;rw[n8f BW hx];exact oX.snoc (λp hp=>.tail _ hp) rfl rfl tF A0,λq hq=>.tail _ (N1 q hq)⟩
 intro ar;refine B 7 ?_;have EO:c.chs.take j1=c.chs:=jO aa;rw[EO]at oX;have gV:=ah;refine CJ.fz (r1.hp (jr 5) 200 iI) (H':=[(b5,oC (dD (ao)) 200),(b4,oC (dD (ao)) 200),(b3,oC (dD (r1.val iI.length)) 200)]) Yl (Rw.fz_above aK) ?_;refine B 8 ?_;refine CJ.loop (α:=((Rw×List El)×ad)×Nat) (λp=>[(1,ptr b1 0),(3,ptr b3 0),(4,ptr b4 0),(5,ptr b5 0),(42,.slice c.ba c.bxs.length c.bc),(43,ab (c.bxs.length:Int)),(44,ab (p.2:Int))]) (λp=>[(b5,oC (dD (ao)) 200),(b4,oC (dD (p.1.1.1.val p.1.1.2.length)) 200),(b3,oC (dD (r1.val iI.length)) 200)]++(p.1.1.1.hp (jr 4) 200 p.1.1.2++[])) (λp=>[w1,w]) (λp=>dI p.1.2) (λp=>p.2<=c.bxs.length/\p.1.1.1.Fr (dI p.1.2) [w1,w]/\p.1.1.1.Fit 4 p.1.1.2/\iB p.1.2 4 p.1.1.2 ((c.bxs.take p.2).map uF)/\∀q∈(r1.hp (jr 5) 200 iI++F1),q∈p.1.2) (λp=>c.bxs.length-p.2) (((.nil,[]),(r1.hp (jr 5) 200 iI++F1)),0) ⟨cV _,True.intro,rfl,iB.nil,λq h=>h⟩ zR rfl rfl zJ ?_;rintro⟨⟨⟨r2,qZ⟩,F2⟩,j2⟩ ⟨hj,aK,ah,sN,AF⟩;dsimp only at hj aK ah sN AF ⊢;have bH:r2.ge w1.heap.size:=Rw.ge_fz aK A0;have hel:qZ.length<=50:=by rw[sN.1,eG,kQ];omega
 refine B 6 ?_;refine aG ?_ ?_
 ·intro aN;refine B 5 ?_;obtain⟨bo,oo,cs0,to,fG,gU,fH,cJ,aW⟩:=QR.get aa;obtain⟨x,hx⟩:=ng c.bxs j2 aa;rw[gU];have hq:=λ(k:Nat)=>Rw.mem_ge (enc:=jr 4) (t:=200) (xs:=qZ) (k:=k) bH;have qx:ByAt N w x.w.ba x.w.body:=hC.bb x (cP hx);refine B 2 ?_;refine ax (.agg (yS x)) ?_;refine B 1 ?_;refine yW ?_;intro b9 xn tk;refine B 3 ?_;refine CJ.less (E':=[(1,_),(3,_),(4,_),(5,_),(9,_),(42,_),(43,_),(44,_),(45,_),(46,_),(47,_)]) zR ?_;refine CJ.chn 19 [16,17,18] [_,_,_,_,_,_,_,_,_,_,_,_,_,_,_,some (vT (qd x.w.body)),none,none,none] (λcv L' H'=>let dU:ad:=[(b9,oC (yS x) 110),(b5,oC (dD (ao)) 200),(b4,oC (dD (r2.val qZ.length)) 200),(b3,oC (dD (r1.val iI.length)) 200)]++(r2.hp (jr 4) 200 qZ++[]);match cv with| []=>L'=[w1,w]/\H'=dU| [v1]=>∃(bn:Nat),v1= .slice (aj bn) 4 4/\L'=[w1,w]/\H'=(bn,oC (nK (uF x)++[]).toArray 200)::dU/\ae [w1,w] bn| [v1,v2]=>∃(bn:Nat),v1= .slice (aj bn) 4 4/\v2=vL (aj bn) 4 4/\L'=[w1,w]/\H'=(bn,oC (nK (uF x)++[]).toArray 200)::dU/\ae [w1,w] bn| [v1,v2,v3]=>∃(bn:Nat) (mD:Nat),v1= .slice (aj bn) 4 4/\v2=vL (aj bn) 4 4/\v3= .slice (aj mD) 1 1/\L'=[w1,w]/\H'=(mD,oC (dD (.slice (aj bn) 4 4)) 200)::(bn,oC (nK (uF x)++[]).toArray 200)::dU/\ae [w1,w] bn/\ae [w1,w] mD|_=>False) (pc WR (pc xA (pc (by exact λcv L' H' hd hP=>X.v (bQ underlying110 rfl sizeOf3 rfl)) (pc xA (pc z3 (pc (by exact λcv L' H' hd hP=>X.v (bQ underlying110 rfl sizeOf3 rfl)) (pc xA (pc z3 (pc (by exact λcv L' H' hd hP=>X.v (bQ underlying110 rfl sizeOf108 rfl)) (pc z9b (pc xA (pc z3 (pc (by exact λcv L' H' hd hP=>X.v (bQ underlying110 rfl sizeOf108 rfl)) (pc z6b (pc xA (pc xA (pk (pk (pk (pn)))))))))))))))))))) ?_ ?_
  ·refine ss rfl ?_ ?_
   ·exact zog
   refine ss rfl ?_ ?_
   ·intro cv L' H' hl hP F Q' hk;obtain⟨v1,rfl⟩:=iw hl;obtain⟨bn,rfl,rfl,rfl,hfn⟩:=hP;refine call call86 rfl rfl rfl (λW hS=>Yi (aj bn) 4 4 W) ?_;exact zIh
   exact zdg
  intro cv L' H' hl hP;obtain⟨v1,v2,v3,rfl⟩:=mj hl;obtain⟨bn,mD,rfl,rfl,rfl,rfl,rfl,hfn,uI⟩:=hP;refine jS (r:=r2) (xs:=qZ) (zs:=[((bn,4):El)]) (enc:=jr 4) (m:=4) (H0:=[(mD,oC (dD (.slice (aj bn) 4 4)) 200),(bn,oC (nK (uF x)++[]).toArray 200),(b9,oC (yS x) 110),(b5,oC (dD (ao)) 200),(b4,oC (dD (r2.val qZ.length)) 200),(b3,oC (dD (r1.val iI.length)) 200)]) (H1:=[]) rfl Yj (NY 4) rfl rfl rfl rfl (bO.one (z:=((bn,4):El)) (NY 4) (n7g 4) underlying134 (bB.own (i:=0) rfl)) ah aK zJ Az ?_;intro br cr sr jt qY;refine B 1 ?_;refine jP (i:=4) rfl sizeOf134 rfl rfl rfl rfl (dO rfl) rfl ?_;refine B 7 ?_;refine PJ.reH (H':=[(mD,oC (dD (.slice (aj bn) 4 4)) 200),(bn,oC (nK (uF x)++[]).toArray 200),(b9,oC (yS x) 110),(b5,oC (dD (ao)) 200),(b4,oC (dD ((Rw.row br cr sr).val (qZ++[((bn,4):El)]).length)) 200),(b3,oC (dD (r1.val iI.length)) 200)]++((br,aO (jr 4) 200 (qZ++[((bn,4):El)]) sr)::[])) rfl ?_;refine UW ?_;refine PJ.fz [(bn,oC (nK (uF x)++[]).toArray 200)] (H':=[(b9,oC (yS x) 110),(b5,oC (dD (ao)) 200),(b4,oC (dD ((Rw.row br cr sr).val (qZ++[((bn,4):El)]).length)) 200),(b3,oC (dD (r1.val iI.length)) 200)]++((br,aO (jr 4) 200 (qZ++[((bn,4):El)]) sr)::[])) (List.Perm.refl _) zcc ?_;refine pV ?_;refine ag (((Rw.row br cr sr,(qZ++[((bn,4):El)])),(bn,oC (nK (uF x)++[]).toArray 200)::F2),j2+1) ⟨by dsimp only;omega,jt.elim (λh=>Rw.Fr_at aK h) (λh=>.inr h),qY,by dsimp only;rw[n8f uF hx];exact sN.snoc (λp hp=>.tail _ hp) rfl rfl (ak _) A0,λq hq=>.tail _ (AF q hq)⟩
 intro aN;refine B 7 ?_;have EP:c.bxs.take j2=c.bxs:=jO aa;rw[EP]at sN;have eu:=ah;refine CJ.fz (r2.hp (jr 4) 200 qZ) (H':=[(b5,oC (dD (ao)) 200),(b4,oC (dD (r2.val qZ.length)) 200),(b3,oC (dD (r1.val iI.length)) 200)]) Yl (Rw.fz_above aK) ?_;refine B 8 ?_;refine CJ.loop (α:=((Rw×List El)×ad)×Nat) (λp=>[(1,ptr b1 0),(3,ptr b3 0),(4,ptr b4 0),(5,ptr b5 0),(71,.slice c.wa c.wes.length c.wc),(72,ab (c.wes.length:Int)),(73,ab (p.2:Int))]) (λp=>[(b5,oC (dD (p.1.1.1.val p.1.1.2.length)) 200),(b4,oC (dD (r2.val qZ.length)) 200),(b3,oC (dD (r1.val iI.length)) 200)]++(p.1.1.1.hp (jr 3) 200 p.1.1.2++[])) (λp=>[w1,w]) (λp=>dI p.1.2) (λp=>p.2<=c.wes.length/\p.1.1.1.Fr (dI p.1.2) [w1,w]/\p.1.1.1.Fit 4 p.1.1.2/\iB p.1.2 3 p.1.1.2 ((c.wes.take p.2).map uG)/\∀q∈(r2.hp (jr 4) 200 qZ++F2),q∈p.1.2) (λp=>c.wes.length-p.2) (((.nil,[]),(r2.hp (jr 4) 200 qZ++F2)),0) ⟨cV _,True.intro,rfl,iB.nil,λq h=>h⟩ zR rfl rfl zJ ?_;rintro⟨⟨⟨r3,uJ⟩,F3⟩,j3⟩ ⟨hj,aK,ah,BX,AG⟩;dsimp only at hj aK ah BX AG ⊢;have bH:r3.ge w1.heap.size:=Rw.ge_fz aK A0;have hel:uJ.length<=50:=by rw[BX.1,eG,kQ];omega
 refine B 6 ?_;refine aG ?_ ?_
 ·intro dc;refine B 5 ?_;obtain⟨bo,oo,cs0,to,fG,gU,fH,cJ,aW⟩:=KA.get aa;obtain⟨x,hx⟩:=ng c.wes j3 aa;rw[gU];have hq:=λ(k:Nat)=>Rw.mem_ge (enc:=jr 3) (t:=200) (xs:=uJ) (k:=k) bH;have qx:ByAt N w x.w.ba x.w.body:=hC.wb x (cP hx);refine B 2 ?_;refine ax (.agg (wj x)) ?_;refine B 1 ?_;refine yW ?_;intro gG yt DC;refine B 3 ?_;refine CJ.less (E':=[(1,_),(3,_),(4,_),(5,_),(11,_),(71,_),(72,_),(73,_),(74,_),(75,_),(76,_)]) zR ?_;refine CJ.chn 16 [13,14,15] [_,_,_,_,_,_,_,_,_,_,_,_,some (vT (qd x.w.body)),none,none,none] (λcv L' H'=>let dU:ad:=[(gG,oC (wj x) 114),(b5,oC (dD (r3.val uJ.length)) 200),(b4,oC (dD (r2.val qZ.length)) 200),(b3,oC (dD (r1.val iI.length)) 200)]++(r3.hp (jr 3) 200 uJ++[]);match cv with| []=>L'=[w1,w]/\H'=dU| [v1]=>∃(bn:Nat),v1= .slice (aj bn) 3 3/\L'=[w1,w]/\H'=(bn,oC (nK (uG x)++[]).toArray 200)::dU/\ae [w1,w] bn| [v1,v2]=>∃(bn:Nat),v1= .slice (aj bn) 3 3/\v2=vL (aj bn) 3 3/\L'=[w1,w]/\H'=(bn,oC (nK (uG x)++[]).toArray 200)::dU/\ae [w1,w] bn| [v1,v2,v3]=>∃(bn:Nat) (mD:Nat),v1= .slice (aj bn) 3 3/\v2=vL (aj bn) 3 3/\v3= .slice (aj mD) 1 1/\L'=[w1,w]/\H'=(mD,oC (dD (.slice (aj bn) 3 3)) 200)::(bn,oC (nK (uG x)++[]).toArray 200)::dU/\ae [w1,w] bn/\ae [w1,w] mD|_=>False) (pc WR (pc xA (pc (by exact λcv L' H' hd hP=>X.v (bQ underlying114 rfl sizeOf3 rfl)) (pc xA (pc z3 (pc (by exact λcv L' H' hd hP=>X.v (bQ underlying114 rfl sizeOf108 rfl)) (pc z9b (pc xA (pc z3 (pc (by exact λcv L' H' hd hP=>X.v (bQ underlying114 rfl sizeOf108 rfl)) (pc z6b (pc xA (pc xA (pk (pk (pk (pn))))))))))))))))) ?_ ?_
  ·refine ss rfl ?_ ?_
   ·exact zog
   refine ss rfl ?_ ?_
   ·intro cv L' H' hl hP F Q' hk;obtain⟨v1,rfl⟩:=iw hl;obtain⟨bn,rfl,rfl,rfl,hfn⟩:=hP;refine call call86 rfl rfl rfl (λW hS=>Yi (aj bn) 3 3 W) ?_;exact zIh
   exact zdg
  intro cv L' H' hl hP;obtain⟨v1,v2,v3,rfl⟩:=mj hl;obtain⟨bn,mD,rfl,rfl,rfl,rfl,rfl,hfn,uI⟩:=hP;refine jS (r:=r3) (xs:=uJ) (zs:=[((bn,3):El)]) (enc:=jr 3) (m:=4) (H0:=[(mD,oC (dD (.slice (aj bn) 3 3)) 200),(bn,oC (nK (uG x)++[]).toArray 200),(gG,oC (wj x) 114),(b5,oC (dD (r3.val uJ.length)) 200),(b4,oC (dD (r2.val qZ.length)) 200),(b3,oC (dD (r1.val iI.length)) 200)]) (H1:=[]) rfl Yj (NY 3) rfl rfl rfl rfl (bO.one (z:=((bn,3):El)) (NY 3) (n7g 3) underlying134 (bB.own (i:=0) rfl)) ah aK zJ Az ?_;intro br cr sr jt qY;refine B 1 ?_;refine jP (i:=3) rfl sizeOf134 rfl rfl rfl rfl (dO rfl) rfl ?_;refine B 7 ?_;refine PJ.reH (H':=[(mD,oC (dD (.slice (aj bn) 3 3)) 200),(bn,oC (nK (uG x)++[]).toArray 200),(gG,oC (wj x) 114),(b5,oC (dD ((Rw.row br cr sr).val (uJ++[((bn,3):El)]).length)) 200),(b4,oC (dD (r2.val qZ.length)) 200),(b3,oC (dD (r1.val iI.length)) 200)]++((br,aO (jr 3) 200 (uJ++[((bn,3):El)]) sr)::[])) rfl ?_;refine UW ?_;refine PJ.fz [(bn,oC (nK (uG x)++[]).toArray 200)] (H':=[(gG,oC (wj x) 114),(b5,oC (dD ((Rw.row br cr sr).val (uJ++[((bn,3):El)]).length)) 200),(b4,oC (dD (r2.val qZ.length)) 200),(b3,oC (dD (r1.val iI.length)) 200)]++((br,aO (jr 3) 200 (uJ++[((bn,3):El)]) sr)::[])) (List.Perm.refl _) zcc ?_
  refine pV ?_;refine ag (((Rw.row br cr sr,(uJ++[((bn,3):El)])),(bn,oC (nK (uG x)++[]).toArray 200)::F3),j3+1) ⟨by dsimp only;omega,jt.elim (λh=>Rw.Fr_at aK h) (λh=>.inr h),qY,by dsimp only;rw[n8f uG hx];exact BX.snoc (λp hp=>.tail _ hp) rfl rfl (ak _) A0,λq hq=>.tail _ (AG q hq)⟩
 intro dc;refine B 6 ?_;have Ym:c.wes.take j3=c.wes:=jO aa;rw[Ym]at BX;have mm:=ah;refine CJ.fz (r3.hp (jr 3) 200 uJ) (H':=[(b5,oC (dD (r3.val uJ.length)) 200),(b4,oC (dD (r2.val qZ.length)) 200),(b3,oC (dD (r1.val iI.length)) 200)]) Yl (Rw.fz_above aK) ?_;refine CJ.less (E':=[(1,_),(3,_),(4,_),(5,_),(71,_),(72,_),(73,_),(74,_)]) zR ?_;refine CJ.chn 30 [15,16] [_,_,_,_,_,_,_,_,some (vT (qd (cy c.par))),_,_,_,some (.agg (dD (r1.val iI.length))),_,_,none,none,some (.agg (dD (r2.val qZ.length))),some (.agg (dD (r3.val uJ.length))),_,_,some (vT (qd (cy c.conf))),_,_,_,_,_,_,_,_] (λcv L' H'=>let dU:ad:=[(b5,oC (dD (r3.val uJ.length)) 200),(b4,oC (dD (r2.val qZ.length)) 200),(b3,oC (dD (r1.val iI.length)) 200)];match cv with| []=>L'=[w1,w]/\H'=dU| [v1]=>∃(xB:Rw),v1=xB.val c.path.length/\L'=[w1,w]/\H'=dU++(xB.hp uD 200 c.path++[])/\xB.ge w1.heap.size/\xB.Fit 4 c.path| [v1,v2]=>∃(xB:Rw),v1=xB.val c.path.length/\v2= .agg (dD (xB.val c.path.length))/\L'=[w1,w]/\H'=dU++(xB.hp uD 200 c.path++[])/\xB.ge w1.heap.size/\xB.Fit 4 c.path|_=>False) (pc Yn (pc ER (pc z3 (pc Yn (pc ER (pc z3 (pc (by exact λcv L' H' hd hP=>X.v (bQ underlying61 rfl sizeOf33 rfl)) (pc zZb (pc ER (pc Yn (pc ER (pc z3 (pc ER (pc z8b (pc ER (pk (pk (pc ER (pc ER (pc (by exact λcv L' H' hd hP=>X.v (bQ underlying61 rfl sizeOf33 rfl)) (pc zZb (pc ER (pc (by exact λcv L' H' hd hP=>X.v (bQ underlying61 rfl sizeOf59 rfl)) (pc zac (pc ER (pc z3 (pc (by exact λcv L' H' hd hP=>X.v (bQ underlying61 rfl sizeOf59 rfl)) (pc zac (pc ER (pc z3 (pn))))))))))))))))))))))))))))))) ?_ ?_
 ·refine ss rfl ?_ ?_
  ·intro cv L' H' hl hP F Q' hk;obtain rfl:=kX hl;obtain⟨rfl,rfl⟩:=hP;refine UE (enc:=uD) (m:=4) (t:=200) (xs:=c.path) (v:=id) (first:=[]) (cap:=[]) rfl call88 rfl rfl rfl (λW hS=>nqi c.path aa N c.pa c.pc W cM (oS.up (ak _) (λk hk=>(hS.links w A1).block k aa (λhx=>by rcases hx with hx|hx;(exact hx);simp only[dt,eL,bX,dy,or_false]at hx;omega)))) ?_;intro r_ UU ft;exact OJ.done (hk _ _ _ ⟨r_,rfl,rfl,rfl,Rw.ge_fz UU A0,ft⟩)
  refine ss rfl ?_ ?_
  ·intro cv L' H' hl hP F Q' hk;obtain⟨v1,rfl⟩:=iw hl;obtain⟨xB,rfl,rfl,rfl,q9,ra⟩:=hP;refine call call86 rfl rfl rfl (λW hS=>EN W) ?_;exact OJ.done (hk _ _ _ ⟨xB,rfl,rfl,rfl,rfl,q9,ra⟩)
  exact nn
 intro cv L' H' hl hP;obtain⟨v1,v2,rfl⟩:=pS hl;obtain⟨xB,rfl,rfl,rfl,rfl,q9,ra⟩:=hP;refine Yk ?_;refine yW ?_;intro Yo amK amL;refine B 4 ?_;refine bM (.inl rfl) results45 bj λW hS=>⟨Yo,rfl,(hS.links w A1).below (λk hk hx=>by rcases hx with hx|hx;(exact hx);simp only[gb,dt,eL,gi,ef,dV,bA,bX,dy,or_false]at hx;rcases hx with hx|hx|hx|hx|hx<;>first|omega|(have:=Rw.mem_ge q9 hx;omega)),by omega,?_⟩;have hF:∀p∈(r3.hp (jr 3) 200 uJ++F3),p.1<W.heap.size/\W.heap[p.1]? =some p.2:=λp hp=>⟨(aT.1 (hS.fzAt p hp)).1,hS.fzAt p hp⟩;have hb:=hS.own (Yo,_) A0;have h15:∀p∈xB.hp uD 200 c.path,p.1<W.heap.size/\W.heap[p.1]? =some p.2:=λp hp=>by have h:=hS.own p (by simp[hp]);exact⟨(aT.1 h).1,h⟩
 have i3:∀p∈F3,p∈(r3.hp (jr 3) 200 uJ++F3):=λp hp=>bA.2 (.inr hp);have i2:∀p∈F2,p∈(r3.hp (jr 3) 200 uJ++F3):=λp hp=>i3 p (AG p (bA.2 (.inr hp)));have i1:∀p∈F1,p∈(r3.hp (jr 3) 200 uJ++F3):=λp hp=>i2 p (AF p (bA.2 (.inr hp)));have v1:=iB.vat (t:=200) (oX.up i1) hF (λp hp=>i2 p (AF p (bA.2 (.inl hp)))) gV;have v2x:=iB.vat (t:=200) (sN.up i2) hF (λp hp=>i3 p (AG p (bA.2 (.inl hp)))) eu;have v3x:=iB.vat (t:=200) (BX.up i3) hF (λp hp=>bA.2 (.inl hp)) mm;have vp:=EL (t:=200) h15 ra;exact nNl (mC c) (ak 11) hb (aT.1 hb).1 (sM (dO rfl) (IF _ _ _) (sM (dO rfl) (IF _ _ _) (sM (dO rfl) (US _ _ _) (sM (dO rfl) (IF _ _ _) (sM (dO rfl) v1 (sM (dO rfl) vp (sM (dO rfl) v2x (sM (dO rfl) v3x (sM (dO rfl) (US _ _ _) (sM (dO rfl) (IF _ _ _) (sM (dO rfl) (IF _ _ _) (nul))))))))))))
theorem V.fineL_take{l:List V}(h:V.fineL l):∀k,V.fineL (l.take k):=by
 induction l with
 |nil=>intro k;simp[V.fineL]
 |cons x l ih=>
  intro k;cases k with
  |zero=>simp[V.fineL]
  |succ k=>simp only[Yp,V.fineL]at h ⊢;exact⟨h.1,ih h.2 k⟩
theorem V.depthL_take_le(l:List V):∀k,V.depthL (l.take k)<=V.depthL l:=by
 induction l with
 |nil=>intro k;simp
 |cons x l ih=>
  intro k;cases k with
  |zero=>simp[V.depthL]
  |succ k=>simp only[Yp,V.depthL];have:=ih k;omega
theorem Yq(n:Nat)(hn:n<=100):∀ls:List (List V),(∀l∈ls,l.all vw=true/\l.length<=n)->V.fineL (ls.map V.list)->(V.encL (ls.map V.list)).length<=ls.length*(n*1000000020+11)/\V.depthL (ls.map V.list)<=1
 | [],_,_=>by simp[V.encL,V.depthL]
 |l::ls,h,hf=>by
  simp only[dt,V.fineL,V.fine]at hf;obtain⟨h1,h2⟩:=Yq n hn ls (λl' hl'=>h l' (by simp[hl'])) hf.2;obtain⟨h3,h4⟩:=h l zJ;obtain⟨h5,h6⟩:=ncf l h3 hf.1.2.2;have h7:=CA (u:=l.length) aa;have h8:l.length*1000000020<=n*1000000020:=wo _ h4;simp only[dt,V.encL,V.depthL,V.enc,V.depth,ck,dC,h6,pE];refine⟨by omega,by omega⟩
theorem QZ(c:Cm)(qX:qW c)(hf:V.fineL (mC c)):(V.encL (mC c)).length<=700000000000/\V.depthL (mC c)<=2:=by
 have f1:=qX.chs;have f2:=qX.path;have f3:=qX.bxs;have f4:=qX.wes;simp only[mC,V.fineL]at hf;obtain⟨g1,g2,g3,g4,g5,g6,g7,g8,g9,g10,g11,_⟩:=hf;have e5:=Yq 5 zB (c.chs.map BW) (λl hl=>by obtain⟨x,_,rfl⟩:=bY.1 hl;exact⟨rfl,ak 5⟩) (by simp only[V.fine]at g5;exact g5.2.2);have e7:=Yq 4 zB (c.bxs.map uF) (λl hl=>by obtain⟨x,_,rfl⟩:=bY.1 hl;exact⟨rfl,ak 4⟩) (by simp only[V.fine]at g7;exact g7.2.2);have e8:=Yq 3 zB (c.wes.map uG) (λl hl=>by obtain⟨x,_,rfl⟩:=bY.1 hl;exact⟨rfl,ak 3⟩) (by simp only[V.fine]at g8;exact g8.2.2);have e6:=ncf (c.path.map V.int) (by simp[vw]) (by simp only[V.fine]at g6;exact g6.2.2);have i1:=BG _ rfl g1;have i2:=BG _ rfl g2;have i3:=BG _ rfl g3;have i4:=BG _ rfl g4;have i9:=BG _ rfl g9;have i10:=BG _ rfl g10;have i11:=BG _ rfl g11;have n5:=CA (u:=((c.chs.map BW).map V.list).length) oI;have n6:=CA (u:=(c.path.map V.int).length) oI;have n7:=CA (u:=((c.bxs.map uF).map V.list).length) oI;have n8:=CA (u:=((c.wes.map uG).map V.list).length) oI;have m5:(c.chs.map BW).length*(5*1000000020+11)<=10*(5*1000000020+11):=wo _ (by rw[eG];exact f1);have m6:(c.path.map V.int).length*1000000020<=12*1000000020:=wo _ (by rw[eG];exact f2);have m7:(c.bxs.map uF).length*(4*1000000020+11)<=40*(4*1000000020+11):=wo _ (by rw[eG];exact f3)
 have m8:(c.wes.map uG).length*(3*1000000020+11)<=10*(3*1000000020+11):=wo _ (by rw[eG];exact f4);have l5:(V.list ((c.chs.map BW).map V.list)).enc.length<=11+(V.encL ((c.chs.map BW).map V.list)).length:=by simp only[V.enc,dC,ck];omega
 have l6:(V.list (c.path.map V.int)).enc.length<=11+(V.encL (c.path.map V.int)).length:=by simp only[V.enc,dC,ck];omega
 have l7:(V.list ((c.bxs.map uF).map V.list)).enc.length<=11+(V.encL ((c.bxs.map uF).map V.list)).length:=by simp only[V.enc,dC,ck];omega
 have l8:(V.list ((c.wes.map uG).map V.list)).enc.length<=11+(V.encL ((c.wes.map uG).map V.list)).length:=by simp only[V.enc,dC,ck];omega
 refine⟨?_,?_⟩
 ·unfold mC;simp only[V.encL,ck,fb];omega
 unfold mC;simp only[V.depthL,V.depth,e6.2];have d5:=e5.2;have d7:=e7.2;have d8:=e8.2;omega
theorem Yr(c:Cm)(qX:qW c)(hf:V.fineL (mC c))(k:Nat):(V.list ((mC c).take k)).fine/\(V.list ((mC c).take k)).depth<=16/\(V.list ((mC c).take k)).enc.length<=800000000000:=by grind [QZ,V.depthL_take_le,mC,V.encL_take_le,CA,V.fine,V.fineL_take,V.depth,V.enc,List.length_cons]
theorem nHk{N:Nat}{w:World}{cs:Array Value}:∀{l:List V} {off:Nat} (k:Nat),gB N w cs off l->gB N w cs off (l.take k)
 | [],off,k,h=>by simpa using h
 |x::l,off,0,h=>by simp[gB]
 |x::l,off,k+1,h=>by
  simp only[Yp,gB]at h ⊢;exact⟨h.1,h.2.1,nHk k h.2.2⟩
theorem n8l{b cap:Nat}{l:List V}(hn:l.length=n)(hn0:0<n)(k:Nat)(hk:k<=n)(h:eM N w (.list l) (vL (aj b) n cap)):eM N w (.list (l.take k)) (vL (aj b) k cap):=by grind [eM,nHk]
theorem nKe{Z:Fx}(hZ:FxOk Z)(s:ByteArray)(hs0:s.size<1000)(l:List V)(dK:(V.list l).fine)(hd:(V.list l).depth<=16)(iO:(V.list l).enc.length<=800000000000)(N bl lc:Nat)(w:World)(hN:N<=w.heap.size)(xr:eM N w (.list l) (vL (aj bl) l.length lc))(hg:Glb w):Calls prog 44 #[.string s,.slice (aj bl) l.length lc] w (aM w (.agg (dg (Z.tg s (V.list l).enc)))):=by
 have hg4:=hg.lt;obtain⟨df,kE⟩:∃df,Z.tg s (V.list l).enc=df:=⟨_,rfl⟩;refine eN func44 ntmps44 ?_;refine B 3 ?_;refine yW ?_;intro b4 ja jb;refine B 5 ?_;refine zce ?_;refine z9d ?_;intro gf Io JF lP pW ahl yA;replace lP:=yb lP;replace pW:=yd pW;refine B 11 ?_;refine z0d ?_;refine B 4 ?_;refine cC (.inl rfl) results44 bj A0 zC ?_;rw[kE];rfl
def aB (Z:Fx) (c:Cm):Nat->Int:=Z.tg (⟨#[99,111,109,109,105,116]⟩:ByteArray) (V.list (mC c)).enc
def mF (Z:Fx) (c:Cm):Nat->Int:=Z.tg (⟨#[99,111,109,109,105,116,32,115,105,103,110]⟩:ByteArray) (V.list ((mC c).take 9)).enc
structure bP (c:Cm):Prop where
 few:qW c
 fine:V.fineL (mC c)
theorem Ys{Z:Fx}(hZ:FxOk Z)(c:Cm)(dz:bP c)(N:Nat)(w:World)(hN:N<=w.heap.size)(hC:dm N w c)(hg:Glb w):Calls prog 23 #[.agg (cG c)] w (aM w (.agg (dg (aB Z c)))):=by
 have hg4:=hg.lt;obtain⟨df,kE⟩:∃df,aB Z c=df:=⟨_,rfl⟩;have uK:=Yr c dz.few dz.fine 11;have e11:(mC c).take 11=mC c:=rfl;rw[e11]at uK;refine eN func23 ntmps23 ?_;refine B 2 ?_;refine yX ?_;intro b1 w1 hb1 cF gA fX jq;refine B 1 ?_;refine yW ?_;intro b2 dx dq;refine B 4 ?_;refine ax (.agg (cG c)) ?_;refine zJd ?_;rintro W5 b5 w5 UX hB5 ⟨hq5,hv5⟩;have Yt:=UX.sizes;replace Yt:=yb Yt;have ahm:=hB5.size;have hU5:=UX.under;simp only[nZ,cW,dB,and_true]at hU5;have aho:=(hB5.block b2 aa).trans (UX.own _ A0);refine call call44 rfl rfl rfl (λW hS=>by rw[<-kE];exact nKe hZ (⟨#[99,111,109,109,105,116]⟩:ByteArray) zB (mC c) uK.1 uK.2.1 uK.2.2 w5.heap.size b5 11 W (hS.links w5 A0).size (eM.up (ak _) (λk hk=>by by_cases e2:k=b2;(rw[e2,aho];exact hS.own _ A0);exact(hS.links w5 A0).block k hk (λhx=>by rcases hx with hx|hx;(exact hx);simp at hx;exact e2 hx)) _ _ hv5) (hg.old hS A2 zI zF)) (v:=.agg (dg df)) ?_;refine B 4 ?_;refine cC (.inl rfl) results23 bj A2 zC ?_;rw[kE];rfl
theorem nuc{Z:Fx}(hZ:FxOk Z)(c:Cm)(dz:bP c)(N:Nat)(w:World)(hN:N<=w.heap.size)(hC:dm N w c)(hg:Glb w):Calls prog 147 #[.agg (cG c)] w (cN w (λb:Nat=>.slice (aj b) 32 32) (λb w1=>w.heap.size<=b/\w1.heap[b]? =some (oC (dg (mF Z c)) 33))):=by
 have hg4:=hg.lt;obtain⟨df,kE⟩:∃df,mF Z c=df:=⟨_,rfl⟩;have uK:=Yr c dz.few dz.fine 9;refine eN func147 ntmps147 ?_;refine B 2 ?_;refine yX ?_;intro b1 w1 hb1 cF gA fX jq;refine B 5 ?_;refine ax (.agg (cG c)) ?_;refine zJd ?_;rintro W5 b5 w5 UX hB5 ⟨hq5,hv5⟩;have Yt:=UX.sizes;replace Yt:=yb Yt;have ahm:=hB5.size;have hU5:=UX.under;simp only[nZ,cW,dB,and_true]at hU5;refine rv rfl rfl rfl (fk (h:=9) underlying134 sizeOf200 rfl ⟨_,_,rfl,rfl⟩ aa) ?_;refine call call44 rfl rfl rfl (λW hS=>by rw[<-kE];exact nKe hZ (⟨#[99,111,109,109,105,116,32,115,105,103,110]⟩:ByteArray) zB ((mC c).take 9) uK.1 uK.2.1 uK.2.2 w5.heap.size b5 11 W (hS.links w5 A0).size (eM.up (ak _) (hS.same A0 (ak _) zI trivial) _ _ (n8l (n:=11) rfl zB 9 zB hv5)) (hg.old hS A2 zI zF)) (v:=.agg (dg df)) ?_;refine B 1 ?_;refine yW ?_;intro b3 ez eP;refine B 5 ?_;refine zne ?_;refine B 4 ?_;exact bM (.inl rfl) results147 bj (λW hS=>⟨b3,rfl,hS.base A2 zC,by omega,by rw[kE];exact hS.own _ A0⟩)
def kF (g:Gp) (au:Int) (l:List Ch):Int:=if gS g.ms au=true then((g.ms[oV g.ms au]?).map (·.ver)).getD 0 else((l[0]?).map (·.ver)).getD 0
theorem njm{g:Gp}{au:Int}{x:Mb}(h:gS g.ms au=true)(hx:g.ms[oV g.ms au]? =some x):x.ver=kF g au l:=by unfold kF;rw[if_pos h,hx];rfl
theorem njo{g:Gp}{au:Int}(h:gS g.ms au=false)(hx:l[0]? =some x):x.ver=kF g au l:=by unfold kF;rw[if_neg (by rw[h];decide),hx];rfl
theorem nIc(G:Gv)(N:Nat)(w:World)(hN:N<=w.heap.size)(hG:bT N w G)(l:List Ch)(hxl:l.length<=1000000)(a:Option Addr)(cp:Nat)(aJ:ai gh 5 N w a l)(au:Int)(Ib:gS G.g.ms au=false->0<l.length):Calls prog 135 #[.agg (bD G),ab au,.slice a l.length cp] w (aM w (ab (kF G.g au l))):=by
 refine eN func135 ntmps135 ?_;refine B 2 ?_;refine yX ?_;intro b3 w3 hb3 cK fF ez eP;refine B 6 ?_;refine ax (.agg (bD G)) ?_;refine B 1 ?_;refine call call199 rfl rfl rfl (λW hS=>nOd G N W cM (hG.up (ak _) hS.sm) au) ?_;refine B 12 ?_;refine aG ?_ ?_
 ·intro ar;refine B 1 ?_;have hmn:=hG.mn;have hlt:=Ko eC;have Eo:=hG.ms;obtain⟨bo,oo,cs0,to,fG,gU,fH,cJ,aW⟩:=Eo.get aa;obtain⟨x,hx⟩:=ng G.g.ms (oV G.g.ms au) hlt;refine B 2 ?_;refine rq (.slice (some ⟨bo,oo,none⟩) G.g.ms.length G.mc) (av isAgg48 rfl A0 hb3 cK trivial rfl) (congrArg (λq=>Value.slice q G.g.ms.length G.mc) gU) ?_;refine B 3 ?_;refine rv rfl rfl rfl (av (v:=ab x.ver) isAgg3 rfl A1 cJ zL trivial (by have:=yQ aW hx rfl 2 zB;simpa[pZ]using this)) ?_;refine B 5 ?_;exact zJh
 intro ar;refine B 3 ?_;have lX:=Ib yO;obtain⟨bo,oo,cs0,to,fG,rfl,fH,cJ,aW⟩:=aJ.get aa;obtain⟨x,hx⟩:=ng l 0 aa;refine B 4 ?_;refine rv rfl rfl rfl (av (v:=ab x.ver) isAgg3 rfl A1 cJ zL trivial (by have:=yQ aW hx (i:=0) rfl 3 zB;simpa[gh]using this)) ?_;refine B 4 ?_;exact zJh
end Px
