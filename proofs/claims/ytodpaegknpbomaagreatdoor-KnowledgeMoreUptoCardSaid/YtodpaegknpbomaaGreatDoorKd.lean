/- Contracts of functions of the program. No condition beyond those stated. -/
import Derived.Test.YtodpaegknpbomaaGreatDoorKc
import Derived.Test.YtodpaegknpbomaaGreatDoorProg
import Derived.Shelf.SlSortCmp.WholeK
import Derived.Deep.RegionWith
import Derived.Handy
import Derived.Lib.Bytealg
import Derived.Laws.Externs
import Derived.Test.YtodpaegknpbomaaGreatDoorLa
set_option linter.unusedSimpArgs false
set_option linter.unusedVariables false
set_option linter.unusedSectionVars false
set_option linter.unnecessarySimpa false
set_option maxRecDepth 20000
set_option maxHeartbeats 8000000
namespace Px
open Go Go.RowKit Go.Proofs Go.Proofs.Tryz
def kG {α β:Type} (r:α->β->Bool) (xs:List α) (ys:List β):Bool:=decide (xs.length=ys.length)&&(xs.zip ys).all λp=>r p.1 p.2
def BY {α β:Type} (r:α->β->Bool) (xs:List α) (ys:List β) (j:Nat):Prop:=∀(i:Nat) (x:α) (y:β),i<j->xs[i]? =some x->ys[i]? =some y->r x y=true
variable {Z:Fx} {g:Gp} {l:List (Dk×Int)} {cs:List Cm} {sp:List Value} {j:Nat} {W:World}
theorem BY.next{α β:Type}{r:α->β->Bool}{xs:List α}{ys:List β}{x:α}{y:β}(h:BY r xs ys j)(hx:xs[j]? =some x)(hy:ys[j]? =some y)(e:r x y=true):BY r xs ys (j+1):=by
 exact zeh
theorem nne{α β:Type}{r:α->β->Bool}{xs:List α}{ys:List β}(hl:xs.length=ys.length)(h:BY r xs ys j)(hj:¬j<xs.length):true=kG r xs ys:=by
 unfold kG;rw[decide_eq_true hl,Bool.true_and,eq_comm,rZ];rintro⟨x,y⟩ hp;obtain⟨i,hi⟩:=kA.1 hp;rw[List.getElem?_zip_eq_some]at hi;exact h i x y (by have:=nr hi.1;omega) hi.1 hi.2
theorem nwf{α β:Type}{r:α->β->Bool}{xs:List α}{ys:List β}{x:α}{y:β}(hx:xs[j]? =some x)(hy:ys[j]? =some y)(h:r x y=false):false=kG r xs ys:=by
 unfold kG;have:((xs.zip ys).all λp=>r p.1 p.2)=false:=by
  rw[List.all_eq_false];exact⟨(x,y),kA.2 ⟨j,List.getElem?_zip_eq_some.2 ⟨hx,hy⟩⟩,by simp[h]⟩
 rw[this,Bool.and_false]
theorem nre{α β:Type}{r:α->β->Bool}{xs:List α}{ys:List β}(hl:¬xs.length=ys.length):false=kG r xs ys:=by unfold kG;rw[decide_eq_false hl];rfl
def IG (x:Bx) (p:Int×Int):Bool:=decide (x.node=p.2)&&decide (x.level=p.1)
def UY (x:We) (y:Ch):Bool:=decide (x.dev=y.dev)
theorem Q0(x:Bx)(p:Int×Int)(w:World):Calls prog 150 #[.agg (yS x),.agg (QP p)] w (aM w (.bool (IG x p))):=by
 refine eN func150 ntmps150 ?_;refine B 2 ?_;refine yX ?_;intro b2 w2 da bW eU dx dq;refine yX ?_;intro b3 w3 hb3 cK fF ez eP;refine B 11 ?_;refine ni (t:=10) rfl (λar=>?_) (λar=>?_)
 ·exact zrh
 exact zrh
theorem Q1(x:We)(y:Ch)(w:World):Calls prog 151 #[.agg (wj x),.agg (gh y)] w (aM w (.bool (UY x y))):=by
 refine eN func151 ntmps151 ?_;refine B 2 ?_;refine yX ?_;intro b2 w2 da bW eU dx dq;refine yX ?_;intro b3 w3 hb3 cK fF ez eP;refine B 14 ?_;refine aF results151 rfl A2 ?_;rfl
theorem Yu(xs:List Bx)(hxl:xs.length<=1000000)(N:Nat)(a:Option Addr)(cp:Nat)(w:World)(hN:N<=w.heap.size)(aJ:ai yS 4 N w a xs)(ys:List (Int×Int))(a2:Option Addr)(XS:Nat)(hsl2:ai QP 4 N w a2 ys):Calls prog 152 #[.slice a xs.length cp,.slice a2 ys.length XS,.func (.func 150) #[] #[]] w (aM w (.bool (kG IG xs ys))):=by
 refine eN func152 ntmps152 ?_;refine B 15 ?_;refine aG ?_ ?_
 ·intro ar;refine B 7 ?_;refine aF results152 rfl A0 ?_;exact UZ
 intro ar;refine B 11 ?_;refine CJ.lp (α:=Nat) [1,2,15,16] (λj=>[(17,ab (j:Int))]) (λj=>[]) (λj=>j<=xs.length/\BY IG xs ys j) (λj=>xs.length-j) 0 ⟨cV _,λi x y hi=>absurd hi aa⟩ ?_;rintro j ⟨hj,ea⟩;refine B 6 ?_;refine aG ?_ ?_
 ·intro aN;refine B 5 ?_;obtain⟨bo,oo,cs0,to,fG,rfl,fH,cJ,aW⟩:=aJ.get aa;obtain⟨x,hx⟩:=ng xs j aa;refine B 3 ?_;refine ax (.agg (yS x)) ?_;refine B 1 ?_;refine yW ?_;intro b8 Ik Il;refine B 5 ?_;obtain⟨bp,op,csp,tp,frp,rfl,Cr,QB,QC⟩:=hsl2.get aa;obtain⟨y,hy⟩:=ng ys j aa;refine B 4 ?_;refine ax (.agg (QP y)) ?_;refine B 1 ?_;refine yW ?_;intro b9 xn tk;refine B 8 ?_;refine Bu (f:=150) (cap:=[]) rfl call150 rfl rfl rfl (λW hS=>Q0 x y W) ?_;refine B 3 ?_;refine aG ?_ ?_
  ·intro dc;refine B 11 ?_;refine cC (.inl rfl) results152 bj A0 zC ?_;exact UZ
  exact zXh
 intro aN;refine B 11 ?_;refine aF results152 rfl A0 ?_;exact UZ
theorem nmd(xs:List We)(hxl:xs.length<=1000000)(N:Nat)(a:Option Addr)(cp:Nat)(w:World)(hN:N<=w.heap.size)(aJ:ai wj 3 N w a xs)(ys:List Ch)(a2:Option Addr)(XS:Nat)(hsl2:ai gh 5 N w a2 ys):Calls prog 153 #[.slice a xs.length cp,.slice a2 ys.length XS,.func (.func 151) #[] #[]] w (aM w (.bool (kG UY xs ys))):=by
 refine eN func153 ntmps153 ?_;refine B 15 ?_;refine aG ?_ ?_
 ·intro ar;refine B 7 ?_;refine aF results153 rfl A0 ?_;exact UZ
 intro ar;refine B 11 ?_;refine CJ.lp (α:=Nat) [1,2,15,16] (λj=>[(17,ab (j:Int))]) (λj=>[]) (λj=>j<=xs.length/\BY UY xs ys j) (λj=>xs.length-j) 0 ⟨cV _,λi x y hi=>absurd hi aa⟩ ?_;rintro j ⟨hj,ea⟩;refine B 6 ?_;refine aG ?_ ?_
 ·intro aN;refine B 5 ?_;obtain⟨bo,oo,cs0,to,fG,rfl,fH,cJ,aW⟩:=aJ.get aa;obtain⟨x,hx⟩:=ng xs j aa;refine B 3 ?_;refine ax (.agg (wj x)) ?_;refine B 1 ?_;refine yW ?_;intro b8 Ik Il;refine B 5 ?_;obtain⟨bp,op,csp,tp,frp,rfl,Cr,QB,QC⟩:=hsl2.get aa;obtain⟨y,hy⟩:=ng ys j aa;refine B 4 ?_;refine ax (.agg (gh y)) ?_;refine B 1 ?_;refine yW ?_;intro b9 xn tk;refine B 8 ?_;refine Bu (f:=151) (cap:=[]) rfl call151 rfl rfl rfl (λW hS=>Q1 x y W) ?_;refine B 3 ?_;refine aG ?_ ?_
  ·intro dc;refine B 11 ?_;refine cC (.inl rfl) results153 bj A0 zC ?_;exact UZ
  exact zXh
 intro aN;refine B 11 ?_;refine aF results153 rfl A0 ?_;exact UZ
def rf (au:Int) (x:Ch):Bool:=decide (x.kind=2\/x.dev=au)
def gj (l:List Ch) (x:Mb):Bool:=l.any λy=>decide (y.dev=x.dev)
theorem njp(au:Int)(b:Nat)(x:Ch)(w:World)(hb1:w.heap[b]? =some (oC #[ab au] 3)):Calls prog 212 #[.agg (gh x),ptr b 0] w (aM w (.bool (rf au x))):=by
 have cF:¬Gh.no.X b:=λh=>h;have lX:=(aT.1 hb1).1;refine eN func212 ntmps212 ?_;refine B 2 ?_;refine yX ?_;intro b2 w2 da bW eU dx dq;refine B 9 ?_;refine ni (t:=7) rfl (λar=>?_) (λar=>?_)
 ·exact zah
 exact zah
theorem KE(y:Ch)(b:Nat)(x:Mb)(w:World)(hb1:w.heap[b]? =some (oC (pZ x) 131)):Calls prog 157 #[.agg (gh y),ptr b 0] w (aM w (.bool (decide (y.dev=x.dev)))):=by
 have cF:¬Gh.no.X b:=λh=>h;have lX:=(aT.1 hb1).1;refine eN func157 ntmps157 ?_;refine B 2 ?_;refine yX ?_;intro b2 w2 da bW eU dx dq;refine B 14 ?_;refine aF results157 rfl A1 ?_;rfl
theorem Q2(c:Cm)(qX:qW c)(N:Nat)(b:Nat)(x:Mb)(w:World)(hN:N<=w.heap.size)(hC:dm N w c)(hb1:w.heap[b]? =some (oC (cG c) 61)):Calls prog 155 #[.agg (pZ x),ptr b 0] w (aM w (.bool (gj c.chs x))):=by
 have cF:¬Gh.no.X b:=λh=>h;have lX:=(aT.1 hb1).1;have Ax:=qX.chs;refine eN func155 ntmps155 ?_;refine B 2 ?_;refine yX ?_;intro b2 w2 da bW eU dx dq;refine B 6 ?_;refine ax (.slice c.ca c.chs.length c.cc) ?_;refine B 1 ?_;refine call call156 rfl rfl rfl (λW hS=>nwd (λy=>decide (y.dev=x.dev)) 157 [ptr b2 0] call157 c.chs aa N c.ca c.cc W cM (hC.chs.up (ak _) hS.sm) (λj y hy W2 hB=>KE y b2 x W2 (by have h2:=(hS.links w2 A0).size;rw[hB.block b2 aa];exact hS.old A0 da bW trivial))) ?_;refine B 4 ?_;refine aF results155 rfl A1 ?_;rfl
theorem Q3:iR prog 54 99 5:=⟨underlying54,Tryz.t99,.agg #[ab 0,ab 0,ab 0,ab 0,ab 0],Kl,rfl,rfl,rfl,by decide⟩
theorem ES:iR prog 48 131 3:=⟨underlying48,Tryz.t131,.agg #[ab 0,ab 0,ab 0],Kk,rfl,rfl,rfl,by decide⟩
theorem nom(n c:Nat)(w:World):Calls prog 138 #[.slice none n c] w (aD w my 5 99 ([]:List Ch) id):=by
 refine eN func138 ntmps138 ?_;refine B 9 ?_;refine rr cX (uL underlying54 rfl rfl) ?_;refine B 10 ?_;exact nP (H0:=[]) (H1:=[]) (r:=.nil) (.inl rfl) results138 bj A0 trivial rfl rfl True.intro rfl
theorem nXk(xs:List Ch)(hxl:xs.length<=100000)(N:Nat)(q:Addr)(cp:Nat)(w:World)(hN:N<=w.heap.size)(aJ:ai gh 5 N w (some q) xs):Calls prog 138 #[.slice (some q) xs.length cp] w (aD w my 5 99 xs id):=by
 refine eN func138 ntmps138 ?_;refine B 9 ?_;refine rr bG (uM underlying54 rfl rfl) ?_;refine B 7 ?_;refine iS underlying54 sizeOf99 zeroValue99 rfl rfl rfl rfl rfl rfl rfl ?_;refine yW ?_;intro b5 so sq;refine B 1 ?_;refine CP (xs:=([]:List Ch)) (zs:=xs) (enc:=my) (m:=5) (H0:=[]) (H1:=[]) (sp:=[]) (by rfl) Q3 BS rfl rfl rfl rfl (bO.sl BS n4j underlying54 A0 aJ (λb hb=>⟨λh=>h,by simp only[aY,and_true];omega⟩)) ⟨ak _,rfl⟩ (.inr zD) oI ?_;intro b7 CI Yv tv pF;have ET:w.heap.size<=b7:=by rcases tv with h|h;(omega);exact h.not A0
 rw[ef]at pF ⊢;refine B 4 ?_;exact nP (H0:=[]) (H1:=[]) (r:=.row b7 CI Yv) (.inl rfl) results138 bj A0 (by simp only[ef,Over,and_true];omega) rfl pF ET (by rfl)
theorem ndl(xs:List Ch)(hxl:xs.length<=100000)(N:Nat)(a:Option Addr)(cp:Nat)(w:World)(hN:N<=w.heap.size)(aJ:ai gh 5 N w a xs):Calls prog 138 #[.slice a xs.length cp] w (aD w my 5 99 xs id):=by
 cases a with
 |none=>
  have h0:xs=[]:=by rcases aJ with h|⟨b,off,cs,t,fr,h,_⟩;(exact h);cases h
  subst h0;exact nom 0 cp w
 |some q=>exact nXk xs hxl N q cp w hN aJ
theorem nkm(n c:Nat)(w:World):Calls prog 159 #[.slice none n c] w (aD w ov 3 131 ([]:List Mb) id):=by
 refine eN func159 ntmps159 ?_;refine B 9 ?_;refine rr cX (uL underlying48 rfl rfl) ?_;refine B 10 ?_;exact nP (H0:=[]) (H1:=[]) (r:=.nil) (.inl rfl) results159 bj A0 trivial rfl rfl True.intro rfl
theorem nUk(xs:List Mb)(hxl:xs.length<=100000)(N:Nat)(q:Addr)(cp:Nat)(w:World)(hN:N<=w.heap.size)(aJ:ai pZ 3 N w (some q) xs):Calls prog 159 #[.slice (some q) xs.length cp] w (aD w ov 3 131 xs id):=by
 refine eN func159 ntmps159 ?_;refine B 9 ?_;refine rr bG (uM underlying48 rfl rfl) ?_;refine B 7 ?_;refine iS underlying48 sizeOf131 zeroValue131 rfl rfl rfl rfl rfl rfl rfl ?_;refine yW ?_;intro b5 so sq;refine B 1 ?_;refine CP (xs:=([]:List Mb)) (zs:=xs) (enc:=ov) (m:=3) (H0:=[]) (H1:=[]) (sp:=[]) (by rfl) ES BR rfl rfl rfl rfl (bO.sl BR nuh underlying48 A0 aJ (λb hb=>⟨λh=>h,by simp only[aY,and_true];omega⟩)) ⟨ak _,rfl⟩ (.inr zD) oI ?_;intro b7 CI Yv tv pF;have ET:w.heap.size<=b7:=by rcases tv with h|h;(omega);exact h.not A0
 rw[ef]at pF ⊢;refine B 4 ?_;exact nP (H0:=[]) (H1:=[]) (r:=.row b7 CI Yv) (.inl rfl) results159 bj A0 (by simp only[ef,Over,and_true];omega) rfl pF ET (by rfl)
theorem EU(xs:List Mb)(hxl:xs.length<=100000)(N:Nat)(a:Option Addr)(cp:Nat)(w:World)(hN:N<=w.heap.size)(aJ:ai pZ 3 N w a xs):Calls prog 159 #[.slice a xs.length cp] w (aD w ov 3 131 xs id):=by
 cases a with
 |none=>
  have h0:xs=[]:=by rcases aJ with h|⟨b,off,cs,t,fr,h,_⟩;(exact h);cases h
  subst h0;exact nkm 0 cp w
 |some q=>exact nUk xs hxl N q cp w hN aJ
theorem nxg{α:Type}{p:α->Bool}{xs:List α}{k:Nat}(h:gL p xs k):(xs.take k).filter (λx=> !p x)=xs.take k:=by
 rw[List.filter_eq_self];intro x hx;obtain⟨i,hi⟩:=kA.1 hx;have hl:=nr hi;rw[kQ]at hl;rw[QX aa]at hi;simp[h i x aa hi]
theorem KF{α:Type}{p:α->Bool}{xs:List α}(h:xs.any p=false):xs.filter (λx=> !p x)=xs:=by simp_all
theorem Q4{α:Type}{p:α->Bool}{xs:List α}{x:α}(hx:xs[j]? =some x):(xs.take (j+1)).filter (λx=> !p x)=(xs.take j).filter (λx=> !p x)++(if p x=true then[]else[x]):=by
 rw[np hx,List.filter_append];congr 1;cases h:p x<;>simp[h]
theorem Q5{α:Type}{enc:α->List Value}{m:Nat}{cur:List α}{x:α}(hm:∀x,(enc x).length=m)(hx:cur[j]? =some x):cut (gN enc cur++sp).toArray (0+((j:Int)).toNat*m) m=(enc x).toArray:=by grind [cut,Yw]
theorem Q6{α:Type}{enc:α->List Value}{m:Nat}{cur:List α}(hm:∀x,(enc x).length=m)(hj:j<cur.length):0+((j:Int)).toNat*m+m<=(gN enc cur++sp).toArray.size:=by
 have h2:(j+1)*m<=cur.length*m:=wo _ hj;all_goals grind [nW]
theorem EV:∀l:List Value,(∀u∈l,yp u=true)->aV l=true:=
 by intro x;induction x<;>(intros;grind [aV])
theorem EW:∀{l:List Value},aV l=true->∀u∈l,yp u=true:=
 by intro x;induction x<;>(intros;grind [aV])
theorem nbf{zs:Array Value}(h:aV zs.toList=true)(n:Nat):aV (Builtin.zeroCells zs n).toList=true:=by
 refine EV _ λu hu=>?_;simp only[Builtin.zeroCells,Array.toList_map,bY]at hu;obtain⟨i,hi,rfl⟩:=hu;have U0:i<n*zs.size:=by simpa using hi
 have hp:0<zs.size:=by
  rcases Nat.eq_zero_or_pos zs.size with h0|h0
  ·rw[h0]at U0;omega
  exact h0
 have hlt:i%zs.size<zs.size:=Nat.mod_lt _ hp;all_goals grind [EW]
theorem EX{w W2:World}{b:Nat}(h1:aH (· =b) w W)(h2:Below W.heap.size W W2):aH (· =b) w W2:=h1.trans (aH.of_below h2)
theorem n0c{α:Type}{cur:List α}{i:Nat}{x:α}(h:i<cur.length):(cur.set i x).take (i+1)=cur.take i++[x]:=by
 have h1:(cur.set i x)[i]? =some x:=by simp[h]
 rw[np h1,List.take_set_of_le (ak i)]
theorem nSd{α:Type}{cur:List α}{i:Nat}{x:α}(h:i<j):(cur.set i x).drop j=cur.drop j:=List.drop_set_of_lt h
theorem Yx{α:Type}{cur xs:List α}{x:α}(h:cur.drop j=xs.drop j)(hx:xs[j]? =some x):cur[j]? =some x/\cur.drop (j+1)=xs.drop (j+1):=by
 have h1:(cur.drop j)[0]? =(xs.drop j)[0]? :=by rw[h]
 rw[QY,QY,Nat.add_zero,hx]at h1;refine⟨h1,?_⟩;have:=congrArg (List.drop 1) h;rwa[List.drop_drop,List.drop_drop]at this
theorem nRk(p:Ch->Bool)(f:Nat)(cap:List Value)(az:eg prog f)(xs:List Ch)(hxl:xs.length<=100000)(b cp:Nat)(sp:List Value)(w:World)(hb:w.heap[b]? =some (aO my 99 xs sp))(bN:(Rw.row b cp sp).Fit 5 xs)(hp:∀(j:Nat) (x:Ch),xs[j]? =some x->∀W,aH (· =b) w W->b<W.heap.size->Calls prog f (.agg (gh x)::cap).toArray W (aM W (.bool (p x)))):Calls prog 211 #[.slice (aj b) xs.length cp,.func (.func f) #[] cap.toArray] w (λe w'=>∃bU,e= .returned ((λr=>r.val (xs.filter (λx=> !p x)).length) (Rw.row b cp bU))/\aH (· =b) w w'/\(Rw.row b cp bU).Fit 5 (xs.filter (λx=> !p x))/\w'.heap[b]? =some (aO my 99 (xs.filter (λx=> !p x)) bU)):=by
 have gV:=bN.1;have eu:=bN.2;have jf:=(aT.1 hb).1;refine nB (Gh.lent (· =b)) [(b,aO my 99 xs sp)] (vs:=[_,_]) func211 rfl ntmps211 rfl (DG hb) ?_;refine B 9 ?_;refine nv (α:=Int) (v:=λi:Int=>ab i) (Φ:=λ_ i _=>eR p xs i) call225 rfl rfl rfl (λW hS=>?_) ?_
 ·have y8:=hS.own (b,_) A0;have jj:ai gh 5 W.heap.size W (aj b) xs:=by
   obtain⟨a9,c9,e9,h9⟩:=(Rw.row b cp sp).sl (enc:=my) (t:=99) (N:=W.heap.size) (w:=W) BS bN y8 (ak _);exact zih
  exact nIe p f cap az xs aa W.heap.size (aj b) cp W (ak _) jj (λj x hx W2 hB=>hp j x hx W2 (EX ((hS.links w A0).mono (λk _ hk=>by rcases hk with hk|hk;(exact hk);(simp only[dt,eL,cW,dB,bX,dy,or_false]at hk;first|exact hk|(rcases hk with hk|hk;(exfalso;omega);exact hk)))) hB) (by have:=(aT.1 y8).1;have:=hB.size;omega))
 intro Wi i wi EA EB hi;have hbi:=EA.lt (b,_) A0;have hzi:=EB.size;refine B 5 ?_;rcases hi with⟨rfl,rh⟩|⟨k,x0,rfl,sG,U1,rW⟩
 ·refine B 2 ?_;refine KG ?_;exact bM (.inl rfl) results211 bj λW hS=>⟨sp,by rw[KF rh];rfl,hS.baseX A1 NG,by rw[KF rh];exact bN,by rw[KF rh];exact hS.own _ A0⟩
 refine xv ?_;refine B 7 ?_;have vx:=nr sG;refine B 7 ?_;refine CJ.loop (α:=(Nat×List Ch)×Nat) (λp9=>[(0,.slice (aj b) xs.length cp),(1,.func (.func f) #[] cap.toArray),(5,ab (p9.1.1:Int)),(6,ab (p9.2:Int))]) (λp9=>[(b,aO my 99 p9.1.2 sp)]) (λp9=>[w]) (λp9=>Gh.lent (· =b)) (λp9=>p9.1.1<p9.2/\p9.2<=xs.length/\p9.1.2.length=xs.length/\p9.1.2.take p9.1.1=(xs.take p9.2).filter (λx=> !p x)/\p9.1.2.drop p9.2=xs.drop p9.2) (λp9=>xs.length-p9.2) ((k,xs),k+1) ⟨by dsimp only;omega,by dsimp only;omega,rfl,by dsimp only;rw[Q4 sG,if_pos U1,nxg rW,dV],rfl⟩ zR rfl rfl zJ ?_;rintro⟨⟨i2,cur⟩,j⟩ ⟨uy,sE,lQ,wt,y9⟩;dsimp only at uy sE lQ wt y9 ⊢;refine B 9 ?_;refine aG ?_ ?_
 ·intro ar;refine B 5 ?_;obtain⟨x,hx⟩:=ng xs j aa;obtain⟨vz,ri⟩:=Yx y9 hx;refine B 4 ?_;refine rq (.agg (gh x)) (eV (i:=0) rfl isAgg99 sizeOf99 rfl (Q6 BS aa)) (va (Q5 (sp:=sp) BS vz)) ?_;refine B 1 ?_;refine yW ?_;intro b7 jy vr;refine B 7 ?_;refine zwd ?_;refine B 3 ?_;refine aG ?_ ?_
  ·intro aN;refine B 6 ?_;refine KH (enc:=my) (m:=5) (i:=1) (j:=i2) (z:=x) rfl BS n4j sizeOf99 rfl rfl rfl zJ aa rfl rfl ?_;exact zyg
  exact zTg
 intro ar;refine B 6 ?_;have za:j=xs.length:=by omega
 have jV:cur.take i2=(xs.filter (λx=> !p x)):=by rw[wt,za,vW]
 refine B 3 ?_;refine rq (.slice (some ⟨b,if cp=i2 then 0 else 0+i2*5,none⟩) (cur.drop i2).length (cp-i2)) (fM (l:=i2) (h:=xs.length) underlying54 sizeOf99 rfl ⟨_,_,rfl,rfl⟩ rfl aa aa rfl) (by rw[BN,lQ]) ?_;refine OJ.reH (H':=[(b,aO my 99 (cur.take i2++cur.drop i2) sp)]) (by rw[AH]) ?_;refine AI (i:=0) rfl BS underlying54 zeroValue99 rfl (nbf rfl _) rfl rfl zqb ?_;intro Q7 zb;refine B 6 ?_;refine rq (.slice (aj b) (cur.take i2).length cp) (fk (h:=i2) underlying54 sizeOf99 rfl ⟨_,_,rfl,rfl⟩ aa) Yy ?_;refine B 4 ?_;exact bM (.inl rfl) results211 bj λW hS=>⟨Q7,by rw[<-jV];rfl,hS.baseX A0 NG,by rw[<-jV];exact⟨by rw[kQ];omega,by rw[zb,BN,kQ,eu,Nat.min_eq_left aa,lQ,<-pE];congr 1;omega⟩,by rw[<-jV];exact hS.own _ A0⟩
theorem n1k(p:Mb->Bool)(f:Nat)(cap:List Value)(az:eg prog f)(xs:List Mb)(hxl:xs.length<=100000)(b cp:Nat)(sp:List Value)(w:World)(hb:w.heap[b]? =some (aO ov 131 xs sp))(bN:(Rw.row b cp sp).Fit 3 xs)(hp:∀(j:Nat) (x:Mb),xs[j]? =some x->∀W,aH (· =b) w W->b<W.heap.size->Calls prog f (.agg (pZ x)::cap).toArray W (aM W (.bool (p x)))):Calls prog 158 #[.slice (aj b) xs.length cp,.func (.func f) #[] cap.toArray] w (λe w'=>∃bU,e= .returned ((λr=>r.val (xs.filter (λx=> !p x)).length) (Rw.row b cp bU))/\aH (· =b) w w'/\(Rw.row b cp bU).Fit 3 (xs.filter (λx=> !p x))/\w'.heap[b]? =some (aO ov 131 (xs.filter (λx=> !p x)) bU)):=by
 have gV:=bN.1;have eu:=bN.2;have jf:=(aT.1 hb).1;refine nB (Gh.lent (· =b)) [(b,aO ov 131 xs sp)] (vs:=[_,_]) func158 rfl ntmps158 rfl (DG hb) ?_;refine B 9 ?_;refine nv (α:=Int) (v:=λi:Int=>ab i) (Φ:=λ_ i _=>eR p xs i) call118 rfl rfl rfl (λW hS=>?_) ?_
 ·have y8:=hS.own (b,_) A0;have jj:ai pZ 3 W.heap.size W (aj b) xs:=by
   obtain⟨a9,c9,e9,h9⟩:=(Rw.row b cp sp).sl (enc:=ov) (t:=131) (N:=W.heap.size) (w:=W) BR bN y8 (ak _);exact zih
  exact nod p f cap az xs aa W.heap.size (aj b) cp W (ak _) jj (λj x hx W2 hB=>hp j x hx W2 (EX ((hS.links w A0).mono (λk _ hk=>by rcases hk with hk|hk;(exact hk);(simp only[dt,eL,cW,dB,bX,dy,or_false]at hk;first|exact hk|(rcases hk with hk|hk;(exfalso;omega);exact hk)))) hB) (by have:=(aT.1 y8).1;have:=hB.size;omega))
 intro Wi i wi EA EB hi;have hbi:=EA.lt (b,_) A0;have hzi:=EB.size;refine B 5 ?_;rcases hi with⟨rfl,rh⟩|⟨k,x0,rfl,sG,U1,rW⟩
 ·refine B 2 ?_;refine KG ?_;exact bM (.inl rfl) results158 bj λW hS=>⟨sp,by rw[KF rh];rfl,hS.baseX A1 NG,by rw[KF rh];exact bN,by rw[KF rh];exact hS.own _ A0⟩
 refine xv ?_;refine B 7 ?_;have vx:=nr sG;refine B 7 ?_;refine CJ.loop (α:=(Nat×List Mb)×Nat) (λp9=>[(0,.slice (aj b) xs.length cp),(1,.func (.func f) #[] cap.toArray),(5,ab (p9.1.1:Int)),(6,ab (p9.2:Int))]) (λp9=>[(b,aO ov 131 p9.1.2 sp)]) (λp9=>[w]) (λp9=>Gh.lent (· =b)) (λp9=>p9.1.1<p9.2/\p9.2<=xs.length/\p9.1.2.length=xs.length/\p9.1.2.take p9.1.1=(xs.take p9.2).filter (λx=> !p x)/\p9.1.2.drop p9.2=xs.drop p9.2) (λp9=>xs.length-p9.2) ((k,xs),k+1) ⟨by dsimp only;omega,by dsimp only;omega,rfl,by dsimp only;rw[Q4 sG,if_pos U1,nxg rW,dV],rfl⟩ zR rfl rfl zJ ?_;rintro⟨⟨i2,cur⟩,j⟩ ⟨uy,sE,lQ,wt,y9⟩;dsimp only at uy sE lQ wt y9 ⊢;refine B 9 ?_;refine aG ?_ ?_
 ·intro ar;refine B 5 ?_;obtain⟨x,hx⟩:=ng xs j aa;obtain⟨vz,ri⟩:=Yx y9 hx;refine B 4 ?_;refine rq (.agg (pZ x)) (eV (i:=0) rfl isAgg131 sizeOf131 rfl (Q6 BR aa)) (va (Q5 (sp:=sp) BR vz)) ?_;refine B 1 ?_;refine yW ?_;intro b7 jy vr;refine B 7 ?_;refine zwd ?_;refine B 3 ?_;refine aG ?_ ?_
  ·intro aN;refine B 6 ?_;refine KH (enc:=ov) (m:=3) (i:=1) (j:=i2) (z:=x) rfl BR nuh sizeOf131 rfl rfl rfl zJ aa rfl rfl ?_;exact zyg
  exact zTg
 intro ar;refine B 6 ?_;have za:j=xs.length:=by omega
 have jV:cur.take i2=(xs.filter (λx=> !p x)):=by rw[wt,za,vW]
 refine B 3 ?_;refine rq (.slice (some ⟨b,if cp=i2 then 0 else 0+i2*3,none⟩) (cur.drop i2).length (cp-i2)) (fM (l:=i2) (h:=xs.length) underlying48 sizeOf131 rfl ⟨_,_,rfl,rfl⟩ rfl aa aa rfl) (by rw[BN,lQ]) ?_;refine OJ.reH (H':=[(b,aO ov 131 (cur.take i2++cur.drop i2) sp)]) (by rw[AH]) ?_;refine AI (i:=0) rfl BR underlying48 zeroValue131 rfl (nbf rfl _) rfl rfl zqb ?_;intro Q7 zb;refine B 6 ?_;refine rq (.slice (aj b) (cur.take i2).length cp) (fk (h:=i2) underlying48 sizeOf131 rfl ⟨_,_,rfl,rfl⟩ aa) Yy ?_;refine B 4 ?_;exact bM (.inl rfl) results158 bj λW hS=>⟨Q7,by rw[<-jV];rfl,hS.baseX A0 NG,by rw[<-jV];exact⟨by rw[kQ];omega,by rw[zb,BN,kQ,eu,Nat.min_eq_left aa,lQ,<-pE];congr 1;omega⟩,by rw[<-jV];exact hS.own _ A0⟩
section
open Go.Proofs Go.Shelf Go.Lib Go.Sort
theorem KI(a:Int)(W:World):Calls prog 169 #[ab a] W λe w'=>e= .returned (bG)/\w'=W:=by
 go_enter func169,ntmps169
 go_wp2
 go_ret
 simp
theorem AJ(a b:Int)(W:World):Calls prog 103 #[ab a,ab b] W λe w'=>e= .returned (ab (cZ a b))/\w'=W:=by
 have key:∀v:Int,v=cZ a b->ab v=ab (cZ a b):=λv h=>by rw[h]
 go_enter func103,ntmps103
 go_wp2_with (go_at_call 169;refine(KI _ _).mono ?_;rintro e w' ⟨rfl,rfl⟩)
 all_goals go_ret
 all_goals exact⟨congrArg Ending.returned (key _ (by unfold cZ;(repeat' split)<;>omega)),rfl⟩
theorem ahu(x y:Ch)(W:World):Calls prog 214 #[.agg (my x).toArray,.agg (my y).toArray] W λe w'=>e= .returned (ab (cZ x.dev y.dev))/\∃q zc,w'=grow (W.drewN q) zc:=by
 have mG:=λW'=>AJ x.dev y.dev W';generalize cZ x.dev y.dev=r at mG ⊢;unfold my
 go_enter func214,ntmps214
 go_wp2_with (go_at_call 103;refine(mG _).mono ?_;rintro e w' ⟨rfl,rfl⟩)
 go_ret
 exact zUg
theorem ahv(x y:Mb)(W:World):Calls prog 161 #[.agg (ov x).toArray,.agg (ov y).toArray] W λe w'=>e= .returned (ab (cZ x.dev y.dev))/\∃q zc,w'=grow (W.drewN q) zc:=by
 have mG:=λW'=>AJ x.dev y.dev W';generalize cZ x.dev y.dev=r at mG ⊢;unfold ov
 go_enter func161,ntmps161
 go_wp2_with (go_at_call 103;refine(mG _).mono ?_;rintro e w' ⟨rfl,rfl⟩)
 go_ret
 exact zUg
instance:Inhabited Ch:=⟨⟨0,0,0,0,0⟩⟩
instance:Inhabited Mb:=⟨⟨0,0,0⟩⟩
def gC {α:Type} [Inhabited α] (cf:α->α->Int) (xs:List α):List α:=(pdq (ltOf cf) xs.toArray 0 xs.toArray.size (Lib.bitLen xs.toArray.size) true true).toList
theorem nph{α:Type}(k:α->Int):SWO (ltOf λx y:α=>cZ (k x) (k y)):=by
 refine⟨λx=>?_,λx y z h1 h2=>?_,λx y z h1 h2=>?_⟩<;>simp only[ltOf,nbj,decide_eq_true_eq,decide_eq_false_iff_not]at* <;>omega
theorem nSn{α:Type}(q:Array α)(n:Nat)(h:q.size=n):q.extract 0 n=q:=by subst h;simp
theorem U2{α:Type}[Inhabited α]{cf:α->α->Int}(hO:SWO (ltOf cf))(xs:List α):(gC cf xs).Perm xs:=by
 have h:=(pdq_sorts (ltOf cf) hO xs.toArray 0 xs.toArray.size (Lib.bitLen xs.toArray.size) true true (cV _) (ak _) (Or.inl rfl)).1;obtain⟨h1,_,h3⟩:=h;rw[nSn _ _ h1,nSn _ _ rfl]at h3;exact h3
theorem N2{α:Type}[Inhabited α]{cf:α->α->Int}(hO:SWO (ltOf cf))(xs:List α):(gC cf xs).length=xs.length:=(U2 hO xs).length_eq
end
abbrev BZ (xs:List Ch):List Ch:=gC (λx y=>cZ x.dev y.dev) xs
abbrev rj (xs:List Mb):List Mb:=gC (λx y=>cZ x.dev y.dev) xs
theorem n7f(xs:List Ch):(BZ xs).length=xs.length:=N2 (nph (λx:Ch=>x.dev)) xs
theorem Yz(xs:List Mb):(rj xs).length=xs.length:=N2 (nph (λx:Mb=>x.dev)) xs
theorem YA{xs:List Ch}(hl:xs.length<=1000000){b cap:Nat}(bN:(Rw.row b cap sp).Fit 5 xs)(h:W.heap[b]? =some (aO my 99 xs sp)):Calls prog 213 #[.slice (aj b) xs.length cap,.func (.func 214) #[] #[]] W (λe w'=>∃bU,e= .returned ((λ_=>.tuple #[]) (Rw.row b cap bU))/\aH (· =b) W w'/\(Rw.row b cap bU).Fit 5 (BZ xs)/\w'.heap[b]? =some (aO my 99 (BZ xs) bU)):=by
 have hc:=Go.Proofs.AnyQ.slices_SortFunc_eq Go.Proofs.Tryz.laySX 5 isAgg99 sizeOf99 my BS n4j (λx y=>cZ x.dev y.dev) (nph (λx:Ch=>x.dev)) 214 #[] b 0 cap xs.toArray W (Go.Proofs.enters_of func214 zO rfl) (λ_ _ _ _ x y=>ahu x y _) (n0i BS h) (aT.1 h).1 oI;change Calls prog 213 _ _ _ at hc;refine hc.mono ?_;rintro e w' ⟨rfl,n,os,rfl⟩;have hp:=YB (n:=n) (os:=os) BS h (ys:=BZ xs) (n7f xs);exact⟨sp,rfl,hp.1,by simp only[Rw.Fit,n7f];exact bN,hp.2⟩
theorem YC{xs:List Mb}(hl:xs.length<=1000000){b cap:Nat}(bN:(Rw.row b cap sp).Fit 3 xs)(h:W.heap[b]? =some (aO ov 131 xs sp)):Calls prog 160 #[.slice (aj b) xs.length cap,.func (.func 161) #[] #[]] W (λe w'=>∃bU,e= .returned ((λ_=>.tuple #[]) (Rw.row b cap bU))/\aH (· =b) W w'/\(Rw.row b cap bU).Fit 3 (rj xs)/\w'.heap[b]? =some (aO ov 131 (rj xs) bU)):=by
 have hc:=Go.Proofs.AnyQ.slices_SortFunc_eq Go.Proofs.Tryz.laySM 3 isAgg131 sizeOf131 ov BR nuh (λx y=>cZ x.dev y.dev) (nph (λx:Mb=>x.dev)) 161 #[] b 0 cap xs.toArray W (Go.Proofs.enters_of func161 zO rfl) (λ_ _ _ _ x y=>ahv x y _) (n0i BR h) (aT.1 h).1 oI;change Calls prog 160 _ _ _ at hc;refine hc.mono ?_;rintro e w' ⟨rfl,n,os,rfl⟩;have hp:=YB (n:=n) (os:=os) BR h (ys:=rj xs) (Yz xs);exact⟨sp,rfl,hp.1,by simp only[Rw.Fit,Yz];exact bN,hp.2⟩
theorem nFh(f:Nat)(cap:List Value)(az:eg prog f)(w:World):Calls prog 211 #[ao,.func (.func f) #[] cap.toArray] w (aM w (ao)):=by
 refine eN func211 ntmps211 ?_;refine B 9 ?_;refine nv (α:=Int) (v:=λi:Int=>ab i) (Φ:=λ_ i _=>eR (λ_:Ch=>false) [] i) call225 rfl rfl rfl (λW hS=>nIe (λ_=>false) f cap az [] zJ W.heap.size none 0 W (ak _) (.inl rfl) (λj x hx=>by simp at hx)) ?_;intro Wi i wi EA EB hi;have pT:i= -1:=by rcases hi with⟨h,_⟩|⟨k,x,_,hx,_⟩;(exact h);simp at hx
 subst pT;refine B 7 ?_;refine KG ?_;refine aF results211 rfl A1 ?_;rfl
theorem nWk(w:World):Calls prog 312 #[ao,ab 0,ab 0,.func (.func 214) #[] #[]] w (aM w (.tuple #[])):=by
 refine eN func312 ntmps312 ?_;refine B 8 ?_;refine zyd ?_;rintro j _;refine B 5 ?_;refine Er ?_;exact cC (.inr rfl) results312 bj A0 trivial rfl
theorem nyo(l:Int)(w:World):Calls prog 273 #[ao,ab 0,ab 0,ab l,.func (.func 214) #[] #[]] w (aM w (.tuple #[])):=by
 refine eN func273 ntmps273 ?_;refine B 11 ?_;refine zzd ?_;rintro j _;refine PE ?_;refine B 9 ?_;refine call call312 rfl rfl rfl (λW hS=>nWk W) ?_;refine B 7 ?_;exact cC (.inl rfl) results273 bj A0 trivial rfl
theorem nVm(w:World):Calls prog 213 #[ao,.func (.func 214) #[] #[]] w (aM w (.tuple #[])):=by
 refine eN func213 ntmps213 ?_;refine zLf ?_;refine call call273 rfl rfl rfl (λW hS=>nyo _ W) ?_;refine B 1 ?_;exact cC (.inr rfl) results213 bj A0 trivial rfl
theorem nDh(f:Nat)(cap:List Value)(az:eg prog f)(w:World):Calls prog 158 #[ao,.func (.func f) #[] cap.toArray] w (aM w (ao)):=by
 refine eN func158 ntmps158 ?_;refine B 9 ?_;refine nv (α:=Int) (v:=λi:Int=>ab i) (Φ:=λ_ i _=>eR (λ_:Mb=>false) [] i) call118 rfl rfl rfl (λW hS=>nod (λ_=>false) f cap az [] zJ W.heap.size none 0 W (ak _) (.inl rfl) (λj x hx=>by simp at hx)) ?_;intro Wi i wi EA EB hi;have pT:i= -1:=by rcases hi with⟨h,_⟩|⟨k,x,_,hx,_⟩;(exact h);simp at hx
 subst pT;refine B 7 ?_;refine KG ?_;refine aF results158 rfl A1 ?_;rfl
theorem nSk(w:World):Calls prog 276 #[ao,ab 0,ab 0,.func (.func 161) #[] #[]] w (aM w (.tuple #[])):=by
 refine eN func276 ntmps276 ?_;refine B 8 ?_;refine zyd ?_;rintro j _;refine B 5 ?_;refine Er ?_;exact cC (.inr rfl) results276 bj A0 trivial rfl
theorem nPo(l:Int)(w:World):Calls prog 226 #[ao,ab 0,ab 0,ab l,.func (.func 161) #[] #[]] w (aM w (.tuple #[])):=by
 refine eN func226 ntmps226 ?_;refine B 11 ?_;refine zzd ?_;rintro j _;refine PE ?_;refine B 9 ?_;refine call call276 rfl rfl rfl (λW hS=>nSk W) ?_;refine B 7 ?_;exact cC (.inl rfl) results226 bj A0 trivial rfl
theorem n0m(w:World):Calls prog 160 #[ao,.func (.func 161) #[] #[]] w (aM w (.tuple #[])):=by
 refine eN func160 ntmps160 ?_;refine zLf ?_;refine call call226 rfl rfl rfl (λW hS=>nPo _ W) ?_;refine B 1 ?_;exact cC (.inr rfl) results160 bj A0 trivial rfl
theorem nam:BZ []=[]:=kX (n7f [])
theorem EY:rj []=[]:=kX (Yz [])
def mH (au:Int) (l:List Ch):List Ch:=BZ (l.filter λx=> !rf au x)
theorem n4b(au:Int)(l:List Ch)(hxl:l.length<=100000)(N:Nat)(a:Option Addr)(cp:Nat)(w:World)(hN:N<=w.heap.size)(aJ:ai gh 5 N w a l):Calls prog 144 #[ab au,.slice a l.length cp] w (aD w my 5 99 (mH au l) id):=by
 refine eN func144 ntmps144 ?_;refine B 2 ?_;refine yX ?_;intro b2 w2 da bW eU dx dq;refine B 6 ?_;refine Iv (enc:=my) (m:=5) (t:=99) (xs:=l) (v:=id) (first:=[]) (cap:=[]) rfl call138 rfl rfl rfl (λW hS=>ndl l hxl N a cp W cM (aJ.up (ak _) hS.sm)) ?_;intro r aK ah;have bH:=Rw.ge_of aK A1;refine B 1 ?_;refine Ec (r:=r) (enc:=my) (m:=5) (t:=99) (xs:=l) (ys:=l.filter λx=> !rf au x) (H0:=[]) (H1:=[]) (v:=λr=>r.val (l.filter λx=> !rf au x).length) rfl call211 rfl rfl rfl (λhr W hS=>?_) (λb cap sp hr W hS h=>?_) ?_
 ·subst hr;have h0:l=[]:=ah;subst h0;exact(nFh 212 [ptr b2 0] call212 W).mono λe w2 h=>⟨h.1,rfl,h.2⟩
 ·subst hr;have hbA:w2.heap.size<=b:=(aK.elim (λh=>h.elim) id:ae _ b).not (w:=w2) A0;exact nRk (rf au) 212 [ptr b2 0] call212 l aa b cap sp W h ah (λj x hx W2 hK ahw=>njp au b2 x W2 (by have h2:=(hS.links w2 A0).size;rw[hK.block b2 aa aa];exact hS.old A0 da bW zA))
 intro r2 eu lb qR jE;have iy:=lb aK;have ee:=qR _ bH;refine B 6 ?_;refine Ec (r:=r2) (enc:=my) (m:=5) (t:=99) (xs:=l.filter λx=> !rf au x) (ys:=mH au l) (H0:=[]) (H1:=[]) (v:=λ_=>.tuple #[]) rfl call213 rfl rfl rfl (λhr W hS=>?_) (λb cap sp hr W hS h=>?_) ?_
 ·subst hr;have h0:(l.filter λx=> !rf au x)=[]:=eu;unfold mH;rw[h0];exact(nVm W).mono λe w2 h=>⟨h.1,nam,h.2⟩
 ·subst hr;exact YA (dG (Q8 _ _) aa) eu h
 intro r3 mm uu Ed Ee;have J2:=uu iy;have pB:=Ed _ ee;refine B 9 ?_;have Aw:(l.filter λx=> !rf au x).length=(mH au l).length:=by unfold mH;rw[n7f]
 exact nP (H0:=[]) (H1:=[]) (r:=r3) (.inl rfl) results144 bj A1 (by rw[dV];exact Rw.over pB) (by show r2.val _=r3.val _;rw[Ee,Aw]) mm pB zJ
def vA:Gp:=⟨0,0,λ_=>0,[],[]⟩
def gy:Gv:=⟨vA,none,0,none,0⟩
theorem YD(N:Nat)(w:World):bT N w gy:=⟨.inl rfl,.inl rfl,by simp[gy,vA],by simp[gy,vA]⟩
def CQ (w:World) (g:Gp) (e:Int):Ending->World->Prop:=cN w (λX:Gv=>.tuple #[.agg (bD X),ab e]) (λX w'=>X.g=g/\bT w'.heap.size w' X/\(∀q,X.ma=some q->w.heap.size<=q.block)/\(∀q,X.na=some q->w.heap.size<=q.block))
def kH (g:Gp) (c:Cm):Bool:=decide (c.folder=g.folder)&&decide (c.epoch=g.epoch+1)&&lY c.par g.last
noncomputable def mI (ns:List Nd) (d:Int):Int:=if jF ns=0 then(if(bV (dL ns) (512+d)).isSome=true then 0 else 200)else 210
noncomputable def bZ (ns:List Nd) (d:Int) (l:List Int):List Nd:=if jF ns=0/\(bV (dL ns) (512+d)).isSome=true then pX (qT (dL ns) d l)else[]
theorem ntg(ns:List Nd)(hn:ns.length<=100000)(N:Nat)(a:Option Addr)(cp:Nat)(w:World)(hN:N<=w.heap.size)(aJ:ai fN 2 N w a ns)(d:Int)(hd:dW d)(l:List Int)(mw:∀y∈l,dY y)(hl:l.length<=1000)(NP:Nat)(ap:Option Addr)(gI:Nat)(mx:ai encI 1 NP w ap l)(CK:NP<=w.heap.size)(Qr:l.length=10)(hn1:ns.length<90000):Calls prog 154 #[.agg #[.slice a ns.length cp],ab d,.slice ap l.length gI] w (aD w gH 2 240 (bZ ns d l) (λs=>.tuple #[.agg #[s],ab (mI ns d)])):=by
 rcases njh ns with h|h
 ·by_cases h2:(bV (dL ns) (512+d)).isSome=true
  ·have e1:bZ ns d l=pX (qT (dL ns) d l):=by unfold bZ;rw[if_pos ⟨h,h2⟩]
   have e2:mI ns d=0:=by unfold mI;rw[if_pos h,if_pos h2]
   rw[e1,e2];exact Ey ns hn N a cp w hN aJ h d hd h2 l mw hl NP ap gI mx CK Qr hn1
  have e1:bZ ns d l=[]:=by unfold bZ;rw[if_neg λg=>h2 g.2]
  have e2:mI ns d=200:=by unfold mI;rw[if_pos h,if_neg h2]
  rw[e1,e2];exact Ex ns hn N a cp w hN aJ h d hd Kq l mw hl NP ap gI mx CK
 have e1:bZ ns d l=[]:=by unfold bZ;rw[if_neg λg=>by have:=g.1;omega]
 have e2:mI ns d=210:=by unfold mI;rw[if_neg aa]
 rw[e1,e2];exact ntp ns hn N a cp w hN aJ h d l mw hl NP ap gI mx CK
theorem EZ(hZ:FxOk Z)(G:Gv)(c:Cm)(dz:bP c)(N:Nat)(w:World)(hN:N<=w.heap.size)(hG:bT N w G)(hC:dm N w c)(hg:Glb w)(hv:dR G.g=false):Calls prog 83 #[.agg (bD G),.agg (cG c)] w (CQ w vA 1):=by
 refine KJ ?_;refine yV ?_;intro b2 w2 da bW eU dx dq;refine yX ?_;intro b3 w3 hb3 cK fF ez eP;refine B 1 ?_;refine yW ?_;intro b4 ja jb;refine B 6 ?_;refine ax (.agg (bD G)) ?_;refine zle ?_;refine B 12 ?_;exact YE
theorem E1(hZ:FxOk Z)(G:Gv)(c:Cm)(dz:bP c)(N:Nat)(w:World)(hN:N<=w.heap.size)(hG:bT N w G)(hC:dm N w c)(hg:Glb w)(hv:dR G.g=true)(jH:sL c=220):Calls prog 83 #[.agg (bD G),.agg (cG c)] w (CQ w vA 220):=by
 refine KJ ?_;refine yV ?_;intro b2 w2 da bW eU dx dq;refine yX ?_;intro b3 w3 hb3 cK fF ez eP;refine B 1 ?_;refine yW ?_;intro b4 ja jb;refine Yc ?_;refine B 8 ?_;refine ax (.agg (cG c)) ?_;refine call call149 rfl rfl rfl (λW hS=>by rw[<-jH];exact ntb c dz.few N W cM (hC.up (ak _) hS.sm)) (v:=ab 220) ?_;refine B 6 ?_;refine ax cX ?_;refine B 13 ?_;exact YE
theorem Q9{c:Cm}(hf:kH g c=false)(h1:c.folder=g.folder)(h2:c.epoch=g.epoch+1):lY c.par g.last=false:=by grind [lY,kH]
theorem U3{c:Cm}(hf:kH g c=true):c.folder=g.folder/\c.epoch=g.epoch+1/\lY c.par g.last=true:=by grind [kH]
theorem E2(hZ:FxOk Z)(G:Gv)(c:Cm)(dz:bP c)(N:Nat)(w:World)(hN:N<=w.heap.size)(hG:bT N w G)(hC:dm N w c)(hg:Glb w)(hv:dR G.g=true)(jH:sL c=0)(hf:kH G.g c=false):Calls prog 83 #[.agg (bD G),.agg (cG c)] w (CQ w vA 220):=by
 have rU:=AB.1 hv;have U4:=rU.1.2.2.1;have uN:=rU.1.2.1;have fh:=QQ.1 jH;have B0:=fh.e1;have B1:=fh.e2;refine KJ ?_;refine yV ?_;intro b2 w2 da bW eU dx dq;refine yX ?_;intro b3 w3 hb3 cK fF ez eP;refine B 1 ?_;refine yW ?_;intro b4 ja jb;refine Yc ?_;refine B 8 ?_;refine z3e ?_;refine B 6 ?_;refine Er ?_;by_cases h1:¬c.folder=G.g.folder
 ·refine B 5 ?_;refine ax cX ?_;refine B 27 ?_;exact YE
 by_cases h2:¬c.epoch=G.g.epoch+1
 ·refine B 5 ?_;refine Iq ?_;refine ax cX ?_;refine B 20 ?_;exact YE
 have h3:=Q9 hf aa aa;refine B 5 ?_;refine Iq ?_;refine Iq ?_;refine rq cX (er xu zB nL rfl rfl rfl) (congrArg (λq=>Value.bool (!q)) h3) ?_;refine B 13 ?_;exact YE
theorem E3(hZ:FxOk Z)(G:Gv)(c:Cm)(dz:bP c)(N:Nat)(w:World)(hN:N<=w.heap.size)(hG:bT N w G)(hC:dm N w c)(hg:Glb w)(hv:dR G.g=true)(jH:sL c=0)(hf:kH G.g c=true)(hne:eT G.g c.author c.chs=221):Calls prog 83 #[.agg (bD G),.agg (cG c)] w (CQ w vA 221):=by
 have rU:=AB.1 hv;have U4:=rU.1.2.2.1;have uN:=rU.1.2.1;have fh:=QQ.1 jH;have B0:=fh.e1;have B1:=fh.e2;obtain⟨h1,h2,h3⟩:=U3 hf;have sD:=fh.au;have Ax:=dz.few.chs;refine KJ ?_;refine yV ?_;intro b2 w2 da bW eU dx dq;refine yX ?_;intro b3 w3 hb3 cK fF ez eP;refine B 1 ?_;refine yW ?_;intro b4 ja jb;refine Yc ?_;refine B 8 ?_;refine z3e ?_;refine B 6 ?_;refine ax bG ?_;refine B 12 ?_;refine Iq ?_;refine Iq ?_;refine rq bG (er xu zB nL rfl rfl rfl) (congrArg (λq=>Value.bool (!q)) h3) ?_;refine B 8 ?_;refine ax (.agg (bD G)) ?_;refine B 4 ?_;refine nG (enc:=sJ) (m:=4) (t:=110) (xs:=(fZ G.g c.author c.chs)) (v:=λs=>.tuple #[s,ab 221]) (first:=[]) (cap:=[]) rfl call134 rfl rfl rfl UO (λW hS=>by rw[<-hne];exact nzb G N W cM (hG.up (ak _) hS.sm) c.chs aa c.ca c.cc (hC.chs.up (ak _) hS.sm) c.author sD) ?_;intro Wn an cn wn sK AE rk rl;have wu:=sK.sizes;replace wu:=yb wu;have UP:=AE.size;have tE:=sK.under;replace tE:=yg tE;refine B 11 ?_;refine ax cX ?_;refine B 13 ?_;exact zDh
theorem nJm{au:Int}{l:List Ch}(hv:dR g=true)(h:eT g au l=0):jC l=true/\mz g au l=true/\fZ g au l=kC (aX g.ns l) au:=by grind [eT,AD,fZ]
noncomputable def uO (g:Gp) (c:Cm):Bool:=kG IG c.bxs (fZ g c.author c.chs)
def wv (c:Cm):Bool:=kG UY c.wes (mH c.author c.chs)
noncomputable def zd (Z:Fx) (g:Gp) (c:Cm):Bool:=oO Z (kF g c.author c.chs) (cy (mF Z c)) c.sr c.ss
theorem KK(hZ:FxOk Z)(G:Gv)(c:Cm)(dz:bP c)(N:Nat)(w:World)(hN:N<=w.heap.size)(hG:bT N w G)(hC:dm N w c)(hg:Glb w)(hv:dR G.g=true)(jH:sL c=0)(hf:kH G.g c=true)(hne:eT G.g c.author c.chs=0)(hb:uO G.g c=false):Calls prog 83 #[.agg (bD G),.agg (cG c)] w (CQ w vA 220):=by
 have rU:=AB.1 hv;have U4:=rU.1.2.2.1;have uN:=rU.1.2.1;have fh:=QQ.1 jH;have B0:=fh.e1;have B1:=fh.e2;obtain⟨h1,h2,h3⟩:=U3 hf;have sD:=fh.au;have Ax:=dz.few.chs;have DH:=dz.few.bxs;have UQ:=dz.few.wes;refine KJ ?_;refine yV ?_;intro b2 w2 da bW eU dx dq;refine yX ?_;intro b3 w3 hb3 cK fF ez eP;refine B 1 ?_;refine yW ?_;intro b4 ja jb;refine YF ?_;intro Wn an cn wn sK AE rk rl;have wu:=sK.sizes;replace wu:=yb wu;have UP:=AE.size;have tE:=sK.under;replace tE:=yg tE;refine YG ?_;refine eA 15 (pb:=by exact zU 4 (k:=by exact aU (nf call152 rfl rfl (λW hS _=>by have h9:=Yu c.bxs aa W.heap.size c.ba c.bc W (ak _) (hC.bxs.up cM hS.sm) (fZ G.g c.author c.chs) an cn (rk.to hS A0 (ak _) (λb off e=>.inr YH));rw[show kG IG c.bxs (fZ G.g c.author c.chs)=false from hb]at h9;exact h9) (λ_=>rfl)) zT)) (sp:=(_::_::_::_::(some (bG))::(some cX)::_)) (k:=?_);refine B 15 ?_;exact zDh
theorem KL(hZ:FxOk Z)(G:Gv)(c:Cm)(dz:bP c)(N:Nat)(w:World)(hN:N<=w.heap.size)(hG:bT N w G)(hC:dm N w c)(hg:Glb w)(hv:dR G.g=true)(jH:sL c=0)(hf:kH G.g c=true)(hne:eT G.g c.author c.chs=0)(hb:uO G.g c=true)(hw:wv c=false):Calls prog 83 #[.agg (bD G),.agg (cG c)] w (CQ w vA 220):=by
 have rU:=AB.1 hv;have U4:=rU.1.2.2.1;have uN:=rU.1.2.1;have fh:=QQ.1 jH;have B0:=fh.e1;have B1:=fh.e2;obtain⟨h1,h2,h3⟩:=U3 hf;have sD:=fh.au;have Ax:=dz.few.chs;have DH:=dz.few.bxs;have UQ:=dz.few.wes;refine KJ ?_;refine yV ?_;intro b2 w2 da bW eU dx dq;refine yX ?_;intro b3 w3 hb3 cK fF ez eP;refine B 1 ?_;refine yW ?_;intro b4 ja jb;refine YF ?_;intro Wn an cn wn sK AE rk rl;have wu:=sK.sizes;replace wu:=yb wu;have UP:=AE.size;have tE:=sK.under;replace tE:=yg tE;refine YG ?_;refine eS 15 13 [] (pb:=by exact zU 4 (k:=by exact aU (nf call152 rfl rfl (λW hS _=>by have h9:=Yu c.bxs aa W.heap.size c.ba c.bc W (ak _) (hC.bxs.up cM hS.sm) (fZ G.g c.author c.chs) an cn (rk.to hS A0 (ak _) (λb off e=>.inr YH));rw[show kG IG c.bxs (fZ G.g c.author c.chs)=true from hb]at h9;exact h9) (λ_=>rfl)) zT)) (sp:=(_::_::_::_::(some (cX))::(some bG)::_)) (h:=?_);intro _ _ hk;refine z2c ?_;intro W_ aw cw ww qe vB wy rm;have ze:=(qe.links wn A0).size;have wz:∀q,aw=some q->wn.heap.size<=q.block:=λq e=>dG ze (rm q e);refine zE ?_;refine call call153 rfl rfl rfl (λW hS=>by have h9:=nmd c.wes aa W.heap.size c.wa c.wc W (ak _) (hC.wes.up cM hS.sm) (mH c.author c.chs) aw cw (wy.to hS A0 (ak _) (λb off e=>.inr zGb));rw[show kG UY c.wes (mH c.author c.chs)=false from hw]at h9;exact h9) (v:=.bool false) ?_
 refine ax cX ?_;refine B 13 ?_;exact bM (.inl rfl) results83 bj λW hS=>⟨gy,rfl,hS.base A4 zC,rfl,YD _ _,λq h=>zS,λq h=>zS⟩
theorem n0j{au:Int}{l:List Ch}(h:mz g au l=true)(h0:0<=g.epoch)(hm:gS g.ms au=false):0<l.length:=by grind [mz]
theorem E4(hZ:FxOk Z)(G:Gv)(c:Cm)(dz:bP c)(N:Nat)(w:World)(hN:N<=w.heap.size)(hG:bT N w G)(hC:dm N w c)(hg:Glb w)(hv:dR G.g=true)(jH:sL c=0)(hf:kH G.g c=true)(hne:eT G.g c.author c.chs=0)(hb:uO G.g c=true)(hw:wv c=true)(IH:zd Z G.g c=false):Calls prog 83 #[.agg (bD G),.agg (cG c)] w (CQ w vA 222):=by
 have rU:=AB.1 hv;have U4:=rU.1.2.2.1;have uN:=rU.1.2.1;have fh:=QQ.1 jH;have B0:=fh.e1;have B1:=fh.e2;obtain⟨h1,h2,h3⟩:=U3 hf;have sD:=fh.au;have Ax:=dz.few.chs;have DH:=dz.few.bxs;have UQ:=dz.few.wes;have hg4:=hg.lt;obtain⟨xC,iJ,wh⟩:=nJm hv hne;refine KJ ?_;refine yV ?_;intro b2 w2 da bW eU dx dq;refine yX ?_;intro b3 w3 hb3 cK fF ez eP;refine B 1 ?_;refine yW ?_;intro b4 ja jb;refine YF ?_;intro Wn an cn wn sK AE rk rl;have wu:=sK.sizes;replace wu:=yb wu;have UP:=AE.size;have tE:=sK.under;replace tE:=yg tE;refine YG ?_;refine eS 15 13 [] (pb:=by exact zU 4 (k:=by exact aU (nf call152 rfl rfl (λW hS _=>by have h9:=Yu c.bxs aa W.heap.size c.ba c.bc W (ak _) (hC.bxs.up cM hS.sm) (fZ G.g c.author c.chs) an cn (rk.to hS A0 (ak _) (λb off e=>.inr YH));rw[show kG IG c.bxs (fZ G.g c.author c.chs)=true from hb]at h9;exact h9) (λ_=>rfl)) zT)) (sp:=(_::_::_::_::(some (cX))::(some bG)::_)) (h:=?_);intro _ _ hk;refine z2c ?_;intro W_ aw cw ww qe vB wy rm;have ze:=(qe.links wn A0).size;have wz:∀q,aw=some q->wn.heap.size<=q.block:=λq e=>dG ze (rm q e);refine z1c ?_;refine ax bG ?_;refine B 8 ?_;refine eS 10 7 [] (pb:=by exact zU 5 (k:=by exact aU (nf call135 rfl rfl (λW hS _=>nIc G N W cM (hG.up (ak _) hS.sm) c.chs aa c.ca c.cc (hC.chs.up (ak _) hS.sm) c.author (λhm=>n0j iJ uN hm)) (λ_=>rfl)) zT)) (sp:=[some (.agg (bD G)),_,_,_,some (.slice c.ca c.chs.length c.cc),some (ab (kF G.g c.author c.chs)),some (.agg (cG c)),_,_,some (.agg #[ab c.sr,ab c.ss])]) (h:=?_)
 intro _ _ hk;refine z8c ?_;rintro W_ bm wm qe vB ⟨ze,ot⟩;try dsimp only at ze ot
 have B2:=(qe.links wn A1).size;have tG:wn.heap.size<=bm:=by omega
 refine zE ?_;refine call call75 rfl rfl rfl (λW hS=>by have h9:=nSc hZ (kF G.g c.author c.chs) c.sr c.ss (cy (mF Z c)) bm 0 32 (by rw[nR];decide) W (cj.dg (hS.old A0 ot zL zA) (hZ.byt _ _)) (hg.old hS A5 zI zF);rw[nR,show oO Z (kF G.g c.author c.chs) (cy (mF Z c)) c.sr c.ss=false from IH]at h9;exact h9) (v:=.bool false) ?_;refine XI ?_;exact bM (.inl rfl) results83 bj λW hS=>⟨gy,rfl,hS.base A5 zC,rfl,YD _ _,λq h=>zS,λq h=>zS⟩
structure Cd where
 at_:Int
 c:Cm
 id:Nat->Int
 since:Int
 x:Gv
def iK (d:Cd):Array Value:=(ab d.at_::ab d.c.folder::ab d.c.epoch::lL d.c.par (ab d.c.author:: .slice d.c.ca d.c.chs.length d.c.cc:: .slice d.c.pa d.c.path.length d.c.pc:: .slice d.c.ba d.c.bxs.length d.c.bc:: .slice d.c.wa d.c.wes.length d.c.wc::lL d.c.conf (ab d.c.sr::ab d.c.ss::lL d.id (ab d.since::ab d.x.g.folder::ab d.x.g.epoch::lL d.x.g.last [.slice d.x.ma d.x.g.ms.length d.x.mc,.slice d.x.na d.x.g.ns.length d.x.nc])))).toArray
def rmN (l:List Ch):Nat:=(l.filter λx=>decide (x.kind=2)).length
def ahB (dv:Int) (y:Ch):Bool:=decide (y.kind=2/\y.dev=dv)
theorem nTn{α:Type}{p:α->Bool}:∀{xs:List α} {j:Nat} {x:α},gL p xs j->xs[j]? =some x->p x=true->xs.find? p=some x
 | [],j,x,_,hx,_=>by simp at hx
 |y::xs,0,x,_,hx,hp=>by
  simp only[Jt,vP]at hx;subst hx;simp[hp]
 |y::xs,j+1,x,h,hx,hp=>by
  have h0:p y=false:=h 0 y aa rfl;simp only[Im]at hx;rw[List.find?_cons,h0];exact nTn (λi z hi hz=>h (i+1) z aa (by simpa using hz)) hx hp
theorem nep{α:Type}{p:α->Bool}{xs:List α}(h:gL p xs j)(hj:¬j<xs.length):xs.find? p=none:=by
 have:=nqd h hj;all_goals grind
def B3 (ms:List Mb) (dv:Int):Int:=((ms.find? λm=>decide (m.dev=dv)).map (·.since)).getD 0
theorem E5{ms:List Mb}{dv:Int}{x:Mb}(h:gL (λm:Mb=>decide (m.dev=dv)) ms j)(hx:ms[j]? =some x)(hp:x.dev=dv):ab x.since=ab (B3 ms dv):=by unfold B3;rw[nTn h hx (by simpa using hp)];rfl
theorem N3{ms:List Mb}{dv:Int}(h:gL (λm:Mb=>decide (m.dev=dv)) ms j)(hj:¬j<ms.length):ab 0=ab (B3 ms dv):=by unfold B3;rw[nep h hj];rfl
theorem KM(G:Gv)(N:Nat)(w:World)(hN:N<=w.heap.size)(hG:bT N w G)(dv:Int):Calls prog 108 #[.agg (bD G),ab dv] w (aM w (ab (B3 G.g.ms dv))):=by
 have hmn:=hG.mn;have Eo:=hG.ms;refine eN func108 ntmps108 ?_;refine B 2 ?_;refine yX ?_;intro b2 w2 da bW eU dx dq;refine B 13 ?_;refine CJ.lp (α:=Nat) [1,2,9] (λj=>[(8,.slice G.ma G.g.ms.length G.mc),(10,ab (j:Int))]) (λj=>[]) (λj=>j<=G.g.ms.length/\gL (λm:Mb=>decide (m.dev=dv)) G.g.ms j) (λj=>G.g.ms.length-j) 0 ⟨cV _,λi x hi=>absurd hi aa⟩ ?_;rintro j ⟨hj,ea⟩;refine B 6 ?_;refine aG ?_ ?_
 ·intro ar;refine B 5 ?_;obtain⟨bo,oo,cs0,to,fG,gU,fH,cJ,aW⟩:=Eo.get aa;obtain⟨x,hx⟩:=ng G.g.ms j aa;rw[gU];refine B 2 ?_;refine ax (.agg (pZ x)) ?_;refine B 1 ?_;refine yW ?_;intro b6 jD qu;refine B 11 ?_;refine aG ?_ ?_
  ·intro aN;refine B 13 ?_;refine cC (.inl rfl) results108 bj A1 zC ?_;first|exact E5 ea hx eC|exact N3 ea aa
  intro aN;refine xx ?_;refine ag (j+1) ⟨by omega,ea.next hx (by simpa using ‹¬x.dev=dv›)⟩
 intro ar;refine B 11 ?_;refine aF results108 rfl A1 ?_;first|exact E5 ea hx eC|exact N3 ea aa
theorem E6(hZ:FxOk Z)(G:Gv)(c:Cm)(dz:bP c)(N:Nat)(w:World)(hN:N<=w.heap.size)(hG:bT N w G)(hC:dm N w c)(hg:Glb w)(hv:dR G.g=true)(jH:sL c=0)(hf:kH G.g c=true)(hne:eT G.g c.author c.chs=0)(hb:uO G.g c=true)(hw:wv c=true)(IH:zd Z G.g c=true)(e:Int)(hre:mI (aX G.g.ns c.chs) c.author=e)(he:¬e=0):Calls prog 83 #[.agg (bD G),.agg (cG c)] w (CQ w vA e):=by
 have rU:=AB.1 hv;have U4:=rU.1.2.2.1;have uN:=rU.1.2.1;have fh:=QQ.1 jH;have B0:=fh.e1;have B1:=fh.e2;obtain⟨h1,h2,h3⟩:=U3 hf;have sD:=fh.au;have Ax:=dz.few.chs;have DH:=dz.few.bxs;have UQ:=dz.few.wes;have hg4:=hg.lt;obtain⟨xC,iJ,wh⟩:=nJm hv hne;obtain⟨qw,Aw⟩:=n4i xC;have Ur:=hG.nn;have NU:=QL c.chs G.g.ns;obtain⟨T,hT⟩:∃T,aX G.g.ns c.chs=T:=⟨_,rfl⟩;rw[hT]at hre NU;have im:=fh.pl;have mw:∀y∈c.path,dY y:=λy hy=>by obtain⟨i,hi⟩:=kA.1 hy;exact fh.path i y hi
 refine KJ ?_;refine yV ?_;intro b2 w2 da bW eU dx dq;refine yX ?_;intro b3 w3 hb3 cK fF ez eP;refine B 1 ?_;refine yW ?_;intro b4 ja jb;refine YF ?_;intro Wn an cn wn sK AE rk rl;have wu:=sK.sizes;replace wu:=yb wu;have UP:=AE.size;have tE:=sK.under;replace tE:=yg tE;refine YG ?_;refine eS 15 13 [] (pb:=by exact zU 4 (k:=by exact aU (nf call152 rfl rfl (λW hS _=>by have h9:=Yu c.bxs aa W.heap.size c.ba c.bc W (ak _) (hC.bxs.up cM hS.sm) (fZ G.g c.author c.chs) an cn (rk.to hS A0 (ak _) (λb off e=>.inr YH));rw[show kG IG c.bxs (fZ G.g c.author c.chs)=true from hb]at h9;exact h9) (λ_=>rfl)) zT)) (sp:=(_::_::_::_::(some (cX))::(some bG)::_)) (h:=?_);intro _ _ hk;refine z2c ?_;intro W_ aw cw ww qe vB wy rm;have ze:=(qe.links wn A0).size;have wz:∀q,aw=some q->wn.heap.size<=q.block:=λq e=>dG ze (rm q e);refine z1c ?_;refine ax bG ?_;refine B 8 ?_;refine eS 10 7 [] (pb:=by exact zU 5 (k:=by exact aU (nf call135 rfl rfl (λW hS _=>nIc G N W cM (hG.up (ak _) hS.sm) c.chs aa c.ca c.cc (hC.chs.up (ak _) hS.sm) c.author (λhm=>n0j iJ uN hm)) (λ_=>rfl)) zT)) (sp:=[some (.agg (bD G)),_,_,_,some (.slice c.ca c.chs.length c.cc),some (ab (kF G.g c.author c.chs)),some (.agg (cG c)),_,_,some (.agg #[ab c.sr,ab c.ss])]) (h:=?_)
 intro _ _ hk;refine z8c ?_;rintro W_ bm wm qe vB ⟨ze,ot⟩;try dsimp only at ze ot
 have B2:=(qe.links wn A1).size;have tG:wn.heap.size<=bm:=by omega
 refine zE ?_;refine ztd ?_;refine Iq ?_;refine eA 6 (pb:=by exact zU 5 (k:=by exact aU (nf call23 rfl rfl (λW hS _=>Ys hZ c dz N W cM (hC.up (ak _) hS.sm) (hg.old hS A5 zI zF)) (λ_=>rfl)) (vO rfl))) (sp:=[_,_,_,_,some (.agg (cG c)),some (.agg (dg (aB Z c)))]) (k:=?_);refine zyf ?_;have BK:=(aT.1 ot).1;refine zXc ?_;refine CJ.chn 14 [3,8,9,10,13] [some (.agg (bD G)),_,some (.slice c.ca c.chs.length c.cc),none,_,_,_,some (.slice c.pa c.path.length c.pc),none,none,none,some (ab e),_,none] (λcv L' H'=>let tH:ad:=[(b4,oC (bD (⟨⟨G.g.folder,c.epoch,aB Z c,[],[]⟩,none,0,none,0⟩:Gv)) 53)];let dU:ad:=tH;let iC:List World:=[wm,ww,wn,w3,w2,w];match cv with| []=>L'=iC/\H'=dU| [v1]=>∃(ta:Option Addr) (tc:Nat) (wr:World),v1= .agg #[.slice ta T.length tc]/\L'=wr::iC/\H'=dU/\ai fN 2 wr.heap.size wr ta T/\(∀b off,ta=some ⟨b,off,none⟩->T=[]\/b<N\/wm.heap.size<=b)/\wm.heap.size<=wr.heap.size| [v1,v2]=>∃(ta:Option Addr) (tc:Nat) (wr:World) (r8:Rw),v1= .agg #[.slice ta T.length tc]/\v2= .tuple #[.agg #[r8.val (bZ T c.author c.path).length],ab e]/\L'=wr::iC/\H'=tH++(r8.hp gH 240 (bZ T c.author c.path)++[])/\ai fN 2 wr.heap.size wr ta T/\(∀b off,ta=some ⟨b,off,none⟩->T=[]\/b<N\/wm.heap.size<=b)/\wm.heap.size<=wr.heap.size/\Rw.Fr Gh.no [wr,wm,ww,wn,w3,w2,w] r8/\r8.Fit 2 (bZ T c.author c.path)/\r8.ge wr.heap.size| [v1,v2,v3]=>∃(ta:Option Addr) (tc:Nat) (wr:World) (r8:Rw),v1= .agg #[.slice ta T.length tc]/\v2= .tuple #[.agg #[r8.val (bZ T c.author c.path).length],ab e]/\v3= .tuple #[.agg #[r8.val (bZ T c.author c.path).length],ab e]/\L'=wr::iC/\H'=tH++(r8.hp gH 240 (bZ T c.author c.path)++[])/\ai fN 2 wr.heap.size wr ta T/\(∀b off,ta=some ⟨b,off,none⟩->T=[]\/b<N\/wm.heap.size<=b)/\wm.heap.size<=wr.heap.size/\Rw.Fr Gh.no [wr,wm,ww,wn,w3,w2,w] r8/\r8.Fit 2 (bZ T c.author c.path)/\r8.ge wr.heap.size| [v1,v2,v3,v4]=>∃(ta:Option Addr) (tc:Nat) (wr:World) (r8:Rw),v1= .agg #[.slice ta T.length tc]/\v2= .tuple #[.agg #[r8.val (bZ T c.author c.path).length],ab e]/\v3= .tuple #[.agg #[r8.val (bZ T c.author c.path).length],ab e]/\v4= .agg #[r8.val (bZ T c.author c.path).length]/\L'=wr::iC/\H'=tH++(r8.hp gH 240 (bZ T c.author c.path)++[])/\ai fN 2 wr.heap.size wr ta T/\(∀b off,ta=some ⟨b,off,none⟩->T=[]\/b<N\/wm.heap.size<=b)/\wm.heap.size<=wr.heap.size/\Rw.Fr Gh.no [wr,wm,ww,wn,w3,w2,w] r8/\r8.Fit 2 (bZ T c.author c.path)/\r8.ge wr.heap.size| [v1,v2,v3,v4,v5]=>∃(ta:Option Addr) (tc:Nat) (wr:World) (r8:Rw),v1= .agg #[.slice ta T.length tc]/\v2= .tuple #[.agg #[r8.val (bZ T c.author c.path).length],ab e]/\v3= .tuple #[.agg #[r8.val (bZ T c.author c.path).length],ab e]/\v4= .agg #[r8.val (bZ T c.author c.path).length]/\v5= .tuple #[]/\L'=wr::iC/\H'=[(b4,oC (setCells (bD (⟨⟨G.g.folder,c.epoch,aB Z c,[],[]⟩,none,0,none,0⟩:Gv)) 35 [r8.val (bZ T c.author c.path).length]) 53)]++(r8.hp gH 240 (bZ T c.author c.path)++[])/\ai fN 2 wr.heap.size wr ta T/\(∀b off,ta=some ⟨b,off,none⟩->T=[]\/b<N\/wm.heap.size<=b)/\wm.heap.size<=wr.heap.size/\Rw.Fr Gh.no [wr,wm,ww,wn,w3,w2,w] r8/\r8.Fit 2 (bZ T c.author c.path)/\r8.ge wr.heap.size|_=>False) (pc N4 (pc (by exact λcv L' H' hd hP=>X.v (bQ underlying61 rfl sizeOf54 rfl)) (pc N4 (pk (pc Yn (pc N4 (pc z8b (pc N4 (pk (pk (pk (pc (λcv L' H' hd hP=>match cv,hd,hP with| [],hd,hP=>(absurd (show false=true from hd) zB)| [v1],hd,hP=>(absurd (show false=true from hd) zB)| [v1,v2],hd,hP=>(absurd (show false=true from hd) zB)| [v1,v2,v3],hd,hP=>zjc| [v1,v2,v3,v4],hd,hP=>zgc| [v1,v2,v3,v4,v5],hd,hP=>zec|_::_::_::_::_::_::_,_,hP=>hP.elim) (pc XU (pk (pn))))))))))))))) ?_ ?_
 ·exact zWf
 intro cv L' H' hl hP;obtain⟨v1,v2,v3,v4,v5,rfl⟩:=sO hl;obtain⟨ta,tc,wr,r8,rfl,rfl,rfl,rfl,rfl,rfl,rfl,rY,gO,qV,mJ,gW,jk⟩:=hP;refine B 6 ?_;refine UH ?_;refine ax (.agg (bD gy)) ?_;refine B 7 ?_;exact bM (.inl rfl) results83 bj λW hS=>⟨gy,rfl,(hS.links w A6).below (λk hk hx=>by rcases hx with hx|hx;(exact hx);simp only[cW,gi,ef,dV,gb,dt,eL,bA,bX,dy,or_false]at hx;rcases hx with hx|hx;(omega);have:=Rw.mem_ge jk hx;omega),rfl,YD _ _,λq h=>zS,λq h=>zS⟩
theorem N5{ns:List Nd}(h:Em ns):∀(i:Nat) (x:Nd),ns[i]? =some x->(i:Int)+1<=x.at_
 |0,x,hx=>by have:=(h 0 x hx).1;omega
 |i+1,x,hx=>by
  obtain⟨y,hy⟩:=ng ns i UD;have h1:=N5 h i y hy;have h2:=(h (i+1) x hx).2.2.1 y aa (by simpa using hy);omega
theorem Ra{ns:List Nd}(h:Em ns):ns.length<=1023:=by
 by_cases h0:ns.length=0
 ·omega
 obtain⟨x,hx⟩:=ng ns (ns.length-1) aa;have h1:=N5 h _ x hx;have h2:=(h _ x hx).2.1;omega
theorem nkn(h:dR g=true):g.ns.length<=1023/\g.ms.length<=1023:=by
 have h1:=AB.1 h;have h2:=Ra (Ka.1 h1.1.2.2.2);refine⟨h2,?_⟩;have h3:=congrArg List.length h1.2.2.1;rw[eG]at h3;have:=n6l g.ns;omega
def Rb (f e:Int) (id:Nat->Int) (a b:Value):Array Value:=(ab f::ab e::lL id [a,b]).toArray
theorem KN(f e:Int)(id:Nat->Int)(r r':Rw)(n m:Nat):aV (Value.agg (Rb f e id (r.val n) (r'.val m))).cells.toList=true:=by cases r<;>cases r'<;>rfl
def mK (e:Int) (l:List Ch):List Mb:=(l.filter λx=> !decide (x.kind=2)).map λy=>⟨y.dev,e,y.ver⟩
theorem nIn{e:Int}{l:List Ch}{x:Ch}(hx:l[j]? =some x)(h:¬x.kind=2)(F:List Mb):F++mK e (l.take (j+1))=(F++mK e (l.take j))++[⟨x.dev,e,x.ver⟩]:=by rw[np hx];simp[mK,h]
theorem E7{e:Int}{l:List Ch}{x:Ch}(hx:l[j]? =some x)(h:x.kind=2)(F:List Mb):F++mK e (l.take (j+1))=F++mK e (l.take j):=by rw[np hx];simp[mK,h]
theorem nCj(e:Int)(l:List Ch):(mK e l).length<=l.length:=by unfold mK;rw[eG];exact Q8 _ _
theorem YI(e:Int)(l:List Ch)(F:List Mb):F++mK e (l.take 0)=F:=by simp[mK]
noncomputable def kT (Z:Fx) (g:Gp) (c:Cm):Gp:=⟨g.folder,c.epoch,aB Z c,rj (g.ms.filter (λx=> !gj c.chs x)++mK c.epoch c.chs),bZ (aX g.ns c.chs) c.author c.path⟩
theorem E8{ns:List Nd}{d:Int}(hd:dW d)(l:List Int):(bZ ns d l).length<=ns.length+10:=by grind [bZ,n2g,n9l,dL,UB]
theorem Rw.val_new{r:Rw}{n k cp:Nat}{a:Option Addr}(h:r.ge k)(e:r.val n= .slice a n cp):∀q,a=some q->k<=q.block:=by
 intro q hq;cases r with
 |nil=>simp only[Rw.val,Value.slice.injEq]at e;rw[<-e.1]at hq;cases hq
 |row b cap sp=>simp only[Rw.val,Value.slice.injEq]at e;rw[<-e.1]at hq;cases hq;exact h
theorem KO(hZ:FxOk Z)(G:Gv)(c:Cm)(dz:bP c)(N:Nat)(w:World)(hN:N<=w.heap.size)(hG:bT N w G)(hC:dm N w c)(hg:Glb w)(hv:dR G.g=true)(jH:sL c=0)(hf:kH G.g c=true)(hne:eT G.g c.author c.chs=0)(hb:uO G.g c=true)(hw:wv c=true)(IH:zd Z G.g c=true)(e:Int)(hre:mI (aX G.g.ns c.chs) c.author=e)(he:e=0):Calls prog 83 #[.agg (bD G),.agg (cG c)] w (CQ w (kT Z G.g c) 0):=by
 have rU:=AB.1 hv;have U4:=rU.1.2.2.1;have uN:=rU.1.2.1;have fh:=QQ.1 jH;have B0:=fh.e1;have B1:=fh.e2;obtain⟨h1,h2,h3⟩:=U3 hf;have sD:=fh.au;have Ax:=dz.few.chs;have DH:=dz.few.bxs;have UQ:=dz.few.wes;have hg4:=hg.lt;obtain⟨xC,iJ,wh⟩:=nJm hv hne;obtain⟨qw,Aw⟩:=n4i xC;have Ur:=hG.nn;have NU:=QL c.chs G.g.ns;obtain⟨T,hT⟩:∃T,aX G.g.ns c.chs=T:=⟨_,rfl⟩;rw[hT]at hre NU;have im:=fh.pl;have mw:∀y∈c.path,dY y:=λy hy=>by obtain⟨i,hi⟩:=kA.1 hy;exact fh.path i y hi
 have ans:=nkn hv;refine KJ ?_;refine yV ?_;intro b2 w2 da bW eU dx dq;refine yX ?_;intro b3 w3 hb3 cK fF ez eP;refine B 1 ?_;refine yW ?_;intro b4 ja jb;refine YF ?_;intro Wn an cn wn sK AE rk rl;have wu:=sK.sizes;replace wu:=yb wu;have UP:=AE.size;have tE:=sK.under;replace tE:=yg tE;refine YG ?_;refine eS 15 13 [] (pb:=by exact zU 4 (k:=by exact aU (nf call152 rfl rfl (λW hS _=>by have h9:=Yu c.bxs aa W.heap.size c.ba c.bc W (ak _) (hC.bxs.up cM hS.sm) (fZ G.g c.author c.chs) an cn (rk.to hS A0 (ak _) (λb off e=>.inr YH));rw[show kG IG c.bxs (fZ G.g c.author c.chs)=true from hb]at h9;exact h9) (λ_=>rfl)) zT)) (sp:=(_::_::_::_::(some (cX))::(some bG)::_)) (h:=?_);intro _ _ hk;refine z2c ?_;intro W_ aw cw ww qe vB wy rm;have ze:=(qe.links wn A0).size;have wz:∀q,aw=some q->wn.heap.size<=q.block:=λq e=>dG ze (rm q e);refine z1c ?_;refine ax bG ?_;refine B 8 ?_;refine eS 10 7 [] (pb:=by exact zU 5 (k:=by exact aU (nf call135 rfl rfl (λW hS _=>nIc G N W cM (hG.up (ak _) hS.sm) c.chs aa c.ca c.cc (hC.chs.up (ak _) hS.sm) c.author (λhm=>n0j iJ uN hm)) (λ_=>rfl)) zT)) (sp:=[some (.agg (bD G)),_,_,_,some (.slice c.ca c.chs.length c.cc),some (ab (kF G.g c.author c.chs)),some (.agg (cG c)),_,_,some (.agg #[ab c.sr,ab c.ss])]) (h:=?_)
 intro _ _ hk;refine z8c ?_;rintro W_ bm wm qe vB ⟨ze,ot⟩;try dsimp only at ze ot
 have B2:=(qe.links wn A1).size;have tG:wn.heap.size<=bm:=by omega
 refine zE ?_;refine ztd ?_;refine Iq ?_;refine eA 6 (pb:=by exact zU 5 (k:=by exact aU (nf call23 rfl rfl (λW hS _=>Ys hZ c dz N W cM (hC.up (ak _) hS.sm) (hg.old hS A5 zI zF)) (λ_=>rfl)) (vO rfl))) (sp:=[_,_,_,_,some (.agg (cG c)),some (.agg (dg (aB Z c)))]) (k:=?_);refine zyf ?_;have BK:=(aT.1 ot).1;refine zXc ?_;refine CJ.chn 14 [3,8,9,10,13] [some (.agg (bD G)),_,some (.slice c.ca c.chs.length c.cc),none,_,_,_,some (.slice c.pa c.path.length c.pc),none,none,none,some (ab e),_,none] (λcv L' H'=>let tH:ad:=[(b4,oC (bD (⟨⟨G.g.folder,c.epoch,aB Z c,[],[]⟩,none,0,none,0⟩:Gv)) 53)];let dU:ad:=tH;let iC:List World:=[wm,ww,wn,w3,w2,w];match cv with| []=>L'=iC/\H'=dU| [v1]=>∃(ta:Option Addr) (tc:Nat) (wr:World),v1= .agg #[.slice ta T.length tc]/\L'=wr::iC/\H'=dU/\ai fN 2 wr.heap.size wr ta T/\(∀b off,ta=some ⟨b,off,none⟩->T=[]\/b<N\/wm.heap.size<=b)/\wm.heap.size<=wr.heap.size| [v1,v2]=>∃(ta:Option Addr) (tc:Nat) (wr:World) (r8:Rw),v1= .agg #[.slice ta T.length tc]/\v2= .tuple #[.agg #[r8.val (bZ T c.author c.path).length],ab e]/\L'=wr::iC/\H'=tH++(r8.hp gH 240 (bZ T c.author c.path)++[])/\ai fN 2 wr.heap.size wr ta T/\(∀b off,ta=some ⟨b,off,none⟩->T=[]\/b<N\/wm.heap.size<=b)/\wm.heap.size<=wr.heap.size/\Rw.Fr Gh.no [wr,wm,ww,wn,w3,w2,w] r8/\r8.Fit 2 (bZ T c.author c.path)/\r8.ge wr.heap.size| [v1,v2,v3]=>∃(ta:Option Addr) (tc:Nat) (wr:World) (r8:Rw),v1= .agg #[.slice ta T.length tc]/\v2= .tuple #[.agg #[r8.val (bZ T c.author c.path).length],ab e]/\v3= .tuple #[.agg #[r8.val (bZ T c.author c.path).length],ab e]/\L'=wr::iC/\H'=tH++(r8.hp gH 240 (bZ T c.author c.path)++[])/\ai fN 2 wr.heap.size wr ta T/\(∀b off,ta=some ⟨b,off,none⟩->T=[]\/b<N\/wm.heap.size<=b)/\wm.heap.size<=wr.heap.size/\Rw.Fr Gh.no [wr,wm,ww,wn,w3,w2,w] r8/\r8.Fit 2 (bZ T c.author c.path)/\r8.ge wr.heap.size| [v1,v2,v3,v4]=>∃(ta:Option Addr) (tc:Nat) (wr:World) (r8:Rw),v1= .agg #[.slice ta T.length tc]/\v2= .tuple #[.agg #[r8.val (bZ T c.author c.path).length],ab e]/\v3= .tuple #[.agg #[r8.val (bZ T c.author c.path).length],ab e]/\v4= .agg #[r8.val (bZ T c.author c.path).length]/\L'=wr::iC/\H'=tH++(r8.hp gH 240 (bZ T c.author c.path)++[])/\ai fN 2 wr.heap.size wr ta T/\(∀b off,ta=some ⟨b,off,none⟩->T=[]\/b<N\/wm.heap.size<=b)/\wm.heap.size<=wr.heap.size/\Rw.Fr Gh.no [wr,wm,ww,wn,w3,w2,w] r8/\r8.Fit 2 (bZ T c.author c.path)/\r8.ge wr.heap.size| [v1,v2,v3,v4,v5]=>∃(ta:Option Addr) (tc:Nat) (wr:World) (r8:Rw),v1= .agg #[.slice ta T.length tc]/\v2= .tuple #[.agg #[r8.val (bZ T c.author c.path).length],ab e]/\v3= .tuple #[.agg #[r8.val (bZ T c.author c.path).length],ab e]/\v4= .agg #[r8.val (bZ T c.author c.path).length]/\v5= .tuple #[]/\L'=wr::iC/\H'=[(b4,oC (setCells (bD (⟨⟨G.g.folder,c.epoch,aB Z c,[],[]⟩,none,0,none,0⟩:Gv)) 35 [r8.val (bZ T c.author c.path).length]) 53)]++(r8.hp gH 240 (bZ T c.author c.path)++[])/\ai fN 2 wr.heap.size wr ta T/\(∀b off,ta=some ⟨b,off,none⟩->T=[]\/b<N\/wm.heap.size<=b)/\wm.heap.size<=wr.heap.size/\Rw.Fr Gh.no [wr,wm,ww,wn,w3,w2,w] r8/\r8.Fit 2 (bZ T c.author c.path)/\r8.ge wr.heap.size|_=>False) (pc N4 (pc (by exact λcv L' H' hd hP=>X.v (bQ underlying61 rfl sizeOf54 rfl)) (pc N4 (pk (pc Yn (pc N4 (pc z8b (pc N4 (pk (pk (pk (pc (λcv L' H' hd hP=>match cv,hd,hP with| [],hd,hP=>(absurd (show false=true from hd) zB)| [v1],hd,hP=>(absurd (show false=true from hd) zB)| [v1,v2],hd,hP=>(absurd (show false=true from hd) zB)| [v1,v2,v3],hd,hP=>zjc| [v1,v2,v3,v4],hd,hP=>zgc| [v1,v2,v3,v4,v5],hd,hP=>zec|_::_::_::_::_::_::_,_,hP=>hP.elim) (pc XU (pk (pn))))))))))))))) ?_ ?_
 ·exact zWf
 intro cv L' H' hl hP;obtain⟨v1,v2,v3,v4,v5,rfl⟩:=sO hl;obtain⟨ta,tc,wr,r8,rfl,rfl,rfl,rfl,rfl,rfl,rfl,rY,gO,qV,mJ,gW,jk⟩:=hP;refine B 6 ?_;refine ax bG ?_;refine B 14 ?_;refine ax (.slice G.ma G.g.ms.length G.mc) ?_;refine Iv (enc:=ov) (m:=3) (t:=131) (xs:=G.g.ms) (v:=id) (first:=[]) (cap:=[]) rfl call159 rfl rfl rfl (λW hS=>EU G.g.ms aa N G.ma G.mc W cM (hG.ms.up (ak _) (hS.same A6 hN zI (by simp only[Over,nD,gi,ef,dV,cW,and_true];(repeat' apply And.intro);all_goals first|omega|exact True.intro|exact Rw.over (Rw.ge_mono jk aa))))) ?_;intro r9 YJ E9;have mL:=Rw.ge_of YJ A0;refine B 1 ?_;refine Ec (r:=r9) (enc:=ov) (m:=3) (t:=131) (xs:=G.g.ms) (ys:=(G.g.ms.filter λx=> !gj c.chs x)) (H0:=[]) (H1:=[(b4,oC (setCells (bD (⟨⟨G.g.folder,c.epoch,aB Z c,[],[]⟩,none,0,none,0⟩:Gv)) 35 [r8.val (bZ T c.author c.path).length]) 53)]++(r8.hp gH 240 (bZ T c.author c.path)++[])) (v:=λr=>r.val (G.g.ms.filter λx=> !gj c.chs x).length) rfl call158 rfl rfl rfl (λhr W hS=>?_) (λb cap sp hr W hS h=>?_) ?_
 ·subst hr;have h0:G.g.ms=[]:=E9;rw[h0];exact(nDh 155 [ptr b3 0] call155 W).mono λe w2 h=>⟨h.1,rfl,h.2⟩
 ·subst hr;have hbA:wr.heap.size<=b:=mL;have hzz:=(hS.links w A6).size;have ant:=(hS.links w3 A4).size;have anu:=(aT.1 hb3).1;exact n1k (gj c.chs) 155 [ptr b3 0] call155 G.g.ms aa b cap sp W h E9 (λj x hx W2 hK ahw=>Q2 c dz.few N b3 x W2 (dG hN (dG hzz hK.size)) (hC.up (ak _) (λk hk=>(hK.block k aa aa).trans (hS.same A6 hN zI (by simp only[Over,nD,gi,ef,dV,cW,and_true];(repeat' apply And.intro);all_goals first|omega|exact True.intro|exact Rw.over (Rw.ge_mono jk aa)|exact Rw.over (Rw.ge_mono mL aa)) k hk))) (by rw[hK.block b3 aa aa];exact hS.old A4 hb3 cK zA))
 intro r10 Rc YK YL ahD;have YM:=YK YJ;have ahE:=YL _ mL;refine B 1 ?_;refine OJ.perm (H':=[(b4,oC (Rb G.g.folder c.epoch (aB Z c) (ao) (r8.val (bZ T c.author c.path).length)) 53)]++(r8.hp gH 240 (bZ T c.author c.path)++(r10.hp ov 131 (G.g.ms.filter λx=> !gj c.chs x)++[]))) (by simp only[ef,dV,gi];exact List.perm_append_comm) ?_;refine jP (i:=0) rfl sizeOf48 rfl rfl rfl (Rw.val_size _ _) (dO rfl) (Rw.val_one _ _) ?_;refine B 6 ?_;refine ax (.slice c.ca c.chs.length c.cc) ?_;refine B 5 ?_;have xm:=YI c.epoch c.chs (G.g.ms.filter λx=> !gj c.chs x);refine CJ.reH (H':=[(b4,oC (Rb G.g.folder c.epoch (aB Z c) (r10.val ((G.g.ms.filter λx=> !gj c.chs x)++mK c.epoch (c.chs.take 0)).length) (r8.val (bZ T c.author c.path).length)) 53)]++(r8.hp gH 240 (bZ T c.author c.path)++(r10.hp ov 131 ((G.g.ms.filter λx=> !gj c.chs x)++mK c.epoch (c.chs.take 0))++[]))) (by rw[xm,Rw.val_cells];rfl) ?_;refine CJ.lp (α:=Rw×Nat) [2,3,4,122] (λp=>[(121,.slice c.ca c.chs.length c.cc),(123,ab (p.2:Int))]) (λp=>[(b4,oC (Rb G.g.folder c.epoch (aB Z c) (p.1.val ((G.g.ms.filter λx=> !gj c.chs x)++mK c.epoch (c.chs.take p.2)).length) (r8.val (bZ T c.author c.path).length)) 53)]++(r8.hp gH 240 (bZ T c.author c.path)++(p.1.hp ov 131 ((G.g.ms.filter λx=> !gj c.chs x)++mK c.epoch (c.chs.take p.2))++[]))) (λp=>p.2<=c.chs.length/\p.1.Fr Gh.no [wr,wm,ww,wn,w3,w2,w]/\p.1.Fit 3 ((G.g.ms.filter λx=> !gj c.chs x)++mK c.epoch (c.chs.take p.2))) (λp=>c.chs.length-p.2) (r10,0) ⟨cV _,YM,by rw[xm];exact Rc⟩ ?_
 rintro⟨r,j⟩ ⟨hj,aK,ah⟩;dsimp only at hj aK ah ⊢;have bH:r.ge wr.heap.size:=Rw.ge_of aK A0;have jV:=Q8 (λx=> !gj c.chs x) G.g.ms;have vt:=nCj c.epoch (c.chs.take j);rw[kQ]at vt;refine B 6 ?_;refine aG ?_ ?_
 ·intro ar;refine B 5 ?_;obtain⟨bo,oo,cs0,to,fG,gU,fH,cJ,aW⟩:=hC.chs.get aa;obtain⟨x,hx⟩:=ng c.chs j aa;rw[gU];refine XX ?_;refine yW ?_;intro ik Kb Kc;refine B 10 ?_;refine aG ?_ ?_
  ·intro aN;refine B 10 ?_;refine iS underlying48 sizeOf131 zeroValue131 rfl rfl rfl rfl rfl rfl rfl ?_;refine yW ?_;intro ahF amM amN;refine jS (r:=r) (xs:=((G.g.ms.filter λx=> !gj c.chs x)++mK c.epoch (c.chs.take j))) (zs:=[(⟨x.dev,c.epoch,x.ver⟩:Mb)]) (enc:=ov) (m:=3) (H0:=(ahF,oC #[ab x.dev,ab c.epoch,ab x.ver] 131)::(ik,oC (gh x) 99)::(b4,oC (Rb G.g.folder c.epoch (aB Z c) (r.val ((G.g.ms.filter λx=> !gj c.chs x)++mK c.epoch (c.chs.take j)).length) (r8.val (bZ T c.author c.path).length)) 53)::r8.hp gH 240 (bZ T c.author c.path)) (H1:=[]) zX ES BR rfl rfl rfl rfl (bO.one (z:=(⟨x.dev,c.epoch,x.ver⟩:Mb)) BR nuh underlying48 (bB.own (i:=0) rfl)) ah aK zJ By ?_;intro ahG YN YO Fa KP;replace Fa:=yb Fa;refine B 1 ?_;refine jP (i:=2) rfl sizeOf48 rfl rfl rfl rfl (dO rfl) rfl ?_;refine Re ?_;refine PJ.again (Rw.row ahG YN YO,j+1) ⟨by dsimp only;omega,Fa.elim (λh=>Rw.Fr_at aK h) (λh=>.inr h),by rw[nIn hx eC];exact KP⟩ zW zR (by rw[nIn hx eC];rfl) rfl zJ
  intro aN;refine xx ?_;refine PJ.again (r,j+1) ⟨by dsimp only;omega,aK,by rw[E7 hx aa];exact ah⟩ zW zR (by rw[E7 hx aa];rfl) rfl zJ
 intro ar;refine B 6 ?_;have cx:c.chs.take j=c.chs:=jO aa;rw[cx]at ah ⊢;refine B 3 ?_;have anv:=nCj c.epoch c.chs;refine Ec (r:=r) (enc:=ov) (m:=3) (t:=131) (xs:=((G.g.ms.filter λx=> !gj c.chs x)++mK c.epoch c.chs)) (ys:=rj ((G.g.ms.filter λx=> !gj c.chs x)++mK c.epoch c.chs)) (H0:=(b4,oC (Rb G.g.folder c.epoch (aB Z c) (r.val ((G.g.ms.filter λx=> !gj c.chs x)++mK c.epoch c.chs).length) (r8.val (bZ T c.author c.path).length)) 53)::r8.hp gH 240 (bZ T c.author c.path)) (H1:=[]) (v:=λ_=>.tuple #[]) rfl call160 rfl rfl rfl (λhr W hS=>?_) (λb cap sp hr W hS h=>?_) ?_
 ·subst hr;have h0:((G.g.ms.filter λx=> !gj c.chs x)++mK c.epoch c.chs)=[]:=ah;rw[h0];exact(n0m W).mono λe w2 h=>⟨h.1,EY,h.2⟩
 ·subst hr;exact YC (by rw[ck];omega) ah h
 intro r11 kz amO YP Rf;have Fb:=YP _ bH;refine B 5 ?_;refine gK (i:=0) rfl sizeOf53 rfl rfl rfl rfl rfl (KN _ _ _ _ _ _ _) ?_;refine B 4 ?_;refine bM (.inl rfl) results83 bj λW hS=>?_;have ahH:r8.At gH 240 (bZ T c.author c.path) W:=by
  cases r8 with
  |nil=>trivial
  |row b cap sp=>exact hS.own (b,_) oR
 have YQ:r11.At ov 131 (rj ((G.g.ms.filter λx=> !gj c.chs x)++mK c.epoch c.chs)) W:=by
  cases r11 with
  |nil=>trivial
  |row b cap sp=>exact hS.own (b,_) oR
 obtain⟨a,cp,uo,hsl1⟩:=Rw.sl (xs:=rj ((G.g.ms.filter λx=> !gj c.chs x)++mK c.epoch c.chs)) BR kz YQ (ak W.heap.size);obtain⟨a8,NK,he8,uw⟩:=Rw.sl P3 gW ahH (ak W.heap.size);have h1:r.val ((G.g.ms.filter λx=> !gj c.chs x)++mK c.epoch c.chs).length= .slice a (rj ((G.g.ms.filter λx=> !gj c.chs x)++mK c.epoch c.chs)).length cp:=by rw[<-Yz ((G.g.ms.filter λx=> !gj c.chs x)++mK c.epoch c.chs),<-Rf];exact uo
 have hvl:=nkn hv;have hrw:=E8 (ns:=T) sD c.path;have anw:=nCj c.epoch c.chs;refine⟨⟨kT Z G.g c,a,cp,a8,NK⟩,?_,?_,rfl,⟨hsl1,by rw[<-hT]at uw;exact uw,?_,?_⟩,Rw.val_new (Rw.ge_mono Fb aa) uo,Rw.val_new (Rw.ge_mono jk aa) he8⟩
 ·show Ending.returned (.tuple #[.agg (Rb G.g.folder c.epoch (aB Z c) (r.val ((G.g.ms.filter λx=> !gj c.chs x)++mK c.epoch c.chs).length) (r8.val (bZ T c.author c.path).length)),ab 0])=_;rw[h1,he8,<-hT];rfl
 ·exact(hS.links w A6).below (λk hk hx=>by rcases hx with hx|hx;(exact hx);simp only[cW,gi,ef,dV,gb,dt,eL,bA,bX,dy,or_false]at hx;rcases hx with hx|hx|hx;(omega);(have:=Rw.mem_ge jk hx;omega);(have:=Rw.mem_ge Fb hx;omega))
 ·show(rj ((G.g.ms.filter λx=> !gj c.chs x)++mK c.epoch c.chs)).length<=10000;rw[Yz,ck];omega
 show(bZ (aX G.g.ns c.chs) c.author c.path).length<=80000;rw[hT];omega
noncomputable def ju (Z:Fx) (g:Gp) (c:Cm):Int:=
 if dR g=true then(if sL c=0 then(if kH g c=true then(if eT g c.author c.chs=0 then(if uO g c=true then(if wv c=true then(if zd Z g c=true then mI (aX g.ns c.chs) c.author else 222)else 220)else 220)else 221)else 220)else 220)else 1
noncomputable def xD (Z:Fx) (g:Gp) (c:Cm):Gp:=if ju Z g c=0 then kT Z g c else vA
theorem Fc{au:Int}{l:List Ch}(hv:dR g=true):eT g au l=0\/eT g au l=221:=by
 unfold eT;rw[if_pos hv];split<;>simp
theorem nnd(hZ:FxOk Z)(G:Gv)(c:Cm)(dz:bP c)(N:Nat)(w:World)(hN:N<=w.heap.size)(hG:bT N w G)(hC:dm N w c)(hg:Glb w):Calls prog 83 #[.agg (bD G),.agg (cG c)] w (CQ w (xD Z G.g c) (ju Z G.g c)):=by
 have key:∀e:Int,ju Z G.g c=e->e≠0->Calls prog 83 #[.agg (bD G),.agg (cG c)] w (CQ w vA e)->Calls prog 83 #[.agg (bD G),.agg (cG c)] w (CQ w (xD Z G.g c) (ju Z G.g c)):=by
  intro e he h0 h;have:xD Z G.g c=vA:=by unfold xD;rw[he,if_neg h0]
  rw[this,he];exact h
 cases hv:dR G.g with
 |false=>exact key 1 (by simp[ju,hv]) zB (EZ hZ G c dz N w hN hG hC hg hv)
 |true=>
  rcases Ky c with jH|jH
  ·cases hf:kH G.g c with
   |false=>exact key 220 (by simp[ju,hv,jH,hf]) zB (E2 hZ G c dz N w hN hG hC hg hv jH hf)
   |true=>
    rcases Fc (au:=c.author) (l:=c.chs) hv with hne|hne
    ·cases hb:uO G.g c with
     |false=>exact key 220 (by simp[ju,hv,jH,hf,hne,hb]) zB (KK hZ G c dz N w hN hG hC hg hv jH hf hne hb)
     |true=>
      cases hw:wv c with
      |false=>exact key 220 (by simp[ju,hv,jH,hf,hne,hb,hw]) zB (KL hZ G c dz N w hN hG hC hg hv jH hf hne hb hw)
      |true=>
       cases IH:zd Z G.g c with
       |false=>exact key 222 (by simp[ju,hv,jH,hf,hne,hb,hw,IH]) zB (E4 hZ G c dz N w hN hG hC hg hv jH hf hne hb hw IH)
       |true=>
        have e1:ju Z G.g c=mI (aX G.g.ns c.chs) c.author:=by simp[ju,hv,jH,hf,hne,hb,hw,IH]
        by_cases he:mI (aX G.g.ns c.chs) c.author=0
        ·have e2:ju Z G.g c=0:=e1.trans he;have e3:xD Z G.g c=kT Z G.g c:=by unfold xD;rw[e2,if_pos rfl]
         rw[e2,e3];exact KO hZ G c dz N w hN hG hC hg hv jH hf hne hb hw IH 0 he rfl
        exact key _ e1 he (E6 hZ G c dz N w hN hG hC hg hv jH hf hne hb hw IH _ rfl he)
    exact key 221 (by simp[ju,hv,jH,hf,hne]) zB (E3 hZ G c dz N w hN hG hC hg hv jH hf hne)
  exact key 220 (by simp[ju,hv,jH]) zB (E1 hZ G c dz N w hN hG hC hg hv jH)
theorem II{l:List Value}(h:l.all (λu=>u.oneCell')=true):∀u∈l,u.oneCell'=true:=λu hu=>rZ.1 h u hu
def lR (x:Gv):List Value:=(ab x.g.folder::ab x.g.epoch::lL x.g.last [.slice x.ma x.g.ms.length x.mc,.slice x.na x.g.ns.length x.nc])
theorem YS(x:Gv):(lR x).length=36:=rfl
theorem nbo(x:Gv):∀u∈lR x,u.oneCell'=true:=II rfl
def ow (d:Cd):List Value:=(ab d.at_::ab d.c.folder::ab d.c.epoch::lL d.c.par (ab d.c.author:: .slice d.c.ca d.c.chs.length d.c.cc:: .slice d.c.pa d.c.path.length d.c.pc:: .slice d.c.ba d.c.bxs.length d.c.bc:: .slice d.c.wa d.c.wes.length d.c.wc::lL d.c.conf (ab d.c.sr::ab d.c.ss::lL d.id (ab d.since::ab d.x.g.folder::ab d.x.g.epoch::lL d.x.g.last [.slice d.x.ma d.x.g.ms.length d.x.mc,.slice d.x.na d.x.g.ns.length d.x.nc]))))
theorem Fe(d:Cd):(ow d).length=143:=by simp only[ow,dC,fb]
theorem nak(d:Cd):∀u∈ow d,u.oneCell'=true:=II rfl
def cD (k:Dk):List Value:=k.1.map (Value.int .u8)
theorem xE(k:Dk):(cD k).length=32:=by simp[cD,k.2]
theorem U5(k:Dk):∀u∈cD k,u.oneCell'=true:=by
 intro u hu;obtain⟨x,_,rfl⟩:=bY.1 hu;rfl
def dk (f:Nat->Int):Dk:=⟨[f 0,f 1,f 2,f 3,f 4,f 5,f 6,f 7,f 8,f 9,f 10,f 11,f 12,f 13,f 14,f 15,f 16,f 17,f 18,f 19,f 20,f 21,f 22,f 23,f 24,f 25,f 26,f 27,f 28,f 29,f 30,f 31],rfl⟩
theorem nun(f:Nat->Int):(cD (dk f)).toArray=dg f:=rfl
theorem Rg(f g:Nat->Int):lY f g=decide (dk f=dk g):=by
 have h:=U6 (dk f).1 (dk g).1 (by rw[(dk f).2,(dk g).2]);have e:decide (dk f=dk g)=decide ((dk f).1=(dk g).1):=by simp only[Subtype.ext_iff]
 rw[e,<-h];rfl
theorem KQ:prog.info? 53=some Tryz.t53:=by kernel_rfl
theorem KR:prog.info? 159=some Tryz.t159:=by kernel_rfl
theorem KT:prog.info? 33=some Tryz.t33:=by kernel_rfl
theorem Ff:iR prog 75 53 36:=⟨underlying75,Tryz.t53,.agg (ab 0::ab 0::tr [ao,ao]).toArray,KQ,rfl,rfl,rfl,by decide⟩
theorem Fg:iR prog 162 159 143:=⟨underlying162,Tryz.t159,.agg (ab 0::ab 0::ab 0::tr (ab 0::ao::ao::ao::ao::tr (ab 0::ab 0::tr (ab 0::ab 0::ab 0::tr [ao,ao])))).toArray,KR,rfl,rfl,rfl,by decide⟩
theorem nOi:iR prog 72 33 32:=⟨underlying72,Tryz.t33,.agg (tr []).toArray,KT,rfl,rfl,rfl,by decide⟩
theorem Fh:wB prog 33 uP:=YT underlying33 underlying5 sizeOf5 isAgg5
def oY (l:List Dk) (k:Dk):Int:=match l.findIdx? (λx=>decide (x=k))with|some i=>(i:Int)|none=> -1
theorem nYn{l:List Dk}{k x:Dk}(ea:gL (λy=>decide (y=k)) l j)(hx:l[j]? =some x)(h:decide (x=k)=true):(j:Int)=oY l k:=by
 have e:l.findIdx? (λy=>decide (y=k))=some j:=by
  rw[aZq];have hl:=nr hx;obtain⟨_,IJ⟩:=gX.1 hx;refine⟨hl,by rw[IJ];exact h,λi hi=>?_⟩;have:=ea i l[i] hi (kx _);simp[this]
 unfold oY;rw[e]
theorem Rh{l:List Dk}{k:Dk}(ea:gL (λy=>decide (y=k)) l j)(hj:¬j<l.length):(-1:Int)=oY l k:=by
 have e:l.findIdx? (λy=>decide (y=k))=none:=by
  rw[List.findIdx?_eq_none_iff];intro x hx;have:=List.any_eq_false.1 (nqd ea hj) x hx;simpa using this
 unfold oY;rw[e]
def uQ (k:Dk):Array Value:=(cD k).toArray
theorem Ri(f:Nat->Int)(k:Dk):oi (dg f).toList (uQ k).toList=decide (k=dk f):=by
 have h:=U6 (dk f).1 k.1 (by rw[(dk f).2,k.2]);have e:decide (k=dk f)=decide ((dk f).1=k.1):=by simp only[Subtype.ext_iff];exact decide_eq_decide.2 ⟨Eq.symm,Eq.symm⟩
 rw[e,<-h];rfl
theorem Rj(f:Nat->Int)(k:Dk):jW (lM 32 [.i]) (dg f).toList (uQ k).toList=true:=nSf 32 (dk f).1 k.1 (dk f).2 k.2
theorem Fi(xs:List Dk)(hxl:xs.length<=1000000)(N:Nat)(a:Option Addr)(cp:Nat)(w:World)(hN:N<=w.heap.size)(aJ:ai uQ 32 N w a xs)(f:Nat->Int):Calls prog 107 #[.slice a xs.length cp,.agg (dg f)] w (aM w (ab (oY xs (dk f)))):=by
 refine eN func107 ntmps107 ?_;refine B 2 ?_;refine yX ?_;intro b3 w3 hb3 cK fF ez eP;refine B 12 ?_;refine CJ.lp (α:=Nat) [0,3,7] (λj=>[(8,ab (j:Int))]) (λj=>[]) (λj=>j<=xs.length/\gL (λy=>decide (y=dk f)) xs j) (λj=>xs.length-j) 0 ⟨cV _,λi x hi=>absurd hi aa⟩ ?_;rintro j ⟨hj,ea⟩;refine B 6 ?_;refine aG ?_ ?_
 ·intro ar;refine B 11 ?_;obtain⟨bo,oo,cs0,to,fG,rfl,fH,cJ,aW⟩:=aJ.get aa;obtain⟨x,hx⟩:=ng xs j aa;refine eA 5 (sp:=[_,_,_,_,some (.agg (uQ x))]) (k:=?_);refine rq (.bool (decide (x=dk f))) (oZ xu zB nL rfl rfl (Rj f x)) (vb (Ri f x)) ?_;refine B 2 ?_;refine aG ?_ ?_
  ·intro aN;refine B 12 ?_;exact zsh
  intro aN;refine B 7 ?_;exact zwh
 intro ar;refine B 11 ?_;exact zsh
noncomputable def bF (Z:Fx) (cs:List Cm):Nat->List (Dk×Int)
 |0=>[]
 |j+1=>match cs[j]? with
  |none=>bF Z cs j
  |some c=>if dk (aB Z c)∈(bF Z cs j).map (·.1)then bF Z cs j else bF Z cs j++[(dk (aB Z c),(j:Int))]
theorem nah{c:Cm}(hc:cs[j]? =some c)(h:dk (aB Z c)∈(bF Z cs j).map (·.1)):bF Z cs (j+1)=bF Z cs j:=by simp only[bF,hc,if_pos h]
theorem nnh{c:Cm}(hc:cs[j]? =some c)(h:¬dk (aB Z c)∈(bF Z cs j).map (·.1)):bF Z cs (j+1)=bF Z cs j++[(dk (aB Z c),(j:Int))]:=by simp only[bF,hc,if_neg h]
theorem ngh(Z:Fx)(cs:List Cm):∀j,(bF Z cs j).length<=j:=
 by intro x;induction x<;>(intros;grind [bF])
theorem nyg(Z:Fx)(cs:List Cm):∀j,((bF Z cs j).map (·.1)).Nodup:=
 by intro x;induction x<;>(intros;grind [bF])
theorem U7(Z:Fx)(cs:List Cm):∀(j:Nat) (p:Dk×Int),p∈bF Z cs j->∃(i:Nat) (c:Cm),p.2=(i:Int)/\i<j/\cs[i]? =some c/\p.1=dk (aB Z c):=
 by intro x;induction x<;>(intros;grind [bF])
def pG (l:List (Dk×Int)):List (Dk×Bool):=l.map λp=>(p.1,true)
theorem n5f(l:List (Dk×Int)):(pG l).map (·.1)=l.map (·.1):=by simp[pG]
theorem nAn(l:List (Dk×Int))(k:Dk):(gk (pG l) k).getD false=decide (k∈l.map (·.1)):=by
 by_cases h:k∈l.map (·.1)
 ·cases e:gk (pG l) k with
  |none=>rw[nFg,n5f]at e;exact absurd h e
  |some v=>
   obtain⟨q,hq,rfl⟩:=AK.1 e;have h2:=U8 hq;obtain⟨p,_,hp⟩:=bY.1 (cP h2);have:q.2=true:=(Prod.mk.inj hp).2.symm;simp[this,h]
 all_goals grind [gk,pG,nFg,n5f]
theorem n8n{k:Dk}(h:k∈l.map (·.1)):fu (pG l) k true=pG l:=by
 unfold fu;cases hi:eI k (pG l) 0 with
 |none=>have:=n5e.1 hi;rw[n5f]at this;exact absurd h this
 |some q=>
  obtain⟨i,v⟩:=q;have h2:=U8 hi;obtain⟨p,_,hp⟩:=bY.1 (cP h2);have hv:v=true:=(Prod.mk.inj hp).2.symm;subst hv;apply Cy;intro n;rw[a5q];split
  ·rename_i e;subst e;rw[if_pos (gX.1 h2).1,h2]
  rfl
theorem nio{k:Dk}{j:Int}(h:¬k∈l.map (·.1)):fu (pG l) k true=pG (l++[(k,j)]):=by
 unfold fu;cases hi:eI k (pG l) 0 with
 |none=>simp[pG]
 |some q=>
  have h2:=U8 (l:=pG l) (i:=q.1) (v:=q.2) hi;have:k∈(pG l).map (·.1):=bY.2 ⟨_,cP h2,rfl⟩;rw[n5f]at this;exact absurd this h
theorem nxh(o:Option Bool):(o.map Value.bool).getD (bG)= .bool (o.getD false):=by cases o<;>rfl
theorem nxk{p:Dk×Int}:(l++[p]).map (·.1)=l.map (·.1)++[p.1]:=by simp
theorem nck{p:Dk×Int}:(l++[p]).map (·.2)=l.map (·.2)++[p.2]:=by simp
structure Pv where
 ia:Option Addr
 ic:Nat
 ta:Option Addr
 tc:Nat
noncomputable def zf (Z:Fx) (cs:List Cm) (la:Option Addr) (lc:Nat) (p:Pv):Array Value:=#[.slice la cs.length lc,.slice p.ia ((bF Z cs cs.length).map (·.1)).length p.ic,.slice p.ta ((bF Z cs cs.length).map (·.2)).length p.tc]
structure o8 (Z:Fx) (cs:List Cm) (N:Nat) (w:World) (p:Pv):Prop where
 ids:ai uQ 32 N w p.ia ((bF Z cs cs.length).map (·.1))
 at_:ai (λx=>(aA x).toArray) 1 N w p.ta ((bF Z cs cs.length).map (·.2))
theorem o8.up{N N':Nat}{w w':World}{p:Pv}(h:o8 Z cs N w p)(hN:N<=N')(hw:∀k,k<N->w'.heap[k]? =w.heap[k]?):o8 Z cs N' w' p:=⟨h.ids.up hN hw,h.at_.up hN hw⟩
theorem newPool(hZ:FxOk Z)(cs:List Cm)(cJ:cs.length<=1000)(dz:∀c∈cs,bP c)(N:Nat)(la:Option Addr)(lc:Nat)(w:World)(hN:N<=w.heap.size)(aJ:ai cG 73 N w la cs)(hC:∀c∈cs,dm N w c)(hg:Glb w):Calls prog 61 #[.slice la cs.length lc] w (cN w (λp:Pv=>.agg (zf Z cs la lc p)) (λp w1=>o8 Z cs w1.heap.size w1 p/\(∀q,p.ia=some q->w.heap.size<=q.block)/\∀q,p.ta=some q->w.heap.size<=q.block)):=by
 have hg4:=hg.lt;refine eN func61 ntmps61 ?_;refine B 3 ?_;refine yW ?_;intro b2 dx dq;refine B 6 ?_;refine jP (i:=0) rfl sizeOf24 rfl rfl rfl rfl (dO rfl) rfl ?_;refine B 4 ?_;refine KU uP Value.bool rfl rfl ?_;intro b3 ez eP;replace ez:=yb ez;try simp only[aY,and_true,ne_eq]at eP
 refine B 12 ?_;refine CJ.lp (α:=((Rw×Rw)×Mq)×Nat) [2,3,10,11] (λp=>[(12,ab (p.2:Int))]) (λp=>[(b3,p.1.2.obj uP Value.bool (pG (bF Z cs p.2))),(b2,oC #[.slice la cs.length lc,p.1.1.1.val ((bF Z cs p.2).map (·.1)).length,p.1.1.2.val ((bF Z cs p.2).map (·.2)).length] 156)]++(p.1.1.1.hp cD 33 ((bF Z cs p.2).map (·.1))++(p.1.1.2.hp aA 3 ((bF Z cs p.2).map (·.2))++[]))) (λp=>p.2<=cs.length/\p.1.1.1.Fr Gh.no [w]/\p.1.1.1.Fit 32 ((bF Z cs p.2).map (·.1))/\p.1.1.2.Fr Gh.no [w]/\p.1.1.2.Fit 1 ((bF Z cs p.2).map (·.2))/\p.1.2.Ok (pG (bF Z cs p.2))) (λp=>cs.length-p.2) (((.nil,.nil),Mq.mk [] 0),0) ⟨cV _,True.intro,rfl,True.intro,rfl,Mq.nil⟩ ?_;rintro⟨⟨⟨r1,r2⟩,m⟩,j⟩ ⟨hj,qf,iU,iy,gd,hm⟩;dsimp only at hj qf iU iy gd hm ⊢;have mM:r1.ge w.heap.size:=Rw.ge_of qf A0;have ee:r2.ge w.heap.size:=Rw.ge_of iy A0;refine B 6 ?_;refine aG ?_ ?_
 ·intro ar;refine B 5 ?_;obtain⟨bo,oo,cs0,to,fG,gU,fH,cJ,aW⟩:=aJ.get aa;obtain⟨c,hc⟩:=ng cs j aa;have CR:=cP hc;have im:=ngh Z cs j;refine B 2 ?_;refine rv rfl rfl rfl (dd underlying24 sizeOf61 (congrArg (λq=>some (Value.slice q cs.length lc)) gU) rfl aa aa) ?_;refine ax (.agg (cG c)) ?_;refine B 1 ?_;refine yW ?_;intro b5 so sq;refine B 7 ?_;refine call call23 rfl rfl rfl (λW hS=>Ys hZ c (dz c CR) N W cM ((hC c CR).up (ak _) (hS.same A0 hN zI zKb)) (hg.old hS A0 zI zKb)) ?_;refine B 1 ?_;refine yW ?_;intro b6 jD qu;refine B 5 ?_;by_cases xF:(dk (aB Z c))∈((bF Z cs j).map (·.1))
  ·refine B 3 ?_;refine rq cX (qy (m:=m) (k:=(dk (aB Z c))) underlying223 Fh zeroValue4 hm (bB.own (i:=2) rfl) rfl rfl) ((nxh _).trans (vb ((nAn _ _).trans (decide_eq_true xF)))) ?_;refine B 9 ?_;refine YU (i:=2) (k:=(dk (aB Z c))) (v:=true) rfl hm underlying223 Fh rfl rfl rfl rfl ?_;intro m2 bW;refine Re ?_;refine PJ.again (((r1,r2),m2),j+1) ⟨by dsimp only;omega,qf,by rw[nah hc xF];exact iU,iy,by rw[nah hc xF];exact gd,by rw[nah hc xF];rw[n8n xF]at bW;exact bW⟩ zW zR (by rw[nah hc xF,n8n xF];rfl) rfl zJ
  refine B 3 ?_;refine rq bG (qy (m:=m) (k:=(dk (aB Z c))) underlying223 Fh zeroValue4 hm (bB.own (i:=2) rfl) rfl rfl) ((nxh _).trans (vb ((nAn _ _).trans (decide_eq_false xF)))) ?_;refine B 4 ?_;refine CJ.less (E':=[(2,_),(3,_),(4,_),(5,_),(6,_),(10,_),(11,_),(12,_),(13,_),(14,_),(15,_),(16,_),(17,_),(18,_),(19,_),(20,_),(21,_),(22,_)]) zR ?_;refine dN 11 [3,4,8,9] [[],[0],[],[0,1,2]] (λcv L' H'=>let dU:Nat×Obj:=(b6,oC (dg (aB Z c)) 33);match cv with| [none,none,none,none]=>L'=[w]/\H'=[dU,(b5,oC (cG c) 61),(b3,m.obj uP Value.bool (pG (bF Z cs j))),(b2,oC #[.slice la cs.length lc,r1.val ((bF Z cs j).map (·.1)).length,r2.val ((bF Z cs j).map (·.2)).length] 156)]++(r1.hp cD 33 ((bF Z cs j).map (·.1))++(r2.hp aA 3 ((bF Z cs j).map (·.2))++[]))| [none,none,some v8,none]=>∃(gY:Nat),v8= .slice (aj gY) 1 1/\L'=[w]/\H'=[(gY,oC #[ab (j:Int)] 3),dU,(b5,oC (cG c) 61),(b3,m.obj uP Value.bool (pG (bF Z cs j))),(b2,oC #[.slice la cs.length lc,r1.val ((bF Z cs j).map (·.1)).length,r2.val ((bF Z cs j).map (·.2)).length] 156)]++(r1.hp cD 33 ((bF Z cs j).map (·.1))++(r2.hp aA 3 ((bF Z cs j).map (·.2))++[]))/\ae [w] gY| [some v3,none,none,none]=>∃(jc:Nat),v3= .slice (aj jc) 1 1/\L'=[w]/\H'=[(jc,oC (dg (aB Z c)) 33),dU,(b5,oC (cG c) 61),(b3,m.obj uP Value.bool (pG (bF Z cs j))),(b2,oC #[.slice la cs.length lc,r1.val ((bF Z cs j).map (·.1)).length,r2.val ((bF Z cs j).map (·.2)).length] 156)]++(r1.hp cD 33 ((bF Z cs j).map (·.1))++(r2.hp aA 3 ((bF Z cs j).map (·.2))++[]))/\ae [w] jc| [some v3,none,some v8,none]=>∃(jc:Nat) (gY:Nat),v3= .slice (aj jc) 1 1/\v8= .slice (aj gY) 1 1/\L'=[w]/\H'=[(gY,oC #[ab (j:Int)] 3),(jc,oC (dg (aB Z c)) 33),dU,(b5,oC (cG c) 61),(b3,m.obj uP Value.bool (pG (bF Z cs j))),(b2,oC #[.slice la cs.length lc,r1.val ((bF Z cs j).map (·.1)).length,r2.val ((bF Z cs j).map (·.2)).length] 156)]++(r1.hp cD 33 ((bF Z cs j).map (·.1))++(r2.hp aA 3 ((bF Z cs j).map (·.2))++[]))/\ae [w] jc/\ae [w] gY| [some v3,some v4,none,none]=>∃(jc:Nat) (ky:Nat) (gD:Nat) (iD:List Value),v3= .slice (aj jc) 1 1/\v4= .slice (aj ky) (((bF Z cs j).map (·.1))++[(dk (aB Z c))]).length gD/\L'=[w]/\H'=[(jc,oC (dg (aB Z c)) 33),dU,(b5,oC (cG c) 61),(b3,m.obj uP Value.bool (pG (bF Z cs j))),(b2,oC #[.slice la cs.length lc,r1.val ((bF Z cs j).map (·.1)).length,r2.val ((bF Z cs j).map (·.2)).length] 156)]++((Rw.row ky gD iD).hp cD 33 (((bF Z cs j).map (·.1))++[(dk (aB Z c))])++(r2.hp aA 3 ((bF Z cs j).map (·.2))++[]))/\ae [w] jc/\(r1.isAt ky\/ae [w] ky)/\(Rw.row ky gD iD).Fit 32 (((bF Z cs j).map (·.1))++[(dk (aB Z c))])| [some v3,some v4,some v8,none]=>∃(jc:Nat) (ky:Nat) (gD:Nat) (iD:List Value) (gY:Nat),v3= .slice (aj jc) 1 1/\v4= .slice (aj ky) (((bF Z cs j).map (·.1))++[(dk (aB Z c))]).length gD/\v8= .slice (aj gY) 1 1/\L'=[w]/\H'=[(gY,oC #[ab (j:Int)] 3),(jc,oC (dg (aB Z c)) 33),dU,(b5,oC (cG c) 61),(b3,m.obj uP Value.bool (pG (bF Z cs j))),(b2,oC #[.slice la cs.length lc,r1.val ((bF Z cs j).map (·.1)).length,r2.val ((bF Z cs j).map (·.2)).length] 156)]++((Rw.row ky gD iD).hp cD 33 (((bF Z cs j).map (·.1))++[(dk (aB Z c))])++(r2.hp aA 3 ((bF Z cs j).map (·.2))++[]))/\ae [w] jc/\(r1.isAt ky\/ae [w] ky)/\(Rw.row ky gD iD).Fit 32 (((bF Z cs j).map (·.1))++[(dk (aB Z c))])/\ae [w] gY| [some v3,some v4,some v8,some v9]=>∃(jc:Nat) (ky:Nat) (gD:Nat) (iD:List Value) (gY:Nat) (CS:Nat) (wC:Nat) (zg:List Value),v3= .slice (aj jc) 1 1/\v4= .slice (aj ky) (((bF Z cs j).map (·.1))++[(dk (aB Z c))]).length gD/\v8= .slice (aj gY) 1 1/\v9= .slice (aj CS) (((bF Z cs j).map (·.2))++[(j:Int)]).length wC/\L'=[w]/\H'=[(gY,oC #[ab (j:Int)] 3),(jc,oC (dg (aB Z c)) 33),dU,(b5,oC (cG c) 61),(b3,m.obj uP Value.bool (pG (bF Z cs j))),(b2,oC #[.slice la cs.length lc,r1.val ((bF Z cs j).map (·.1)).length,r2.val ((bF Z cs j).map (·.2)).length] 156)]++((Rw.row ky gD iD).hp cD 33 (((bF Z cs j).map (·.1))++[(dk (aB Z c))])++((Rw.row CS wC zg).hp aA 3 (((bF Z cs j).map (·.2))++[(j:Int)])++[]))/\ae [w] jc/\(r1.isAt ky\/ae [w] ky)/\(Rw.row ky gD iD).Fit 32 (((bF Z cs j).map (·.1))++[(dk (aB Z c))])/\ae [w] gY/\(r2.isAt CS\/ae [w] CS)/\(Rw.row CS wC zg).Fit 1 (((bF Z cs j).map (·.2))++[(j:Int)])|_=>False) ⟨rfl,rfl⟩ (xG 1 (k:=by exact r7 zcp (r7 zcp (xG 3 (k:=by exact r7 zcp U9))))) ?_ ?_
  ·refine nc rfl rfl ?_ ?_
   ·intro cv L' H' hl hr hP F Q' hk;obtain⟨x3,x4,x8,x9,rfl⟩:=uH hl;rcases x3 with _|v3<;>rcases x4 with _|v4<;>rcases x8 with _|v8<;>rcases x9 with _|v9<;>try exact False.elim hP
    ·obtain⟨rfl,rfl⟩:=hP;refine zUd ?_;intro jc ha ho;exact OJ.done (hk _ _ _ ⟨jc,rfl,rfl,rfl,ha⟩)
    ·obtain⟨gY,rfl,rfl,rfl,lh⟩:=hP;refine zUd ?_;intro jc ha ho;refine OJ.perm (List.Perm.swap _ _ _) ?_;exact OJ.done (hk _ _ _ ⟨jc,gY,rfl,rfl,rfl,rfl,ha,lh⟩)
    ·exact cB
    ·exact cB
    ·exact cB
    ·exact cB
    exact cB
   refine nc rfl rfl ?_ ?_
   ·intro cv L' H' hl hr hP F Q' hk;obtain⟨x3,x4,x8,x9,rfl⟩:=uH hl;rcases x3 with _|v3<;>rcases x4 with _|v4<;>rcases x8 with _|v8<;>rcases x9 with _|v9<;>try exact False.elim hP
    ·exact cB
    ·exact cB
    ·obtain⟨jc,rfl,rfl,rfl,lj⟩:=hP;refine jS (r:=r1) (xs:=((bF Z cs j).map (·.1))) (zs:=[(dk (aB Z c))]) (enc:=cD) (m:=32) (H0:=[(jc,oC (dg (aB Z c)) 33),(b6,oC (dg (aB Z c)) 33),(b5,oC (cG c) 61),(b3,m.obj uP Value.bool (pG (bF Z cs j))),(b2,oC #[.slice la cs.length lc,r1.val ((bF Z cs j).map (·.1)).length,r2.val ((bF Z cs j).map (·.2)).length] 156)]) (H1:=r2.hp aA 3 ((bF Z cs j).map (·.2))++[]) rfl nOi xE rfl rfl rfl rfl (bO.one (z:=(dk (aB Z c))) xE U5 underlying72 (bB.own (i:=0) rfl)) iU qf zJ PZ ?_;intro ky gD iD qg fw;exact OJ.done (hk _ _ _ ⟨jc,ky,gD,iD,rfl,rfl,rfl,rfl,lj,qg,fw⟩)
    ·obtain⟨jc,gY,rfl,rfl,rfl,rfl,lj,lh⟩:=hP;refine jS (r:=r1) (xs:=((bF Z cs j).map (·.1))) (zs:=[(dk (aB Z c))]) (enc:=cD) (m:=32) (H0:=[(gY,oC #[ab (j:Int)] 3),(jc,oC (dg (aB Z c)) 33),(b6,oC (dg (aB Z c)) 33),(b5,oC (cG c) 61),(b3,m.obj uP Value.bool (pG (bF Z cs j))),(b2,oC #[.slice la cs.length lc,r1.val ((bF Z cs j).map (·.1)).length,r2.val ((bF Z cs j).map (·.2)).length] 156)]) (H1:=r2.hp aA 3 ((bF Z cs j).map (·.2))++[]) rfl nOi xE rfl rfl rfl rfl (bO.one (z:=(dk (aB Z c))) xE U5 underlying72 (bB.own (i:=1) rfl)) iU qf zJ PZ ?_;intro ky gD iD qg fw;exact OJ.done (hk _ _ _ ⟨jc,ky,gD,iD,gY,rfl,rfl,rfl,rfl,rfl,lj,qg,fw,lh⟩)
    ·exact cB
    ·exact cB
    exact cB
   refine nc rfl rfl ?_ ?_
   ·intro cv L' H' hl hr hP F Q' hk;obtain⟨x3,x4,x8,x9,rfl⟩:=uH hl;rcases x3 with _|v3<;>rcases x4 with _|v4<;>rcases x8 with _|v8<;>rcases x9 with _|v9<;>try exact False.elim hP
    ·obtain⟨rfl,rfl⟩:=hP;refine Eb ?_;intro gY ha ho;exact OJ.done (hk _ _ _ ⟨gY,rfl,rfl,rfl,ha⟩)
    ·exact cB
    ·obtain⟨jc,rfl,rfl,rfl,lj⟩:=hP;refine Eb ?_;intro gY ha ho;exact OJ.done (hk _ _ _ ⟨jc,gY,rfl,rfl,rfl,rfl,lj,ha⟩)
    ·exact cB
    ·obtain⟨jc,ky,gD,iD,rfl,rfl,rfl,rfl,lj,qg,fw⟩:=hP;refine Eb ?_;intro gY ha ho;exact OJ.done (hk _ _ _ ⟨jc,ky,gD,iD,gY,rfl,rfl,rfl,rfl,rfl,lj,qg,fw,ha⟩)
    ·exact cB
    exact cB
   refine nc rfl rfl ?_ ?_
   ·intro cv L' H' hl hr hP F Q' hk;obtain⟨x3,x4,x8,x9,rfl⟩:=uH hl;rcases x3 with _|v3<;>rcases x4 with _|v4<;>rcases x8 with _|v8<;>rcases x9 with _|v9<;>try exact False.elim hP
    ·exact cB
    ·exact cB
    ·exact cB
    ·exact cB
    ·exact cB
    ·obtain⟨jc,ky,gD,iD,gY,rfl,rfl,rfl,rfl,rfl,lj,qg,fw,lh⟩:=hP;refine jS (r:=r2) (xs:=((bF Z cs j).map (·.2))) (zs:=[(j:Int)]) (enc:=aA) (m:=1) (H0:=[(gY,oC #[ab (j:Int)] 3),(jc,oC (dg (aB Z c)) 33),(b6,oC (dg (aB Z c)) 33),(b5,oC (cG c) 61),(b3,m.obj uP Value.bool (pG (bF Z cs j))),(b2,oC #[.slice la cs.length lc,r1.val ((bF Z cs j).map (·.1)).length,r2.val ((bF Z cs j).map (·.2)).length] 156)]++(Rw.row ky gD iD).hp cD 33 (((bF Z cs j).map (·.1))++[(dk (aB Z c))])) (H1:=[]) rfl Nz nz rfl rfl rfl rfl (bO.one (z:=(j:Int)) nz NB underlying55 (bB.own (i:=0) rfl)) gd iy zJ PZ ?_;intro CS wC zg zh uR;exact OJ.done (hk _ _ _ ⟨jc,ky,gD,iD,gY,CS,wC,zg,rfl,rfl,rfl,rfl,rfl,rfl,lj,qg,fw,lh,zh,uR⟩)
    exact cB
   exact nn
  intro cv L' H' hl hr hP;obtain⟨x3,x4,x8,x9,rfl⟩:=uH hl;rcases x3 with _|v3<;>rcases x4 with _|v4<;>rcases x8 with _|v8<;>rcases x9 with _|v9
  ·exact cB
  ·exact cB
  ·exact cB
  ·exact cB
  ·exact cB
  ·exact cB
  ·exact cB
  ·exact cB
  ·exact cB
  ·exact cB
  ·exact cB
  ·exact cB
  ·exact cB
  ·exact cB
  ·exact cB
  obtain⟨jc,ky,gD,iD,gY,CS,wC,zg,rfl,rfl,rfl,rfl,rfl,rfl,lj,qg,fw,lh,zh,uR⟩:=hP;simp only[ae]at lj lh;refine jP (i:=5) rfl sizeOf72 rfl rfl rfl rfl (dO rfl) rfl ?_;refine B 1 ?_;refine jP (i:=5) rfl sizeOf55 rfl rfl rfl rfl (dO rfl) rfl ?_;refine B 5 ?_;refine YU (i:=4) (k:=(dk (aB Z c))) (v:=true) rfl hm underlying223 Fh rfl rfl rfl rfl ?_;intro m2 bW;refine Re ?_;refine B4 ?_;refine PJ.again (((Rw.row ky gD iD,Rw.row CS wC zg),m2),j+1) ⟨by dsimp only;omega,qg.elim (λh=>Rw.Fr_at qf h) (λh=>.inr h),by rw[nnh hc xF,nxk];exact fw,zh.elim (λh=>Rw.Fr_at iy h) (λh=>.inr h),by rw[nnh hc xF,nck];exact uR,by rw[nnh hc xF,<-nio xF];exact bW⟩ zW zR (by rw[nnh hc xF,nxk,nck,<-nio xF];rfl) rfl zJ
 intro ar;refine B 6 ?_;have im:=ngh Z cs j;have hje:j=cs.length:=by omega
 subst hje;refine B 2 ?_;refine gK (i:=1) rfl sizeOf156 rfl rfl rfl rfl rfl (by cases r1<;>cases r2<;>rfl) ?_;refine B 3 ?_;refine bM (.inl rfl) results61 bj λW hS=>?_;have Fj:r1.At cD 33 ((bF Z cs cs.length).map (·.1)) W:=by
  exact zZh
 have Rk:r2.At aA 3 ((bF Z cs cs.length).map (·.2)) W:=by
  exact zYh
 obtain⟨a1,c1,uo,xH⟩:=Rw.sl xE iU Fj (ak W.heap.size);obtain⟨a2,c2,Iu,N6⟩:=Rw.sl nz gd Rk (ak W.heap.size);refine⟨⟨a1,c1,a2,c2⟩,?_,?_,⟨xH,N6⟩,Rw.val_new mM uo,Rw.val_new ee Iu⟩
 ·show Ending.returned (.agg #[.slice la cs.length lc,r1.val _,r2.val _])=_;rw[uo,Iu];rfl
 exact(hS.links w A0).below (λk hk hx=>by rcases hx with hx|hx;(exact hx);simp only[cW,dB,gi,ef,dV,gb,dt,eL,bA,bX,dy,or_false]at hx;rcases hx with hx|hx|hx|hx;(omega);(omega);(have:=Rw.mem_ge mM hx;omega);(have:=Rw.mem_ge ee hx;omega))
structure CO {α:Type} (cf:α->α->Int):Prop where
 anti:∀x y,cf x y= -cf y x
 trans:∀x y z,cf x y<=0->cf y z<=0->cf x z<=0
theorem CO.swo{α:Type}{cf:α->α->Int}(h:CO cf):Go.Sort.SWO (Go.Proofs.ltOf cf):=by
 refine⟨λx=>?_,λx y z h1 h2=>?_,λx y z h1 h2=>?_⟩<;>simp only[Go.Proofs.ltOf,decide_eq_true_eq,decide_eq_false_iff_not]at*
 ·have:=h.anti x x;omega
 ·have a1:=h.anti x z;have a2:=h.anti y z;have a3:=h.anti z y;have a4:=h.anti x y
  have t1:=h.trans x y z aa aa;by_cases e:cf x z=0
  ·have t2:=h.trans z x y (by have:=h.anti z x;omega) aa;have:=h.anti y z;omega
  omega
 have a1:=h.anti x y;have a2:=h.anti y z;have a3:=h.anti x z
 have:=h.trans z y x aa aa;omega
def B5 {α:Type} (f g:α->α->Int) (x y:α):Int:=if f x y=0 then g x y else f x y
theorem CO.lt{α:Type}{cf:α->α->Int}(h:CO cf){x y z:α}(h1:cf x y<=0)(h2:cf y z<=0)(h3:cf x y≠0\/cf y z≠0):cf x z≠0:=by
 intro e;have a1:=h.anti x z;have a2:=h.anti y z;have a3:=h.anti x y
 rcases h3 with h3|h3
 ·have:=h.trans y z x h2 aa;omega
 have:=h.trans z x y aa h1;omega
theorem CO.lex{α:Type}{f g:α->α->Int}(hf:CO f)(hg:CO g):CO (B5 f g):=by
 refine⟨λx y=>?_,λx y z h1 h2=>?_⟩
 ·have a:=hf.anti x y;have b:=hg.anti x y
  unfold B5;by_cases e:f x y=0
  ·rw[if_pos e,if_pos aa];exact b
  rw[if_neg e,if_neg aa];exact a
 have a:=hf.lt (x:=x) (y:=y) (z:=z);have t:=hf.trans x y z;have u:=hg.trans x y z
 unfold B5 at *;by_cases e1:f x y=0<;>by_cases e2:f y z=0<;>simp only[e1,e2,if_true,if_false]at h1 h2
 ·have z0:f x z=0:=by
   have t1:=t aa aa;have t2:=hf.trans z y x (by have:=hf.anti z y;omega) (by have:=hf.anti y x;omega);have:=hf.anti x z;omega
  rw[if_pos z0];exact u h1 h2
 ·rw[if_neg (a aa aa (.inr e2))];exact t aa aa
 ·rw[if_neg (a aa aa (.inl e1))];exact t aa aa
 rw[if_neg (a aa aa (.inl e1))];exact t aa aa
theorem CO.key{α β:Type}{cf:β->β->Int}(h:CO cf)(k:α->β):CO λx y=>cf (k x) (k y):=⟨λx y=>h.anti _ _,λx y z=>h.trans _ _ _⟩
theorem CO.int:CO cZ:=by
 refine⟨λx y=>?_,λx y z h1 h2=>?_⟩;all_goals grind [cZ]
theorem N7:∀(a b:List UInt8),Go.Lib.compareBytes a b=0->a=b
 | [],[],_=>rfl
 | [],_::_,h=>by simp[Go.Lib.compareBytes]at h
 |_::_,[],h=>by simp[Go.Lib.compareBytes]at h
 |x::a,y::b,h=>by
  unfold Go.Lib.compareBytes at h;by_cases h1:x<y
  ·simp[h1]at h
  by_cases h2:y<x
  ·simp[h1,h2]at h
  simp only[h1,h2,if_false]at h;have e:x=y:=UInt8.le_antisymm (UInt8.not_lt.1 h2) (UInt8.not_lt.1 h1);rw[e,N7 a b h]
theorem nRi(x y:UInt8):x<y\/x=y\/y<x:=by grind
theorem YV{x y:UInt8}(a b:List UInt8)(h:x<y):Go.Lib.compareBytes (x::a) (y::b)= -1:=by unfold Go.Lib.compareBytes;rw[if_pos h]
theorem YW{x y:UInt8}(a b:List UInt8)(h:y<x):Go.Lib.compareBytes (x::a) (y::b)=1:=by unfold Go.Lib.compareBytes;rw[if_neg (λk=>UInt8.lt_irrefl x (UInt8.lt_trans k h)),if_pos h]
theorem nJj(x:UInt8)(a b:List UInt8):Go.Lib.compareBytes (x::a) (x::b)=Go.Lib.compareBytes a b:=by conv=>lhs;unfold Go.Lib.compareBytes;rw[if_neg (UInt8.lt_irrefl x),if_neg (UInt8.lt_irrefl x)]
theorem nRn:∀a b:List UInt8,Go.Lib.compareBytes a b= -Go.Lib.compareBytes b a
 | [],[]=>rfl
 | [],_::_=>rfl
 |_::_,[]=>rfl
 |x::a,y::b=>by
  rcases nRi x y with h|rfl|h
  ·rw[YV _ _ h,YW _ _ h]
  ·rw[nJj,nJj];exact nRn a b
  rw[YW _ _ h,YV _ _ h];rfl
theorem nMl:∀a b c:List UInt8,Go.Lib.compareBytes a b<=0->Go.Lib.compareBytes b c<=0->Go.Lib.compareBytes a c<=0
 | [],_,[],_,_=>by decide
 | [],_,_::_,_,_=>by show(-1:Int)<=0;decide
 |_::_,[],_,h1,_=>absurd (show(1:Int)<=0 from h1) zB
 |_::_,_::_,[],_,h2=>absurd (show(1:Int)<=0 from h2) zB
 |x::a,y::b,z::c,h1,h2=>by
  rcases nRi x y with h|rfl|h
  ·rcases nRi y z with k|rfl|k
   ·rw[YV _ _ (UInt8.lt_trans h k)];decide
   ·rw[YV _ _ h];decide
   rw[YW _ _ k]at h2;exact absurd h2 zB
  ·rcases nRi x z with k|rfl|k
   ·rw[YV _ _ k];decide
   ·rw[nJj]at h1 h2 ⊢;exact nMl a b c h1 h2
   rw[YW _ _ k]at h2;exact absurd h2 zB
  rw[YW _ _ h]at h1;exact absurd h1 zB
theorem CO.bytes:CO Go.Lib.compareBytes:=⟨nRn,nMl⟩
def ky3 (x y:Int×Int×List UInt8):Int:=B5 (λx y=>cZ x.1 y.1) (B5 (λx y=>cZ x.2.1 y.2.1) (λx y=>Go.Lib.compareBytes x.2.2 y.2.2)) x y
theorem CO.ky3:CO ky3:=(CO.int.key (λx:Int×Int×List UInt8=>x.1)).lex ((CO.int.key (λx:Int×Int×List UInt8=>x.2.1)).lex (CO.bytes.key (λx:Int×Int×List UInt8=>x.2.2)))
theorem Rl{x y:Int×Int×List UInt8}(h:ky3 x y=0):x.2.2=y.2.2:=by grind [ky3,B5,N7]
theorem nhk{le:Nat->Nat->Bool}:∀{l l':List Nat},(∀a∈l,∀b∈l,le a b=true->le b a=true->a=b)->l.Pairwise (λa b=>le a b=true)->l'.Pairwise (λa b=>le a b=true)->l.Perm l'->l=l'
 | [],l',_,_,_,hp=>(List.nil_perm.1 hp).symm▸rfl
 |a::l,[],_,_,_,hp=>absurd hp.length_eq zJ
 |a::l,b::l',ha,h1,h2,hp=>by
  have tI:a=b:=by
   have m1:a∈b::l':=hp.mem_iff.1 A0;have m2:b∈a::l:=hp.mem_iff.2 A0;rcases bX.1 m1 with e|m1
   ·exact e
   rcases bX.1 m2 with e|m2'
   ·exact e.symm
   exact ha a A0 b m2 ((List.pairwise_cons.1 h1).1 b m2') ((List.pairwise_cons.1 h2).1 a m1)
  subst tI;have Rm:=hp.cons_inv;rw[nhk (λx hx y hy=>ha x (.tail _ hx) y (.tail _ hy)) (List.pairwise_cons.1 h1).2 (List.pairwise_cons.1 h2).2 Rm]
section
open Go.Proofs Go.Shelf Go.Lib Go.Sort
theorem YX(x y:Cd)(W:World):Calls prog 183 #[.agg (ow x).toArray,.agg (ow y).toArray] W λe w'=>e= .returned (ab (cZ x.since y.since))/\∃q zc,w'=grow (W.drewN q) zc:=by
 have mG:=λW'=>AJ x.since y.since W';generalize cZ x.since y.since=r at mG ⊢;unfold ow
 go_enter func183,ntmps183
 go_wp2_with (go_at_call 103;refine(mG _).mono ?_;rintro e w' ⟨rfl,rfl⟩)
 go_ret
 exact zUg
theorem YY(x y:Cd)(W:World):Calls prog 184 #[.agg (ow x).toArray,.agg (ow y).toArray] W λe w'=>e= .returned (ab (cZ x.c.author y.c.author))/\∃q zc,w'=grow (W.drewN q) zc:=by
 have mG:=λW'=>AJ x.c.author y.c.author W';generalize cZ x.c.author y.c.author=r at mG ⊢;unfold ow
 go_enter func184,ntmps184
 go_wp2_with (go_at_call 103;refine(mG _).mono ?_;rintro e w' ⟨rfl,rfl⟩)
 go_ret
 exact zUg
end
theorem nBg{P:Program}{W:World}{b:Nat}:∀(zs:List Int) (off:Nat) (acc:List UInt8),(∀(i:Nat) (h:i<zs.length),W.cell? ⟨b,off+i,none⟩=some (.int .u8 zs[i]))->(Extern.Bytes.loadBytes ⟨b,off,none⟩ zs.length ⟨acc.toArray⟩).run P W= .ok ⟨(acc++zs.map λz=>z.toNat.toUInt8).toArray⟩ W
 | [],off,acc,_=>by simp[Extern.Bytes.loadBytes]
 |z::zs,off,acc,h=>by
  have h0:W.cell? ⟨b,off,none⟩=some (.int .u8 z):=h 0 zJ;have ih:=nBg (P:=P) (W:=W) (b:=b) zs (off+1) (acc++[z.toNat.toUInt8]) (λi hi=>by
   have:=h (i+1) (by simpa using hi);rw[show off+1+i=off+(i+1) by omega];simpa using this)
  have e:(ByteArray.mk acc.toArray).push z.toNat.toUInt8=⟨(acc++[z.toNat.toUInt8]).toArray⟩:=by simp[ByteArray.push]
  have ha:(⟨b,off,none⟩:Addr).add 1=⟨b,off+1,none⟩:=rfl;simp only[dC,Extern.Bytes.loadBytes,Sem.run_bind];rw[show(load ⟨b,off,none⟩:Sem Value).run P W= .ok (.int .u8 z) W by simp[load,Sem.run,h0]];simp only[Result.andThen,e,ha];rw[ih];simp
section
open Go.Lib Go.Sort
theorem Fk{P:Program}{b1 o1 c1 b2 o2 c2:Nat}{xs ys:List Int}(h1:∀(i:Nat) (h:i<xs.length),W.cell? ⟨b1,o1+i,none⟩=some (.int .u8 xs[i]))(h2:∀(i:Nat) (h:i<ys.length),W.cell? ⟨b2,o2+i,none⟩=some (.int .u8 ys[i])):(Extern.BytealgCompare.compare #[.slice (some ⟨b1,o1,none⟩) xs.length c1,.slice (some ⟨b2,o2,none⟩) ys.length c2]).run P W= .ok (ab (compareBytes (xs.map λz=>z.toNat.toUInt8) (ys.map λz=>z.toNat.toUInt8))) W:=by
 change Sem.run P (do pure (goInt (Extern.BytealgCompare.cmp (<-Extern.Bytes.bytesOf (.slice (some ⟨b1,o1,none⟩) xs.length c1)) (<-Extern.Bytes.bytesOf (.slice (some ⟨b2,o2,none⟩) ys.length c2))))) W=_;have e1:=nBg (P:=P) (W:=W) xs o1 [] h1;have e2:=nBg (P:=P) (W:=W) ys o2 [] h2;simp only[Extern.Bytes.bytesOf,Sem.run_bind,Sem.run_pure,Result.andThen];rw[show ByteArray.empty=⟨(#[]:Array UInt8)⟩from rfl,e1];simp only[ef];rw[e2];simp only[ef];rw[cmp_eq];rfl
theorem njf{b1 o1 c1 b2 o2 c2:Nat}{xs ys:List Int}(h1:∀(i:Nat) (h:i<xs.length),W.cell? ⟨b1,o1+i,none⟩=some (.int .u8 xs[i]))(h2:∀(i:Nat) (h:i<ys.length),W.cell? ⟨b2,o2+i,none⟩=some (.int .u8 ys[i])):Calls prog 104 #[.slice (some ⟨b1,o1,none⟩) xs.length c1,.slice (some ⟨b2,o2,none⟩) ys.length c2] W λe w'=>e= .returned (ab (compareBytes (xs.map λz=>z.toNat.toUInt8) (ys.map λz=>z.toNat.toUInt8)))/\w'=W:=by
 have hr:=Fk (P:=prog) (c1:=c1) (c2:=c2) h1 h2;clear h1 h2
 go_enter func104,ntmps104
 go_wp2
 rw[run_callFunc_extern func170 zO zO zO (e:=Extern.BytealgCompare.compare) zO,hr];simp only[Result.andThen];rw[Oper.upon_value]
 go_wp2
 go_ret
 exact⟨rfl,rfl⟩
theorem YZ{o2:Obj}{X:Array Value}{t k:Nat}{v:Value}(q:Nat)(h:X[k]? =some v):(((W.alloc (.cells X t)).alloc o2).drewN q).cell? ⟨W.heap.size,k,none⟩=some v:=by
 rw[alloc_eq_grow,alloc_eq_grow,grow_grow];have:(W.heap++(#[.cells X t]++#[o2]))[W.heap.size]? =some (.cells X t):=by rw[Array.getElem?_append_right (ak _)];simp
 simp only[World.cell?,World.drewN,grow,this];exact h
theorem Y0{o1:Obj}{Y:Array Value}{t k:Nat}{v:Value}(q:Nat)(h:Y[k]? =some v):(((W.alloc o1).alloc (.cells Y t)).drewN q).cell? ⟨W.heap.size+1,k,none⟩=some v:=by simp_all
theorem Y1(X Y:Array Value)(xs ys:List Int)(hx:xs.length=32)(hy:ys.length=32)(hX:∀(i:Nat) (h:i<xs.length),X[74+i]? =some (.int .u8 xs[i]))(hY:∀(i:Nat) (h:i<ys.length),Y[74+i]? =some (.int .u8 ys[i]))(W:World):Calls prog 185 #[.agg X,.agg Y] W λe w'=>e= .returned (ab (compareBytes (xs.map λz=>z.toNat.toUInt8) (ys.map λz=>z.toNat.toUInt8)))/\∃q zc,w'=grow (W.drewN q) zc:=by
 have mG:∀q,Calls prog 104 #[.slice (some ⟨W.heap.size,74,none⟩) 32 32,.slice (some ⟨W.heap.size+1,74,none⟩) 32 32] (((W.alloc (.cells X 159)).alloc (.cells Y 159)).drewN q) λe w'=>e= .returned (ab (compareBytes (xs.map λz=>z.toNat.toUInt8) (ys.map λz=>z.toNat.toUInt8)))/\w'=((W.alloc (.cells X 159)).alloc (.cells Y 159)).drewN q:=by
  intro q;have:=njf (W:=((W.alloc (.cells X 159)).alloc (.cells Y 159)).drewN q) (b1:=W.heap.size) (o1:=74) (c1:=32) (b2:=W.heap.size+1) (o2:=74) (c2:=32) (xs:=xs) (ys:=ys) (λi h=>YZ _ (by simp[hX i h])) (λi h=>Y0 _ (by simp[hY i h]));rw[hx,hy]at this;exact this
 generalize compareBytes (xs.map λz=>z.toNat.toUInt8) (ys.map λz=>z.toNat.toUInt8)=c at mG ⊢;clear hX hY
 go_enter func185,ntmps185
 go_wp2
 go_region_with (go_at_call 104;refine(mG _).mono ?_;rintro e w' ⟨rfl,rfl⟩)
 go_wp2
 go_ret
 exact⟨rfl,_,_,by rw[alloc_eq_grow,alloc_eq_grow,grow_grow];rfl⟩
end
theorem nmi(f:Nat->Int):((dk f).1.map λz=>z.toNat.toUInt8)=cy f:=rfl
theorem Y2(x y:Cd)(W:World):Calls prog 185 #[.agg (iK x),.agg (iK y)] W λe w'=>e= .returned (ab (Go.Lib.compareBytes (cy x.id) (cy y.id)))/\Gz W w':=by
 rw[<-nmi,<-nmi];have key:∀(z:Cd) (i:Nat) (h:i<(dk z.id).1.length),(iK z)[74+i]? =some (.int .u8 (dk z.id).1[i]):=by
  intro z i h;have h2:i<32:=by rw[(dk z.id).2]at h;exact h
  have e1:((dk z.id).1.map (Value.int .u8))[i]? =some (.int .u8 ((dk z.id).1[i]'h)):=by rw[sA,kx h];rfl
  have e2:(dg z.id)[i]? =((dk z.id).1.map (Value.int .u8))[i]? :=by rw[<-nun,DQ];rfl
  exact(uS (k:=74) (n:=32) (r:=dg z.id) rfl i h2).trans (e2.trans e1)
 exact Y1 (iK x) (iK y) (dk x.id).1 (dk y.id).1 (dk x.id).2 (dk y.id).2 (key x) (key y) W
def rkF:Nat->Nat
 |0=>183
 |1=>184
 |_=>185
def B6 (w:World) (b:Nat):Prop:=∃b',w.heap[b]? =some (oC #[.slice (aj b') 3 3] 390)/\w.heap[b']? =some (oC #[.func (.func 183) #[] #[],.func (.func 184) #[] #[],.func (.func 185) #[] #[]] 227)
theorem Rn(j:Nat)(h:j<3):(#[Value.func (.func 183) #[] #[],.func (.func 184) #[] #[],.func (.func 185) #[] #[]]:Array Value)[0+((j:Int)).toNat*1]? =some (.func (.func (rkF j)) #[] #[]):=by
 match j,h with
 |0,_=>rfl
 |1,_=>rfl
 |2,_=>rfl
theorem KV(j:Nat)(h:j<3):eg prog (rkF j):=by
 match j,h with
 |0,_=>exact call183
 |1,_=>exact call184
 |2,_=>exact call185
def IK (x y:Cd):Nat->Int
 |0=>cZ x.since y.since
 |1=>cZ x.c.author y.c.author
 |_=>Go.Lib.compareBytes (cy x.id) (cy y.id)
theorem Y3(x y:Cd)(j:Nat)(h:j<3)(W:World):Calls prog (rkF j) #[.agg (iK x),.agg (iK y)] W λe w'=>e= .returned (ab (IK x y j))/\Gz W w':=by
 match j,h with
 |0,_=>exact YX x y W
 |1,_=>exact YY x y W
 |2,_=>exact Y2 x y W
def kyD (d:Cd):Int×Int×List UInt8:=(d.since,d.c.author,cy d.id)
def rkI (x y:Cd):Int:=if cZ x.since y.since=0 then(if cZ x.c.author y.c.author=0 then Go.Lib.compareBytes (cy x.id) (cy y.id)else cZ x.c.author y.c.author)else cZ x.since y.since
theorem Ro{x y:Cd}(h:∀i,i<j->IK x y i=0)(hj:j<3)(hn:¬IK x y j=0):IK x y j=rkI x y:=by
 have h0:=h 0;have h1:=h 1
 unfold rkI;all_goals grind [IK]
theorem KW{x y:Cd}(h:∀i,i<3->IK x y i=0):0=rkI x y:=by
 have h0:=h 0 aa;have h1:=h 1 aa;have h2:=h 2 aa
 all_goals grind [IK,rkI]
theorem ahS(x y:Cd)(b:Nat)(w:World)(hr:B6 w b):Calls prog 249 #[.agg (iK x),.agg (iK y),ptr b 0] w λe w'=>e= .returned (ab (rkI x y))/\Gz w w':=by
 obtain⟨b2,hb,da⟩:=hr;refine Fl (vs:=[_,_,_]) func249 rfl ntmps249 rfl ?_;refine AL ?_;refine Y4 rfl rfl rfl (λW0 h0=>?_);refine Y4 rfl rfl rfl (λW1 h1=>?_);obtain⟨W2,h2⟩:∃W2,W2=W1.alloc (oC (iK y) 159):=⟨_,rfl⟩;have gA:Gz w W1:=by rw[h1,h0];exact Gz.alloc _ _
 have eU:Gz w W2:=by rw[h2];exact gA.trans (Gz.alloc _ _)
 have qx:W2.heap[W1.heap.size]? =some (oC (iK y) 159):=by rw[h2];exact heap_alloc_new _ _
 have xI:W2.heap[W0.heap.size]? =some (oC (iK x) 159):=by
  have e:W1.heap[W0.heap.size]? =some (oC (iK x) 159):=by rw[h1];exact heap_alloc_new _ _
  rw[h2,(Y5 W1 _).block _ (aT.1 e).1];exact e
 have dX:∀{W:World},Gz W2 W->St Gh.no [W2,w] [] W:=λ{W} h=>N8 (by
  intro v hv;simp only[bX,dy,or_false]at hv;rcases hv with rfl|rfl
  ·exact h.below
  exact(eU.trans h).below)
 refine pH (L:=[W2,w]) (λW e=>by rw[e];have:=dX (Gz.refl W2);rw[h2]at this ⊢;exact this) rfl rfl rfl (tz rfl) ?_;refine Fm ?_;refine CX.seq ?_;refine AL ?_;refine pH (L:=[W2,w]) (λW e=>by rw[e];have:=dX (Gz.refl W2);rw[h2]at this ⊢;exact this) rfl rfl rfl (av (v:=.slice (aj b2) 3 3) isAgg390 rfl A1 hb zL trivial rfl) ?_;refine pH (L:=[W2,w]) (λW e=>by rw[e];have:=dX (Gz.refl W2);rw[h2]at this ⊢;exact this) rfl rfl rfl (iQ underlying390 rfl) ?_;refine pH (L:=[W2,w]) (λW e=>by rw[e];have:=dX (Gz.refl W2);rw[h2]at this ⊢;exact this) rfl rfl rfl (sP rfl) ?_;refine Fm ?_;refine CX.block ?_;refine CX.loop (α:=Nat×World) (λp=>[(2,ptr b 0),(3,ptr W0.heap.size 0),(4,ptr W1.heap.size 0),(9,.slice (aj b2) 3 3),(10,ab 3),(11,ab (p.1:Int))]) (λp=>(· =p.2)) (λp=>p.1<=3/\(∀i,i<p.1->IK x y i=0)/\Gz W2 p.2) (λp=>3-p.1) (0,W2) ⟨by omega,λi h=>absurd h aa,Gz.refl _⟩ zR (λW e=>e.trans h2.symm) ?_;rintro⟨j,W⟩ ⟨hj,hz,hg⟩;dsimp only at hj hz hg ⊢;have hT:∀W',W'=W->St Gh.no [W2,w] [] W':=λW' e=>by rw[e];exact dX hg
 refine AL ?_;by_cases ar:j<3
 ·refine z2e ?_;refine pH hT rfl rfl rfl (dd underlying390 sizeOf227 rfl rfl aa aa) ?_;refine pH hT rfl rfl rfl (av (v:=.func (.func (rkF j)) #[] #[]) isAgg227 rfl A1 da zL trivial (Rn j ar)) ?_;refine Rp ?_;refine AL ?_;refine N9 ?_;refine pH hT rfl rfl rfl (cd isAgg159 sizeOf159 rfl A0 xI zL trivial rfl) ?_;refine pH hT rfl rfl rfl (cd isAgg159 sizeOf159 rfl A0 qx zL trivial rfl) ?_;refine Rq (first:=[]) (cap:=[]) (v:=ab (IK x y j)) (T':=Gz W) rfl (KV j ar) rfl rfl rfl (λW' e=>by rw[e];exact Y3 x y j ar W) ?_;refine OX.fix (λW3 hg3=>?_);have hg4:=hg.trans hg3;have Oa:∀W',W'=W3->St Gh.no [W2,w] [] W':=λW' e=>by rw[e];exact dX hg4
  refine pH Oa rfl rfl rfl (tz rfl) ?_;refine Fm ?_;refine AL ?_;refine pH Oa rfl rfl rfl (sP rfl) ?_;by_cases aN:IK x y j=0
  ·refine pH Oa rfl rfl rfl (RV.re (v':=bG) (cQ rfl rfl) (vb (by simp[aN]))) ?_;refine zcf ?_;refine pH Oa rfl rfl rfl (hJ rfl rfl aa aa) ?_;refine pH Oa rfl rfl rfl (sP rfl) ?_;refine OX.done ?_;exact PX.again (j+1,W3) ⟨by dsimp only;omega,λi hi=>by dsimp only at hi;by_cases e:i=j;(rw[e];exact aN);exact hz i aa,hg4⟩ zW zR (λW' e=>e)
  refine pH Oa rfl rfl rfl (RV.re (v':=cX) (cQ rfl rfl) (vb (by simp[aN]))) ?_;refine Fm ?_;refine CX.condT rfl ?_;refine AL ?_;refine pH Oa rfl rfl rfl (sP rfl) ?_;refine pH Oa rfl rfl rfl (tz rfl) ?_;refine Fm ?_;refine zqe ?_;exact AM (.inl rfl) results249 rfl (λW' e=>⟨congrArg (λn=>Ending.returned (ab n)) (Ro hz ar aN),by rw[e];exact eU.trans hg4⟩)
 refine ztf ?_;refine Rp ?_;refine CX.ret ?_;exact AM (.inl rfl) results249 rfl (λW' e=>⟨congrArg (λn=>Ending.returned (ab n)) (KW (λi hi=>hz i aa)),by rw[e];exact eU.trans hg⟩)
theorem CO.rkI:CO rkI:=CO.ky3.key kyD
end Px
