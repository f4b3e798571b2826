/- Contracts of functions of the program. No condition beyond those stated. -/
import Derived.Test.YtodpaegknpbomaaGreatDoorKc
import Derived.Test.YtodpaegknpbomaaGreatDoorProg
import Derived.Shelf.SlSortCmp.WholeK
import Derived.Deep.RegionWith
import Derived.Handy
import Derived.Lib.Bytealg
import Derived.Laws.Externs
import Derived.Test.YtodpaegknpbomaaGreatDoorLa
set_option linter.unusedSimpArgs false
set_option linter.unusedVariables false
set_option linter.unusedSectionVars false
set_option linter.unnecessarySimpa false
set_option maxRecDepth 20000
set_option maxHeartbeats 8000000
namespace Px
open Go Go.RowKit Go.Proofs Go.Proofs.Tryz
def kQ {α β:Type} (r:α->β->Bool) (xs:List α) (ys:List β):Bool:=decide (xs.length=ys.length)&&(xs.zip ys).all λp=>r p.1 p.2
def BP {α β:Type} (r:α->β->Bool) (xs:List α) (ys:List β) (j:Nat):Prop:=∀(i:Nat) (x:α) (y:β),i<j->xs[i]? =some x->ys[i]? =some y->r x y=true
variable {Z:Fx} {g:Gp} {l:List (Dk×Int)} {cs:List Cm} {sp:List Value} {j:Nat} {W:World}
theorem BP.next{α β:Type}{r:α->β->Bool}{xs:List α}{ys:List β}{x:α}{y:β}(h:BP r xs ys j)(hx:xs[j]? =some x)(hy:ys[j]? =some y)(e:r x y=true):BP r xs ys (j+1):=by
 exact zeh
theorem nme{α β:Type}{r:α->β->Bool}{xs:List α}{ys:List β}(hl:xs.length=ys.length)(h:BP r xs ys j)(hj:¬j<xs.length):true=kQ r xs ys:=by
 unfold kQ;rw[decide_eq_true hl,Bool.true_and,eq_comm,sP];rintro⟨x,y⟩ hp;obtain⟨i,hi⟩:=kA.1 hp;rw[List.getElem?_zip_eq_some]at hi;exact h i x y (by have:=nr hi.1;omega) hi.1 hi.2
theorem nsf{α β:Type}{r:α->β->Bool}{xs:List α}{ys:List β}{x:α}{y:β}(hx:xs[j]? =some x)(hy:ys[j]? =some y)(h:r x y=false):false=kQ r xs ys:=by
 unfold kQ;have:((xs.zip ys).all λp=>r p.1 p.2)=false:=by
  rw[List.all_eq_false];exact⟨(x,y),kA.2 ⟨j,List.getElem?_zip_eq_some.2 ⟨hx,hy⟩⟩,by simp[h]⟩
 rw[this,Bool.and_false]
theorem nqe{α β:Type}{r:α->β->Bool}{xs:List α}{ys:List β}(hl:¬xs.length=ys.length):false=kQ r xs ys:=by unfold kQ;rw[decide_eq_false hl];rfl
def ID (x:Bx) (p:Int×Int):Bool:=decide (x.node=p.2)&&decide (x.level=p.1)
def U2 (x:We) (y:Ch):Bool:=decide (x.dev=y.dev)
theorem QV(x:Bx)(p:Int×Int)(w:World):Calls prog 150 #[.agg (yQ x),.agg (QK p)] w (aL w (.bool (ID x p))):=by
 refine eN func150 ntmps150 ?_;refine B 2 ?_;refine yX ?_;intro b2 w2 di bV ff dB dx;refine yX ?_;intro b3 w3 cZ cu fC ez eP;refine B 11 ?_;refine ni (t:=10) rfl (λar=>?_) (λar=>?_)
 ·exact zrh
 exact zrh
theorem QW(x:We)(y:Ch)(w:World):Calls prog 151 #[.agg (v7 x),.agg (gC y)] w (aL w (.bool (U2 x y))):=by
 refine eN func151 ntmps151 ?_;refine B 2 ?_;refine yX ?_;intro b2 w2 di bV ff dB dx;refine yX ?_;intro b3 w3 cZ cu fC ez eP;refine B 14 ?_;refine aF results151 rfl A2 ?_;rfl
theorem YA(xs:List Bx)(hxl:xs.length<=1000000)(N:Nat)(a:Option Addr)(cp:Nat)(w:World)(hN:N<=w.heap.size)(aJ:ai yQ 4 N w a xs)(ys:List (Int×Int))(a2:Option Addr)(XY:Nat)(Ex:ai QK 4 N w a2 ys):Calls prog 152 #[.slice a xs.length cp,.slice a2 ys.length XY,.func (.func 150) #[] #[]] w (aL w (.bool (kQ ID xs ys))):=by
 refine eN func152 ntmps152 ?_;refine B 15 ?_;refine aG ?_ ?_
 ·intro ar;refine B 7 ?_;refine aF results152 rfl A0 ?_;exact U3
 intro ar;refine B 11 ?_;refine CJ.lp (α:=Nat) [1,2,15,16] (λj=>[(17,ab (j:Int))]) (λj=>[]) (λj=>j<=xs.length/\BP ID xs ys j) (λj=>xs.length-j) 0 ⟨cR _,λi x y hi=>absurd hi aa⟩ ?_;rintro j ⟨hj,dZ⟩;refine B 6 ?_;refine aG ?_ ?_
 ·intro aN;refine B 5 ?_;obtain⟨bo,oo,cs0,to,fV,rfl,fP,cJ,aV⟩:=aJ.get aa;obtain⟨x,hx⟩:=ng xs j aa;refine B 3 ?_;refine ay (.agg (yQ x)) ?_;refine B 1 ?_;refine yW ?_;intro b8 Ig Ii;refine B 5 ?_;obtain⟨bp,op,csp,tp,frp,rfl,Cg,Qw,Qx⟩:=Ex.get aa;obtain⟨y,hy⟩:=ng ys j aa;refine B 4 ?_;refine ay (.agg (QK y)) ?_;refine B 1 ?_;refine yW ?_;intro b9 xh tw;refine B 8 ?_;refine Bo (f:=150) (cap:=[]) rfl call150 rfl rfl rfl (λW hS=>QV x y W) ?_;refine B 3 ?_;refine aG ?_ ?_
  ·intro dp;refine B 11 ?_;refine cC (.inl rfl) results152 aX A0 zB ?_;exact U3
  exact zWh
 intro aN;refine B 11 ?_;refine aF results152 rfl A0 ?_;exact U3
theorem njd(xs:List We)(hxl:xs.length<=1000000)(N:Nat)(a:Option Addr)(cp:Nat)(w:World)(hN:N<=w.heap.size)(aJ:ai v7 3 N w a xs)(ys:List Ch)(a2:Option Addr)(XY:Nat)(Ex:ai gC 5 N w a2 ys):Calls prog 153 #[.slice a xs.length cp,.slice a2 ys.length XY,.func (.func 151) #[] #[]] w (aL w (.bool (kQ U2 xs ys))):=by
 refine eN func153 ntmps153 ?_;refine B 15 ?_;refine aG ?_ ?_
 ·intro ar;refine B 7 ?_;refine aF results153 rfl A0 ?_;exact U3
 intro ar;refine B 11 ?_;refine CJ.lp (α:=Nat) [1,2,15,16] (λj=>[(17,ab (j:Int))]) (λj=>[]) (λj=>j<=xs.length/\BP U2 xs ys j) (λj=>xs.length-j) 0 ⟨cR _,λi x y hi=>absurd hi aa⟩ ?_;rintro j ⟨hj,dZ⟩;refine B 6 ?_;refine aG ?_ ?_
 ·intro aN;refine B 5 ?_;obtain⟨bo,oo,cs0,to,fV,rfl,fP,cJ,aV⟩:=aJ.get aa;obtain⟨x,hx⟩:=ng xs j aa;refine B 3 ?_;refine ay (.agg (v7 x)) ?_;refine B 1 ?_;refine yW ?_;intro b8 Ig Ii;refine B 5 ?_;obtain⟨bp,op,csp,tp,frp,rfl,Cg,Qw,Qx⟩:=Ex.get aa;obtain⟨y,hy⟩:=ng ys j aa;refine B 4 ?_;refine ay (.agg (gC y)) ?_;refine B 1 ?_;refine yW ?_;intro b9 xh tw;refine B 8 ?_;refine Bo (f:=151) (cap:=[]) rfl call151 rfl rfl rfl (λW hS=>QW x y W) ?_;refine B 3 ?_;refine aG ?_ ?_
  ·intro dp;refine B 11 ?_;refine cC (.inl rfl) results153 aX A0 zB ?_;exact U3
  exact zWh
 intro aN;refine B 11 ?_;refine aF results153 rfl A0 ?_;exact U3
def rl (au:Int) (x:Ch):Bool:=decide (x.kind=2\/x.dev=au)
def gD (l:List Ch) (x:Mb):Bool:=l.any λy=>decide (y.dev=x.dev)
theorem ngp(au:Int)(b:Nat)(x:Ch)(w:World)(hb1:w.heap[b]? =some (oC #[ab au] 3)):Calls prog 212 #[.agg (gC x),ptr b 0] w (aL w (.bool (rl au x))):=by
 have cF:¬Gh.no.X b:=λh=>h;have mr:=(aT.1 hb1).1;refine eN func212 ntmps212 ?_;refine B 2 ?_;refine yX ?_;intro b2 w2 di bV ff dB dx;refine B 9 ?_;refine ni (t:=7) rfl (λar=>?_) (λar=>?_)
 ·exact zah
 exact zah
theorem KF(y:Ch)(b:Nat)(x:Mb)(w:World)(hb1:w.heap[b]? =some (oC (qd x) 131)):Calls prog 157 #[.agg (gC y),ptr b 0] w (aL w (.bool (decide (y.dev=x.dev)))):=by
 have cF:¬Gh.no.X b:=λh=>h;have mr:=(aT.1 hb1).1;refine eN func157 ntmps157 ?_;refine B 2 ?_;refine yX ?_;intro b2 w2 di bV ff dB dx;refine B 14 ?_;refine aF results157 rfl A1 ?_;rfl
theorem QX(c:Cm)(rf:ra c)(N:Nat)(b:Nat)(x:Mb)(w:World)(hN:N<=w.heap.size)(hC:du N w c)(hb1:w.heap[b]? =some (oC (cG c) 61)):Calls prog 155 #[.agg (qd x),ptr b 0] w (aL w (.bool (gD c.chs x))):=by
 have cF:¬Gh.no.X b:=λh=>h;have mr:=(aT.1 hb1).1;have Ar:=rf.chs;refine eN func155 ntmps155 ?_;refine B 2 ?_;refine yX ?_;intro b2 w2 di bV ff dB dx;refine B 6 ?_;refine ay (.slice c.ca c.chs.length c.cc) ?_;refine B 1 ?_;refine call call156 rfl rfl rfl (λW hS=>ntd (λy=>decide (y.dev=x.dev)) 157 [ptr b2 0] call157 c.chs aa N c.ca c.cc W cM (hC.chs.up (ak _) hS.sm) (λj y hy W2 hB=>KF y b2 x W2 (by have h2:=(hS.links w2 A0).size;rw[hB.block b2 aa];exact hS.old A0 di bV trivial))) ?_;refine B 4 ?_;refine aF results155 rfl A1 ?_;rfl
theorem QY:jH prog 54 99 5:=⟨underlying54,Tryz.t99,.agg #[ab 0,ab 0,ab 0,ab 0,ab 0],Kl,rfl,rfl,rfl,by decide⟩
theorem EN:jH prog 48 131 3:=⟨underlying48,Tryz.t131,.agg #[ab 0,ab 0,ab 0],Kk,rfl,rfl,rfl,by decide⟩
theorem nlm(n c:Nat)(w:World):Calls prog 138 #[.slice none n c] w (aD w mI 5 99 ([]:List Ch) id):=by
 refine eN func138 ntmps138 ?_;refine B 9 ?_;refine rr cY (uM underlying54 rfl rfl) ?_;refine B 10 ?_;exact nP (H0:=[]) (H1:=[]) (r:=.nil) (.inl rfl) results138 aX A0 trivial rfl rfl True.intro rfl
theorem nTk(xs:List Ch)(hxl:xs.length<=100000)(N:Nat)(q:Addr)(cp:Nat)(w:World)(hN:N<=w.heap.size)(aJ:ai gC 5 N w (some q) xs):Calls prog 138 #[.slice (some q) xs.length cp] w (aD w mI 5 99 xs id):=by
 refine eN func138 ntmps138 ?_;refine B 9 ?_;refine rr bN (uN underlying54 rfl rfl) ?_;refine B 7 ?_;refine kh underlying54 sizeOf99 zeroValue99 rfl rfl rfl rfl rfl rfl rfl ?_;refine yW ?_;intro b5 sq su;refine B 1 ?_;refine U4 (xs:=([]:List Ch)) (zs:=xs) (enc:=mI) (m:=5) (H0:=[]) (H1:=[]) (sp:=[]) (by rfl) QY BK rfl rfl rfl rfl (cd.sl BK nZj underlying54 A0 aJ (λb hb=>⟨λh=>h,by simp only[bA,and_true];omega⟩)) ⟨ak _,rfl⟩ (.inr zC) oN ?_;intro b7 CA YB tB pL;have EO:w.heap.size<=b7:=by rcases tB with h|h;(omega);exact h.not A0
 rw[eL]at pL ⊢;refine B 4 ?_;exact nP (H0:=[]) (H1:=[]) (r:=.row b7 CA YB) (.inl rfl) results138 aX A0 (by simp only[eL,Over,and_true];omega) rfl pL EO (by rfl)
theorem nbl(xs:List Ch)(hxl:xs.length<=100000)(N:Nat)(a:Option Addr)(cp:Nat)(w:World)(hN:N<=w.heap.size)(aJ:ai gC 5 N w a xs):Calls prog 138 #[.slice a xs.length cp] w (aD w mI 5 99 xs id):=by
 cases a with
 |none=>
  have h0:xs=[]:=by rcases aJ with h|⟨b,off,cs,t,fr,h,_⟩;(exact h);cases h
  subst h0;exact nlm 0 cp w
 |some q=>exact nTk xs hxl N q cp w hN aJ
theorem nhm(n c:Nat)(w:World):Calls prog 159 #[.slice none n c] w (aD w oE 3 131 ([]:List Mb) id):=by
 refine eN func159 ntmps159 ?_;refine B 9 ?_;refine rr cY (uM underlying48 rfl rfl) ?_;refine B 10 ?_;exact nP (H0:=[]) (H1:=[]) (r:=.nil) (.inl rfl) results159 aX A0 trivial rfl rfl True.intro rfl
theorem nQk(xs:List Mb)(hxl:xs.length<=100000)(N:Nat)(q:Addr)(cp:Nat)(w:World)(hN:N<=w.heap.size)(aJ:ai qd 3 N w (some q) xs):Calls prog 159 #[.slice (some q) xs.length cp] w (aD w oE 3 131 xs id):=by
 refine eN func159 ntmps159 ?_;refine B 9 ?_;refine rr bN (uN underlying48 rfl rfl) ?_;refine B 7 ?_;refine kh underlying48 sizeOf131 zeroValue131 rfl rfl rfl rfl rfl rfl rfl ?_;refine yW ?_;intro b5 sq su;refine B 1 ?_;refine U4 (xs:=([]:List Mb)) (zs:=xs) (enc:=oE) (m:=3) (H0:=[]) (H1:=[]) (sp:=[]) (by rfl) EN BJ rfl rfl rfl rfl (cd.sl BJ nnh underlying48 A0 aJ (λb hb=>⟨λh=>h,by simp only[bA,and_true];omega⟩)) ⟨ak _,rfl⟩ (.inr zC) oN ?_;intro b7 CA YB tB pL;have EO:w.heap.size<=b7:=by rcases tB with h|h;(omega);exact h.not A0
 rw[eL]at pL ⊢;refine B 4 ?_;exact nP (H0:=[]) (H1:=[]) (r:=.row b7 CA YB) (.inl rfl) results159 aX A0 (by simp only[eL,Over,and_true];omega) rfl pL EO (by rfl)
theorem EP(xs:List Mb)(hxl:xs.length<=100000)(N:Nat)(a:Option Addr)(cp:Nat)(w:World)(hN:N<=w.heap.size)(aJ:ai qd 3 N w a xs):Calls prog 159 #[.slice a xs.length cp] w (aD w oE 3 131 xs id):=by
 cases a with
 |none=>
  have h0:xs=[]:=by rcases aJ with h|⟨b,off,cs,t,fr,h,_⟩;(exact h);cases h
  subst h0;exact nhm 0 cp w
 |some q=>exact nQk xs hxl N q cp w hN aJ
theorem nrg{α:Type}{p:α->Bool}{xs:List α}{k:Nat}(h:gu p xs k):(xs.take k).filter (λx=> !p x)=xs.take k:=by
 rw[List.filter_eq_self];intro x hx;obtain⟨i,hi⟩:=kA.1 hx;have hl:=nr hi;rw[lb]at hl;rw[QS aa]at hi;simp[h i x aa hi]
theorem KG{α:Type}{p:α->Bool}{xs:List α}(h:xs.any p=false):xs.filter (λx=> !p x)=xs:=by simp_all
theorem QZ{α:Type}{p:α->Bool}{xs:List α}{x:α}(hx:xs[j]? =some x):(xs.take (j+1)).filter (λx=> !p x)=(xs.take j).filter (λx=> !p x)++(if p x=true then[]else[x]):=by
 rw[nq hx,List.filter_append];congr 1;cases h:p x<;>simp[h]
theorem Q0{α:Type}{enc:α->List Value}{m:Nat}{cur:List α}{x:α}(hm:∀x,(enc x).length=m)(hx:cur[j]? =some x):cut (gX enc cur++sp).toArray (0+((j:Int)).toNat*m) m=(enc x).toArray:=by grind [cut,YC]
theorem Q1{α:Type}{enc:α->List Value}{m:Nat}{cur:List α}(hm:∀x,(enc x).length=m)(hj:j<cur.length):0+((j:Int)).toNat*m+m<=(gX enc cur++sp).toArray.size:=by
 have h2:(j+1)*m<=cur.length*m:=wg _ hj;all_goals grind [nW]
theorem ER:∀l:List Value,(∀u∈l,yn u=true)->aZ l=true:=
 by intro x;induction x<;>(intros;grind [aZ])
theorem ES:∀{l:List Value},aZ l=true->∀u∈l,yn u=true:=
 by intro x;induction x<;>(intros;grind [aZ])
theorem n8e{zs:Array Value}(h:aZ zs.toList=true)(n:Nat):aZ (Builtin.zeroCells zs n).toList=true:=by
 refine ER _ λu hu=>?_;simp only[Builtin.zeroCells,Array.toList_map,bW]at hu;obtain⟨i,hi,rfl⟩:=hu;have U5:i<n*zs.size:=by simpa using hi
 have hp:0<zs.size:=by
  rcases Nat.eq_zero_or_pos zs.size with h0|h0
  ·rw[h0]at U5;omega
  exact h0
 have hlt:i%zs.size<zs.size:=Nat.mod_lt _ hp;all_goals grind [ES]
theorem ET{w W2:World}{b:Nat}(h1:aH (· =b) w W)(h2:Below W.heap.size W W2):aH (· =b) w W2:=h1.trans (aH.of_below h2)
theorem nYc{α:Type}{cur:List α}{i:Nat}{x:α}(h:i<cur.length):(cur.set i x).take (i+1)=cur.take i++[x]:=by
 have h1:(cur.set i x)[i]? =some x:=by simp[h]
 rw[nq h1,List.take_set_of_le (ak i)]
theorem nQd{α:Type}{cur:List α}{i:Nat}{x:α}(h:i<j):(cur.set i x).drop j=cur.drop j:=List.drop_set_of_lt h
theorem YD{α:Type}{cur xs:List α}{x:α}(h:cur.drop j=xs.drop j)(hx:xs[j]? =some x):cur[j]? =some x/\cur.drop (j+1)=xs.drop (j+1):=by
 have h1:(cur.drop j)[0]? =(xs.drop j)[0]? :=by rw[h]
 rw[QT,QT,Nat.add_zero,hx]at h1;refine⟨h1,?_⟩;have:=congrArg (List.drop 1) h;rwa[List.drop_drop,List.drop_drop]at this
theorem nNk(p:Ch->Bool)(f:Nat)(cap:List Value)(az:ew prog f)(xs:List Ch)(hxl:xs.length<=100000)(b cp:Nat)(sp:List Value)(w:World)(hb:w.heap[b]? =some (aP mI 99 xs sp))(bM:(Rw.row b cp sp).Fit 5 xs)(hp:∀(j:Nat) (x:Ch),xs[j]? =some x->∀W,aH (· =b) w W->b<W.heap.size->Calls prog f (.agg (gC x)::cap).toArray W (aL W (.bool (p x)))):Calls prog 211 #[.slice (ao b) xs.length cp,.func (.func f) #[] cap.toArray] w (λe w'=>∃bT,e= .returned ((λr=>r.val (xs.filter (λx=> !p x)).length) (Rw.row b cp bT))/\aH (· =b) w w'/\(Rw.row b cp bT).Fit 5 (xs.filter (λx=> !p x))/\w'.heap[b]? =some (aP mI 99 (xs.filter (λx=> !p x)) bT)):=by
 have iq:=bM.1;have eG:=bM.2;have jl:=(aT.1 hb).1;refine nB (Gh.lent (· =b)) [(b,aP mI 99 xs sp)] (vs:=[_,_]) func211 rfl ntmps211 rfl (Dy hb) ?_;refine B 9 ?_;refine nv (α:=Int) (v:=λi:Int=>ab i) (Φ:=λ_ i _=>fb p xs i) call225 rfl rfl rfl (λW hS=>?_) ?_
 ·have yY:=hS.own (b,_) A0;have jr:ai gC 5 W.heap.size W (ao b) xs:=by
   obtain⟨a9,c9,e9,h9⟩:=(Rw.row b cp sp).sl (enc:=mI) (t:=99) (N:=W.heap.size) (w:=W) BK bM yY (ak _);exact zih
  exact nFe p f cap az xs aa W.heap.size (ao b) cp W (ak _) jr (λj x hx W2 hB=>hp j x hx W2 (ET ((hS.links w A0).mono (λk _ hk=>by rcases hk with hk|hk;(exact hk);(simp only[dy,eV,dm,dX,bX,dE,or_false]at hk;first|exact hk|(rcases hk with hk|hk;(exfalso;omega);exact hk)))) hB) (by have:=(aT.1 yY).1;have:=hB.size;omega))
 intro Wi i wi Ev Ew hi;have hbi:=Ev.lt (b,_) A0;have hzi:=Ew.size;refine B 5 ?_;rcases hi with⟨rfl,rm⟩|⟨k,x0,rfl,sH,U6,qA⟩
 ·refine B 2 ?_;refine KH ?_;exact bK (.inl rfl) results211 aX λW hS=>⟨sp,by rw[KG rm];rfl,hS.baseX A1 Nz,by rw[KG rm];exact bM,by rw[KG rm];exact hS.own _ A0⟩
 refine xp ?_;refine B 7 ?_;have vo:=nr sH;refine B 7 ?_;refine CJ.loop (α:=(Nat×List Ch)×Nat) (λp9=>[(0,.slice (ao b) xs.length cp),(1,.func (.func f) #[] cap.toArray),(5,ab (p9.1.1:Int)),(6,ab (p9.2:Int))]) (λp9=>[(b,aP mI 99 p9.1.2 sp)]) (λp9=>[w]) (λp9=>Gh.lent (· =b)) (λp9=>p9.1.1<p9.2/\p9.2<=xs.length/\p9.1.2.length=xs.length/\p9.1.2.take p9.1.1=(xs.take p9.2).filter (λx=> !p x)/\p9.1.2.drop p9.2=xs.drop p9.2) (λp9=>xs.length-p9.2) ((k,xs),k+1) ⟨by dsimp only;omega,by dsimp only;omega,rfl,by dsimp only;rw[QZ sH,if_pos U6,nrg qA,eb],rfl⟩ zR rfl rfl zI ?_;rintro⟨⟨i2,cur⟩,j⟩ ⟨uz,sF,lP,wh,yZ⟩;dsimp only at uz sF lP wh yZ ⊢;refine B 9 ?_;refine aG ?_ ?_
 ·intro ar;refine B 5 ?_;obtain⟨x,hx⟩:=ng xs j aa;obtain⟨vt,rn⟩:=YD yZ hx;refine B 4 ?_;refine rq (.agg (gC x)) (fj (i:=0) rfl isAgg99 sizeOf99 rfl (Q1 BK aa)) (va (Q0 (sp:=sp) BK vt)) ?_;refine B 1 ?_;refine yW ?_;intro b7 jN vN;refine B 7 ?_;refine zsd ?_;refine B 3 ?_;refine aG ?_ ?_
  ·intro aN;refine B 6 ?_;refine KI (enc:=mI) (m:=5) (i:=1) (j:=i2) (z:=x) rfl BK nZj sizeOf99 rfl rfl rfl zI aa rfl rfl ?_;exact zyg
  exact zTg
 intro ar;refine B 6 ?_;have y4:j=xs.length:=by omega
 have kp:cur.take i2=(xs.filter (λx=> !p x)):=by rw[wh,y4,vS]
 refine B 3 ?_;refine rq (.slice (some ⟨b,if cp=i2 then 0 else 0+i2*5,none⟩) (cur.drop i2).length (cp-i2)) (fZ (l:=i2) (h:=xs.length) underlying54 sizeOf99 rfl ⟨_,_,rfl,rfl⟩ rfl aa aa rfl) (by rw[BF,lP]) ?_;refine OJ.reH (H':=[(b,aP mI 99 (cur.take i2++cur.drop i2) sp)]) (by rw[AB]) ?_;refine AD (i:=0) rfl BK underlying54 zeroValue99 rfl (n8e rfl _) rfl rfl zpb ?_;intro Q2 y6;refine B 6 ?_;refine rq (.slice (ao b) (cur.take i2).length cp) (fE (h:=i2) underlying54 sizeOf99 rfl ⟨_,_,rfl,rfl⟩ aa) YE ?_;refine B 4 ?_;exact bK (.inl rfl) results211 aX λW hS=>⟨Q2,by rw[<-kp];rfl,hS.baseX A0 Nz,by rw[<-kp];exact⟨by rw[lb];omega,by rw[y6,BF,lb,eG,Nat.min_eq_left aa,lP,<-pK];congr 1;omega⟩,by rw[<-kp];exact hS.own _ A0⟩
theorem nXk(p:Mb->Bool)(f:Nat)(cap:List Value)(az:ew prog f)(xs:List Mb)(hxl:xs.length<=100000)(b cp:Nat)(sp:List Value)(w:World)(hb:w.heap[b]? =some (aP oE 131 xs sp))(bM:(Rw.row b cp sp).Fit 3 xs)(hp:∀(j:Nat) (x:Mb),xs[j]? =some x->∀W,aH (· =b) w W->b<W.heap.size->Calls prog f (.agg (qd x)::cap).toArray W (aL W (.bool (p x)))):Calls prog 158 #[.slice (ao b) xs.length cp,.func (.func f) #[] cap.toArray] w (λe w'=>∃bT,e= .returned ((λr=>r.val (xs.filter (λx=> !p x)).length) (Rw.row b cp bT))/\aH (· =b) w w'/\(Rw.row b cp bT).Fit 3 (xs.filter (λx=> !p x))/\w'.heap[b]? =some (aP oE 131 (xs.filter (λx=> !p x)) bT)):=by
 have iq:=bM.1;have eG:=bM.2;have jl:=(aT.1 hb).1;refine nB (Gh.lent (· =b)) [(b,aP oE 131 xs sp)] (vs:=[_,_]) func158 rfl ntmps158 rfl (Dy hb) ?_;refine B 9 ?_;refine nv (α:=Int) (v:=λi:Int=>ab i) (Φ:=λ_ i _=>fb p xs i) call118 rfl rfl rfl (λW hS=>?_) ?_
 ·have yY:=hS.own (b,_) A0;have jr:ai qd 3 W.heap.size W (ao b) xs:=by
   obtain⟨a9,c9,e9,h9⟩:=(Rw.row b cp sp).sl (enc:=oE) (t:=131) (N:=W.heap.size) (w:=W) BJ bM yY (ak _);exact zih
  exact nld p f cap az xs aa W.heap.size (ao b) cp W (ak _) jr (λj x hx W2 hB=>hp j x hx W2 (ET ((hS.links w A0).mono (λk _ hk=>by rcases hk with hk|hk;(exact hk);(simp only[dy,eV,dm,dX,bX,dE,or_false]at hk;first|exact hk|(rcases hk with hk|hk;(exfalso;omega);exact hk)))) hB) (by have:=(aT.1 yY).1;have:=hB.size;omega))
 intro Wi i wi Ev Ew hi;have hbi:=Ev.lt (b,_) A0;have hzi:=Ew.size;refine B 5 ?_;rcases hi with⟨rfl,rm⟩|⟨k,x0,rfl,sH,U6,qA⟩
 ·refine B 2 ?_;refine KH ?_;exact bK (.inl rfl) results158 aX λW hS=>⟨sp,by rw[KG rm];rfl,hS.baseX A1 Nz,by rw[KG rm];exact bM,by rw[KG rm];exact hS.own _ A0⟩
 refine xp ?_;refine B 7 ?_;have vo:=nr sH;refine B 7 ?_;refine CJ.loop (α:=(Nat×List Mb)×Nat) (λp9=>[(0,.slice (ao b) xs.length cp),(1,.func (.func f) #[] cap.toArray),(5,ab (p9.1.1:Int)),(6,ab (p9.2:Int))]) (λp9=>[(b,aP oE 131 p9.1.2 sp)]) (λp9=>[w]) (λp9=>Gh.lent (· =b)) (λp9=>p9.1.1<p9.2/\p9.2<=xs.length/\p9.1.2.length=xs.length/\p9.1.2.take p9.1.1=(xs.take p9.2).filter (λx=> !p x)/\p9.1.2.drop p9.2=xs.drop p9.2) (λp9=>xs.length-p9.2) ((k,xs),k+1) ⟨by dsimp only;omega,by dsimp only;omega,rfl,by dsimp only;rw[QZ sH,if_pos U6,nrg qA,eb],rfl⟩ zR rfl rfl zI ?_;rintro⟨⟨i2,cur⟩,j⟩ ⟨uz,sF,lP,wh,yZ⟩;dsimp only at uz sF lP wh yZ ⊢;refine B 9 ?_;refine aG ?_ ?_
 ·intro ar;refine B 5 ?_;obtain⟨x,hx⟩:=ng xs j aa;obtain⟨vt,rn⟩:=YD yZ hx;refine B 4 ?_;refine rq (.agg (qd x)) (fj (i:=0) rfl isAgg131 sizeOf131 rfl (Q1 BJ aa)) (va (Q0 (sp:=sp) BJ vt)) ?_;refine B 1 ?_;refine yW ?_;intro b7 jN vN;refine B 7 ?_;refine zsd ?_;refine B 3 ?_;refine aG ?_ ?_
  ·intro aN;refine B 6 ?_;refine KI (enc:=oE) (m:=3) (i:=1) (j:=i2) (z:=x) rfl BJ nnh sizeOf131 rfl rfl rfl zI aa rfl rfl ?_;exact zyg
  exact zTg
 intro ar;refine B 6 ?_;have y4:j=xs.length:=by omega
 have kp:cur.take i2=(xs.filter (λx=> !p x)):=by rw[wh,y4,vS]
 refine B 3 ?_;refine rq (.slice (some ⟨b,if cp=i2 then 0 else 0+i2*3,none⟩) (cur.drop i2).length (cp-i2)) (fZ (l:=i2) (h:=xs.length) underlying48 sizeOf131 rfl ⟨_,_,rfl,rfl⟩ rfl aa aa rfl) (by rw[BF,lP]) ?_;refine OJ.reH (H':=[(b,aP oE 131 (cur.take i2++cur.drop i2) sp)]) (by rw[AB]) ?_;refine AD (i:=0) rfl BJ underlying48 zeroValue131 rfl (n8e rfl _) rfl rfl zpb ?_;intro Q2 y6;refine B 6 ?_;refine rq (.slice (ao b) (cur.take i2).length cp) (fE (h:=i2) underlying48 sizeOf131 rfl ⟨_,_,rfl,rfl⟩ aa) YE ?_;refine B 4 ?_;exact bK (.inl rfl) results158 aX λW hS=>⟨Q2,by rw[<-kp];rfl,hS.baseX A0 Nz,by rw[<-kp];exact⟨by rw[lb];omega,by rw[y6,BF,lb,eG,Nat.min_eq_left aa,lP,<-pK];congr 1;omega⟩,by rw[<-kp];exact hS.own _ A0⟩
section
open Go.Proofs Go.Shelf Go.Lib Go.Sort
theorem KJ(a:Int)(W:World):Calls prog 169 #[ab a] W λe w'=>e= .returned (bN)/\w'=W:=by
 go_enter func169,ntmps169
 go_wp2
 go_ret
 simp
theorem AE(a b:Int)(W:World):Calls prog 103 #[ab a,ab b] W λe w'=>e= .returned (ab (de a b))/\w'=W:=by
 have key:∀v:Int,v=de a b->ab v=ab (de a b):=λv h=>by rw[h]
 go_enter func103,ntmps103
 go_wp2_with (go_at_call 169;refine(KJ _ _).mono ?_;rintro e w' ⟨rfl,rfl⟩)
 all_goals go_ret
 all_goals exact⟨congrArg Ending.returned (key _ (by unfold de;(repeat' split)<;>omega)),rfl⟩
theorem ahb(x y:Ch)(W:World):Calls prog 214 #[.agg (mI x).toArray,.agg (mI y).toArray] W λe w'=>e= .returned (ab (de x.dev y.dev))/\∃q y8,w'=grow (W.drewN q) y8:=by
 have mQ:=λW'=>AE x.dev y.dev W';generalize de x.dev y.dev=r at mQ ⊢;unfold mI
 go_enter func214,ntmps214
 go_wp2_with (go_at_call 103;refine(mQ _).mono ?_;rintro e w' ⟨rfl,rfl⟩)
 go_ret
 exact zUg
theorem ahc(x y:Mb)(W:World):Calls prog 161 #[.agg (oE x).toArray,.agg (oE y).toArray] W λe w'=>e= .returned (ab (de x.dev y.dev))/\∃q y8,w'=grow (W.drewN q) y8:=by
 have mQ:=λW'=>AE x.dev y.dev W';generalize de x.dev y.dev=r at mQ ⊢;unfold oE
 go_enter func161,ntmps161
 go_wp2_with (go_at_call 103;refine(mQ _).mono ?_;rintro e w' ⟨rfl,rfl⟩)
 go_ret
 exact zUg
instance:Inhabited Ch:=⟨⟨0,0,0,0,0⟩⟩
instance:Inhabited Mb:=⟨⟨0,0,0⟩⟩
def gM {α:Type} [Inhabited α] (cf:α->α->Int) (xs:List α):List α:=(pdq (ltOf cf) xs.toArray 0 xs.toArray.size (Lib.bitLen xs.toArray.size) true true).toList
theorem nih{α:Type}(k:α->Int):SWO (ltOf λx y:α=>de (k x) (k y)):=by
 refine⟨λx=>?_,λx y z h1 h2=>?_,λx y z h1 h2=>?_⟩<;>simp only[ltOf,n5i,decide_eq_true_eq,decide_eq_false_iff_not]at* <;>omega
theorem nPn{α:Type}(q:Array α)(n:Nat)(h:q.size=n):q.extract 0 n=q:=by subst h;simp
theorem U7{α:Type}[Inhabited α]{cf:α->α->Int}(hO:SWO (ltOf cf))(xs:List α):(gM cf xs).Perm xs:=by
 have h:=(pdq_sorts (ltOf cf) hO xs.toArray 0 xs.toArray.size (Lib.bitLen xs.toArray.size) true true (cR _) (ak _) (Or.inl rfl)).1;obtain⟨h1,_,h3⟩:=h;rw[nPn _ _ h1,nPn _ _ rfl]at h3;exact h3
theorem NW{α:Type}[Inhabited α]{cf:α->α->Int}(hO:SWO (ltOf cf))(xs:List α):(gM cf xs).length=xs.length:=(U7 hO xs).length_eq
end
abbrev BQ (xs:List Ch):List Ch:=gM (λx y=>de x.dev y.dev) xs
abbrev rp (xs:List Mb):List Mb:=gM (λx y=>de x.dev y.dev) xs
theorem n1f(xs:List Ch):(BQ xs).length=xs.length:=NW (nih (λx:Ch=>x.dev)) xs
theorem YF(xs:List Mb):(rp xs).length=xs.length:=NW (nih (λx:Mb=>x.dev)) xs
theorem YG{xs:List Ch}(hl:xs.length<=1000000){b cap:Nat}(bM:(Rw.row b cap sp).Fit 5 xs)(h:W.heap[b]? =some (aP mI 99 xs sp)):Calls prog 213 #[.slice (ao b) xs.length cap,.func (.func 214) #[] #[]] W (λe w'=>∃bT,e= .returned ((λ_=>.tuple #[]) (Rw.row b cap bT))/\aH (· =b) W w'/\(Rw.row b cap bT).Fit 5 (BQ xs)/\w'.heap[b]? =some (aP mI 99 (BQ xs) bT)):=by
 have hc:=Go.Proofs.AnyQ.slices_SortFunc_eq Go.Proofs.Tryz.laySX 5 isAgg99 sizeOf99 mI BK nZj (λx y=>de x.dev y.dev) (nih (λx:Ch=>x.dev)) 214 #[] b 0 cap xs.toArray W (Go.Proofs.enters_of func214 zN rfl) (λ_ _ _ _ x y=>ahb x y _) (nUi BK h) (aT.1 h).1 oN;change Calls prog 213 _ _ _ at hc;refine hc.mono ?_;rintro e w' ⟨rfl,n,os,rfl⟩;have hp:=YH (n:=n) (os:=os) BK h (ys:=BQ xs) (n1f xs);exact⟨sp,rfl,hp.1,by simp only[Rw.Fit,n1f];exact bM,hp.2⟩
theorem YI{xs:List Mb}(hl:xs.length<=1000000){b cap:Nat}(bM:(Rw.row b cap sp).Fit 3 xs)(h:W.heap[b]? =some (aP oE 131 xs sp)):Calls prog 160 #[.slice (ao b) xs.length cap,.func (.func 161) #[] #[]] W (λe w'=>∃bT,e= .returned ((λ_=>.tuple #[]) (Rw.row b cap bT))/\aH (· =b) W w'/\(Rw.row b cap bT).Fit 3 (rp xs)/\w'.heap[b]? =some (aP oE 131 (rp xs) bT)):=by
 have hc:=Go.Proofs.AnyQ.slices_SortFunc_eq Go.Proofs.Tryz.laySM 3 isAgg131 sizeOf131 oE BJ nnh (λx y=>de x.dev y.dev) (nih (λx:Mb=>x.dev)) 161 #[] b 0 cap xs.toArray W (Go.Proofs.enters_of func161 zN rfl) (λ_ _ _ _ x y=>ahc x y _) (nUi BJ h) (aT.1 h).1 oN;change Calls prog 160 _ _ _ at hc;refine hc.mono ?_;rintro e w' ⟨rfl,n,os,rfl⟩;have hp:=YH (n:=n) (os:=os) BJ h (ys:=rp xs) (YF xs);exact⟨sp,rfl,hp.1,by simp only[Rw.Fit,YF];exact bM,hp.2⟩
theorem nyh(f:Nat)(cap:List Value)(az:ew prog f)(w:World):Calls prog 211 #[aj,.func (.func f) #[] cap.toArray] w (aL w (aj)):=by
 refine eN func211 ntmps211 ?_;refine B 9 ?_;refine nv (α:=Int) (v:=λi:Int=>ab i) (Φ:=λ_ i _=>fb (λ_:Ch=>false) [] i) call225 rfl rfl rfl (λW hS=>nFe (λ_=>false) f cap az [] zI W.heap.size none 0 W (ak _) (.inl rfl) (λj x hx=>by simp at hx)) ?_;intro Wi i wi Ev Ew hi;have pY:i= -1:=by rcases hi with⟨h,_⟩|⟨k,x,_,hx,_⟩;(exact h);simp at hx
 subst pY;refine B 7 ?_;refine KH ?_;refine aF results211 rfl A1 ?_;rfl
theorem nSk(w:World):Calls prog 312 #[aj,ab 0,ab 0,.func (.func 214) #[] #[]] w (aL w (.tuple #[])):=by
 refine eN func312 ntmps312 ?_;refine B 8 ?_;refine zvd ?_;rintro j _;refine B 5 ?_;refine Eh ?_;exact cC (.inr rfl) results312 aX A0 trivial rfl
theorem nvo(l:Int)(w:World):Calls prog 273 #[aj,ab 0,ab 0,ab l,.func (.func 214) #[] #[]] w (aL w (.tuple #[])):=by
 refine eN func273 ntmps273 ?_;refine B 11 ?_;refine zwd ?_;rintro j _;refine PA ?_;refine B 9 ?_;refine call call312 rfl rfl rfl (λW hS=>nSk W) ?_;refine B 7 ?_;exact cC (.inl rfl) results273 aX A0 trivial rfl
theorem nSm(w:World):Calls prog 213 #[aj,.func (.func 214) #[] #[]] w (aL w (.tuple #[])):=by
 refine eN func213 ntmps213 ?_;refine zLf ?_;refine call call273 rfl rfl rfl (λW hS=>nvo _ W) ?_;refine B 1 ?_;exact cC (.inr rfl) results213 aX A0 trivial rfl
theorem nwh(f:Nat)(cap:List Value)(az:ew prog f)(w:World):Calls prog 158 #[aj,.func (.func f) #[] cap.toArray] w (aL w (aj)):=by
 refine eN func158 ntmps158 ?_;refine B 9 ?_;refine nv (α:=Int) (v:=λi:Int=>ab i) (Φ:=λ_ i _=>fb (λ_:Mb=>false) [] i) call118 rfl rfl rfl (λW hS=>nld (λ_=>false) f cap az [] zI W.heap.size none 0 W (ak _) (.inl rfl) (λj x hx=>by simp at hx)) ?_;intro Wi i wi Ev Ew hi;have pY:i= -1:=by rcases hi with⟨h,_⟩|⟨k,x,_,hx,_⟩;(exact h);simp at hx
 subst pY;refine B 7 ?_;refine KH ?_;refine aF results158 rfl A1 ?_;rfl
theorem nOk(w:World):Calls prog 276 #[aj,ab 0,ab 0,.func (.func 161) #[] #[]] w (aL w (.tuple #[])):=by
 refine eN func276 ntmps276 ?_;refine B 8 ?_;refine zvd ?_;rintro j _;refine B 5 ?_;refine Eh ?_;exact cC (.inr rfl) results276 aX A0 trivial rfl
theorem nMo(l:Int)(w:World):Calls prog 226 #[aj,ab 0,ab 0,ab l,.func (.func 161) #[] #[]] w (aL w (.tuple #[])):=by
 refine eN func226 ntmps226 ?_;refine B 11 ?_;refine zwd ?_;rintro j _;refine PA ?_;refine B 9 ?_;refine call call276 rfl rfl rfl (λW hS=>nOk W) ?_;refine B 7 ?_;exact cC (.inl rfl) results226 aX A0 trivial rfl
theorem nXm(w:World):Calls prog 160 #[aj,.func (.func 161) #[] #[]] w (aL w (.tuple #[])):=by
 refine eN func160 ntmps160 ?_;refine zLf ?_;refine call call226 rfl rfl rfl (λW hS=>nMo _ W) ?_;refine B 1 ?_;exact cC (.inr rfl) results160 aX A0 trivial rfl
theorem n6l:BQ []=[]:=lN (n1f [])
theorem EU:rp []=[]:=lN (YF [])
def mS (au:Int) (l:List Ch):List Ch:=BQ (l.filter λx=> !rl au x)
theorem n4b(au:Int)(l:List Ch)(hxl:l.length<=100000)(N:Nat)(a:Option Addr)(cp:Nat)(w:World)(hN:N<=w.heap.size)(aJ:ai gC 5 N w a l):Calls prog 144 #[ab au,.slice a l.length cp] w (aD w mI 5 99 (mS au l) id):=by
 refine eN func144 ntmps144 ?_;refine B 2 ?_;refine yX ?_;intro b2 w2 di bV ff dB dx;refine B 6 ?_;refine It (enc:=mI) (m:=5) (t:=99) (xs:=l) (v:=id) (first:=[]) (cap:=[]) rfl call138 rfl rfl rfl (λW hS=>nbl l hxl N a cp W cM (aJ.up (ak _) hS.sm)) ?_;intro r aK ah;have bG:=Rw.ge_of aK A1;refine B 1 ?_;refine D5 (r:=r) (enc:=mI) (m:=5) (t:=99) (xs:=l) (ys:=l.filter λx=> !rl au x) (H0:=[]) (H1:=[]) (v:=λr=>r.val (l.filter λx=> !rl au x).length) rfl call211 rfl rfl rfl (λhr W hS=>?_) (λb cap sp hr W hS h=>?_) ?_
 ·subst hr;have h0:l=[]:=ah;subst h0;exact(nyh 212 [ptr b2 0] call212 W).mono λe w2 h=>⟨h.1,rfl,h.2⟩
 ·subst hr;have hbA:w2.heap.size<=b:=(aK.elim (λh=>h.elim) id:ae _ b).not (w:=w2) A0;exact nNk (rl au) 212 [ptr b2 0] call212 l aa b cap sp W h ah (λj x hx W2 hK ahd=>ngp au b2 x W2 (by have h2:=(hS.links w2 A0).size;rw[hK.block b2 aa aa];exact hS.old A0 di bV zz))
 intro r2 eG ly qW jP;have iI:=ly aK;have eu:=qW _ bG;refine B 6 ?_;refine D5 (r:=r2) (enc:=mI) (m:=5) (t:=99) (xs:=l.filter λx=> !rl au x) (ys:=mS au l) (H0:=[]) (H1:=[]) (v:=λ_=>.tuple #[]) rfl call213 rfl rfl rfl (λhr W hS=>?_) (λb cap sp hr W hS h=>?_) ?_
 ·subst hr;have h0:(l.filter λx=> !rl au x)=[]:=eG;unfold mS;rw[h0];exact(nSm W).mono λe w2 h=>⟨h.1,n6l,h.2⟩
 ·subst hr;exact YG (dR (Q3 _ _) aa) eG h
 intro r3 mD uw D6 D7;have J2:=uw iI;have pH:=D6 _ eu;refine B 9 ?_;have Aq:(l.filter λx=> !rl au x).length=(mS au l).length:=by unfold mS;rw[n1f]
 exact nP (H0:=[]) (H1:=[]) (r:=r3) (.inl rfl) results144 aX A1 (by rw[eb];exact Rw.over pH) (by show r2.val _=r3.val _;rw[D7,Aq]) mD pH zI
def vw:Gp:=⟨0,0,λ_=>0,[],[]⟩
def gI:Gv:=⟨vw,none,0,none,0⟩
theorem YJ(N:Nat)(w:World):bS N w gI:=⟨.inl rfl,.inl rfl,by simp[gI,vw],by simp[gI,vw]⟩
def CF (w:World) (g:Gp) (e:Int):Ending->World->Prop:=cK w (λX:Gv=>.tuple #[.agg (bD X),ab e]) (λX w'=>X.g=g/\bS w'.heap.size w' X/\(∀q,X.ma=some q->w.heap.size<=q.block)/\(∀q,X.na=some q->w.heap.size<=q.block))
def kR (g:Gp) (c:Cm):Bool:=decide (c.folder=g.folder)&&decide (c.epoch=g.epoch+1)&&mw c.par g.last
noncomputable def mT (ns:List Nd) (d:Int):Int:=if jQ ns=0 then(if(bU (dP ns) (512+d)).isSome=true then 0 else 200)else 210
noncomputable def bY (ns:List Nd) (d:Int) (l:List Int):List Nd:=if jQ ns=0/\(bU (dP ns) (512+d)).isSome=true then p7 (qY (dP ns) d l)else[]
theorem nng(ns:List Nd)(hn:ns.length<=100000)(N:Nat)(a:Option Addr)(cp:Nat)(w:World)(hN:N<=w.heap.size)(aJ:ai gb 2 N w a ns)(d:Int)(hd:ee d)(l:List Int)(mG:∀y∈l,eg y)(hl:l.length<=1000)(NP:Nat)(ap:Option Addr)(gT:Nat)(mH:ai encI 1 NP w ap l)(CB:NP<=w.heap.size)(Ql:l.length=10)(yA:ns.length<90000):Calls prog 154 #[.agg #[.slice a ns.length cp],ab d,.slice ap l.length gT] w (aD w gS 2 240 (bY ns d l) (λs=>.tuple #[.agg #[s],ab (mT ns d)])):=by
 rcases nch ns with h|h
 ·by_cases h2:(bU (dP ns) (512+d)).isSome=true
  ·have e1:bY ns d l=p7 (qY (dP ns) d l):=by unfold bY;rw[if_pos ⟨h,h2⟩]
   have e2:mT ns d=0:=by unfold mT;rw[if_pos h,if_pos h2]
   rw[e1,e2];exact Er ns hn N a cp w hN aJ h d hd h2 l mG hl NP ap gT mH CB Ql yA
  have e1:bY ns d l=[]:=by unfold bY;rw[if_neg λg=>h2 g.2]
  have e2:mT ns d=200:=by unfold mT;rw[if_pos h,if_neg h2]
  rw[e1,e2];exact Ep ns hn N a cp w hN aJ h d hd Kq l mG hl NP ap gT mH CB
 have e1:bY ns d l=[]:=by unfold bY;rw[if_neg λg=>by have:=g.1;omega]
 have e2:mT ns d=210:=by unfold mT;rw[if_neg aa]
 rw[e1,e2];exact nqp ns hn N a cp w hN aJ h d l mG hl NP ap gT mH CB
theorem EV(hZ:FxOk Z)(G:Gv)(c:Cm)(dC:bO c)(N:Nat)(w:World)(hN:N<=w.heap.size)(hG:bS N w G)(hC:du N w c)(hg:Glb w)(hv:dU G.g=false):Calls prog 83 #[.agg (bD G),.agg (cG c)] w (CF w vw 1):=by
 refine KK ?_;refine yV ?_;intro b2 w2 di bV ff dB dx;refine yX ?_;intro b3 w3 cZ cu fC ez eP;refine B 1 ?_;refine yW ?_;intro b4 ji jj;refine B 6 ?_;refine ay (.agg (bD G)) ?_;refine zie ?_;refine B 12 ?_;exact YK
theorem EW(hZ:FxOk Z)(G:Gv)(c:Cm)(dC:bO c)(N:Nat)(w:World)(hN:N<=w.heap.size)(hG:bS N w G)(hC:du N w c)(hg:Glb w)(hv:dU G.g=true)(jS:sM c=220):Calls prog 83 #[.agg (bD G),.agg (cG c)] w (CF w vw 220):=by
 refine KK ?_;refine yV ?_;intro b2 w2 di bV ff dB dx;refine yX ?_;intro b3 w3 cZ cu fC ez eP;refine B 1 ?_;refine yW ?_;intro b4 ji jj;refine Yi ?_;refine B 8 ?_;refine ay (.agg (cG c)) ?_;refine call call149 rfl rfl rfl (λW hS=>by rw[<-jS];exact ntb c dC.few N W cM (hC.up (ak _) hS.sm)) (v:=ab 220) ?_;refine B 6 ?_;refine ay cY ?_;refine B 13 ?_;exact YK
theorem Q4{c:Cm}(hf:kR g c=false)(h1:c.folder=g.folder)(h2:c.epoch=g.epoch+1):mw c.par g.last=false:=by grind [mw,kR]
theorem U8{c:Cm}(hf:kR g c=true):c.folder=g.folder/\c.epoch=g.epoch+1/\mw c.par g.last=true:=by grind [kR]
theorem EX(hZ:FxOk Z)(G:Gv)(c:Cm)(dC:bO c)(N:Nat)(w:World)(hN:N<=w.heap.size)(hG:bS N w G)(hC:du N w c)(hg:Glb w)(hv:dU G.g=true)(jS:sM c=0)(hf:kR G.g c=false):Calls prog 83 #[.agg (bD G),.agg (cG c)] w (CF w vw 220):=by
 have r7:=Aw.1 hv;have U9:=r7.1.2.2.1;have uO:=r7.1.2.1;have fy:=QL.1 jS;have BR:=fy.e1;have BS:=fy.e2;refine KK ?_;refine yV ?_;intro b2 w2 di bV ff dB dx;refine yX ?_;intro b3 w3 cZ cu fC ez eP;refine B 1 ?_;refine yW ?_;intro b4 ji jj;refine Yi ?_;refine B 8 ?_;refine z2e ?_;refine B 6 ?_;refine Eh ?_;by_cases h1:¬c.folder=G.g.folder
 ·refine B 5 ?_;refine ay cY ?_;refine B 27 ?_;exact YK
 by_cases h2:¬c.epoch=G.g.epoch+1
 ·refine B 5 ?_;refine Im ?_;refine ay cY ?_;refine B 20 ?_;exact YK
 have h3:=Q4 hf aa aa;refine B 5 ?_;refine Im ?_;refine Im ?_;refine rq cY (eF xn zA nM rfl rfl rfl) (congrArg (λq=>Value.bool (!q)) h3) ?_;refine B 13 ?_;exact YK
theorem EY(hZ:FxOk Z)(G:Gv)(c:Cm)(dC:bO c)(N:Nat)(w:World)(hN:N<=w.heap.size)(hG:bS N w G)(hC:du N w c)(hg:Glb w)(hv:dU G.g=true)(jS:sM c=0)(hf:kR G.g c=true)(hne:fe G.g c.author c.chs=221):Calls prog 83 #[.agg (bD G),.agg (cG c)] w (CF w vw 221):=by
 have r7:=Aw.1 hv;have U9:=r7.1.2.2.1;have uO:=r7.1.2.1;have fy:=QL.1 jS;have BR:=fy.e1;have BS:=fy.e2;obtain⟨h1,h2,h3⟩:=U8 hf;have sE:=fy.au;have Ar:=dC.few.chs;refine KK ?_;refine yV ?_;intro b2 w2 di bV ff dB dx;refine yX ?_;intro b3 w3 cZ cu fC ez eP;refine B 1 ?_;refine yW ?_;intro b4 ji jj;refine Yi ?_;refine B 8 ?_;refine z2e ?_;refine B 6 ?_;refine ay bN ?_;refine B 12 ?_;refine Im ?_;refine Im ?_;refine rq bN (eF xn zA nM rfl rfl rfl) (congrArg (λq=>Value.bool (!q)) h3) ?_;refine B 8 ?_;refine ay (.agg (bD G)) ?_;refine B 4 ?_;refine nG (enc:=sK) (m:=4) (t:=110) (xs:=(gw G.g c.author c.chs)) (v:=λs=>.tuple #[s,ab 221]) (first:=[]) (cap:=[]) rfl call134 rfl rfl rfl US (λW hS=>by rw[<-hne];exact nzb G N W cM (hG.up (ak _) hS.sm) c.chs aa c.ca c.cc (hC.chs.up (ak _) hS.sm) c.author sE) ?_;intro Wn an cn wn sL Ay ru ry;have wj:=sL.sizes;replace wj:=yb wj;have UT:=Ay.size;have tI:=sL.under;replace tI:=yg tI;refine B 11 ?_;refine ay cY ?_;refine B 13 ?_;exact zCh
theorem nGm{au:Int}{l:List Ch}(hv:dU g=true)(h:fe g au l=0):jL l=true/\mJ g au l=true/\gw g au l=kM (aW g.ns l) au:=by grind [fe,Ax,gw]
noncomputable def uP (g:Gp) (c:Cm):Bool:=kQ ID c.bxs (gw g c.author c.chs)
def wo (c:Cm):Bool:=kQ U2 c.wes (mS c.author c.chs)
noncomputable def y9 (Z:Fx) (g:Gp) (c:Cm):Bool:=oT Z (kP g c.author c.chs) (cx (mP Z c)) c.sr c.ss
theorem KL(hZ:FxOk Z)(G:Gv)(c:Cm)(dC:bO c)(N:Nat)(w:World)(hN:N<=w.heap.size)(hG:bS N w G)(hC:du N w c)(hg:Glb w)(hv:dU G.g=true)(jS:sM c=0)(hf:kR G.g c=true)(hne:fe G.g c.author c.chs=0)(hb:uP G.g c=false):Calls prog 83 #[.agg (bD G),.agg (cG c)] w (CF w vw 220):=by
 have r7:=Aw.1 hv;have U9:=r7.1.2.2.1;have uO:=r7.1.2.1;have fy:=QL.1 jS;have BR:=fy.e1;have BS:=fy.e2;obtain⟨h1,h2,h3⟩:=U8 hf;have sE:=fy.au;have Ar:=dC.few.chs;have Dz:=dC.few.bxs;have UU:=dC.few.wes;refine KK ?_;refine yV ?_;intro b2 w2 di bV ff dB dx;refine yX ?_;intro b3 w3 cZ cu fC ez eP;refine B 1 ?_;refine yW ?_;intro b4 ji jj;refine YL ?_;intro Wn an cn wn sL Ay ru ry;have wj:=sL.sizes;replace wj:=yb wj;have UT:=Ay.size;have tI:=sL.under;replace tI:=yg tI;refine YM ?_;refine eA 15 (pb:=by exact zU 4 (k:=by exact aU (nf call152 rfl rfl (λW hS _=>by have h9:=YA c.bxs aa W.heap.size c.ba c.bc W (ak _) (hC.bxs.up cM hS.sm) (gw G.g c.author c.chs) an cn (ru.to hS A0 (ak _) (λb off e=>.inr YN));rw[show kQ ID c.bxs (gw G.g c.author c.chs)=false from hb]at h9;exact h9) (λ_=>rfl)) zT)) (sp:=(_::_::_::_::(some (bN))::(some cY)::_)) (k:=?_);refine B 15 ?_;exact zCh
theorem KM(hZ:FxOk Z)(G:Gv)(c:Cm)(dC:bO c)(N:Nat)(w:World)(hN:N<=w.heap.size)(hG:bS N w G)(hC:du N w c)(hg:Glb w)(hv:dU G.g=true)(jS:sM c=0)(hf:kR G.g c=true)(hne:fe G.g c.author c.chs=0)(hb:uP G.g c=true)(hw:wo c=false):Calls prog 83 #[.agg (bD G),.agg (cG c)] w (CF w vw 220):=by
 have r7:=Aw.1 hv;have U9:=r7.1.2.2.1;have uO:=r7.1.2.1;have fy:=QL.1 jS;have BR:=fy.e1;have BS:=fy.e2;obtain⟨h1,h2,h3⟩:=U8 hf;have sE:=fy.au;have Ar:=dC.few.chs;have Dz:=dC.few.bxs;have UU:=dC.few.wes;refine KK ?_;refine yV ?_;intro b2 w2 di bV ff dB dx;refine yX ?_;intro b3 w3 cZ cu fC ez eP;refine B 1 ?_;refine yW ?_;intro b4 ji jj;refine YL ?_;intro Wn an cn wn sL Ay ru ry;have wj:=sL.sizes;replace wj:=yb wj;have UT:=Ay.size;have tI:=sL.under;replace tI:=yg tI;refine YM ?_;refine eS 15 13 [] (pb:=by exact zU 4 (k:=by exact aU (nf call152 rfl rfl (λW hS _=>by have h9:=YA c.bxs aa W.heap.size c.ba c.bc W (ak _) (hC.bxs.up cM hS.sm) (gw G.g c.author c.chs) an cn (ru.to hS A0 (ak _) (λb off e=>.inr YN));rw[show kQ ID c.bxs (gw G.g c.author c.chs)=true from hb]at h9;exact h9) (λ_=>rfl)) zT)) (sp:=(_::_::_::_::(some (cY))::(some bN)::_)) (h:=?_);intro _ _ hk;refine zZc ?_;intro W_ aw cw ww qh vx wt rz;have za:=(qh.links wn A0).size;have wu:∀q,aw=some q->wn.heap.size<=q.block:=λq e=>dR za (rz q e);refine zE ?_;refine call call153 rfl rfl rfl (λW hS=>by have h9:=njd c.wes aa W.heap.size c.wa c.wc W (ak _) (hC.wes.up cM hS.sm) (mS c.author c.chs) aw cw (wt.to hS A0 (ak _) (λb off e=>.inr zEb));rw[show kQ U2 c.wes (mS c.author c.chs)=false from hw]at h9;exact h9) (v:=.bool false) ?_
 refine ay cY ?_;refine B 13 ?_;exact bK (.inl rfl) results83 aX λW hS=>⟨gI,rfl,hS.base A4 zB,rfl,YJ _ _,λq h=>zQ,λq h=>zQ⟩
theorem nUj{au:Int}{l:List Ch}(h:mJ g au l=true)(h0:0<=g.epoch)(hm:ij g.ms au=false):0<l.length:=by grind [mJ]
theorem EZ(hZ:FxOk Z)(G:Gv)(c:Cm)(dC:bO c)(N:Nat)(w:World)(hN:N<=w.heap.size)(hG:bS N w G)(hC:du N w c)(hg:Glb w)(hv:dU G.g=true)(jS:sM c=0)(hf:kR G.g c=true)(hne:fe G.g c.author c.chs=0)(hb:uP G.g c=true)(hw:wo c=true)(IE:y9 Z G.g c=false):Calls prog 83 #[.agg (bD G),.agg (cG c)] w (CF w vw 222):=by
 have r7:=Aw.1 hv;have U9:=r7.1.2.2.1;have uO:=r7.1.2.1;have fy:=QL.1 jS;have BR:=fy.e1;have BS:=fy.e2;obtain⟨h1,h2,h3⟩:=U8 hf;have sE:=fy.au;have Ar:=dC.few.chs;have Dz:=dC.few.bxs;have UU:=dC.few.wes;have hg4:=hg.lt;obtain⟨xz,jB,vZ⟩:=nGm hv hne;refine KK ?_;refine yV ?_;intro b2 w2 di bV ff dB dx;refine yX ?_;intro b3 w3 cZ cu fC ez eP;refine B 1 ?_;refine yW ?_;intro b4 ji jj;refine YL ?_;intro Wn an cn wn sL Ay ru ry;have wj:=sL.sizes;replace wj:=yb wj;have UT:=Ay.size;have tI:=sL.under;replace tI:=yg tI;refine YM ?_;refine eS 15 13 [] (pb:=by exact zU 4 (k:=by exact aU (nf call152 rfl rfl (λW hS _=>by have h9:=YA c.bxs aa W.heap.size c.ba c.bc W (ak _) (hC.bxs.up cM hS.sm) (gw G.g c.author c.chs) an cn (ru.to hS A0 (ak _) (λb off e=>.inr YN));rw[show kQ ID c.bxs (gw G.g c.author c.chs)=true from hb]at h9;exact h9) (λ_=>rfl)) zT)) (sp:=(_::_::_::_::(some (cY))::(some bN)::_)) (h:=?_);intro _ _ hk;refine zZc ?_;intro W_ aw cw ww qh vx wt rz;have za:=(qh.links wn A0).size;have wu:∀q,aw=some q->wn.heap.size<=q.block:=λq e=>dR za (rz q e);refine zYc ?_;refine Ue ?_;refine eS 10 7 [] (pb:=by exact zU 5 (k:=by exact aU (nf call135 rfl rfl (λW hS _=>nHc G N W cM (hG.up (ak _) hS.sm) c.chs aa c.ca c.cc (hC.chs.up (ak _) hS.sm) c.author (λhm=>nUj jB uO hm)) (λ_=>rfl)) zT)) (sp:=[some (.agg (bD G)),_,_,_,some (.slice c.ca c.chs.length c.cc),some (ab (kP G.g c.author c.chs)),some (.agg (cG c)),_,_,some (.agg #[ab c.sr,ab c.ss])]) (h:=?_)
 intro _ _ hk;refine z5c ?_;rintro W_ bm wm qh vx ⟨za,oB⟩;try dsimp only at za oB
 have BT:=(qh.links wn A1).size;have tK:wn.heap.size<=bm:=by omega
 refine zE ?_;refine call call75 rfl rfl rfl (λW hS=>by have h9:=nRc hZ (kP G.g c.author c.chs) c.sr c.ss (cx (mP Z c)) bm 0 32 (by rw[nR];decide) W (bZ.dg (hS.old A0 oB zJ zz) (hZ.byt _ _)) (hg.old hS A5 zH zD);rw[nR,show oT Z (kP G.g c.author c.chs) (cx (mP Z c)) c.sr c.ss=false from IE]at h9;exact h9) (v:=.bool false) ?_;refine XO ?_;exact bK (.inl rfl) results83 aX λW hS=>⟨gI,rfl,hS.base A5 zB,rfl,YJ _ _,λq h=>zQ,λq h=>zQ⟩
structure Cd where
 at_:Int
 c:Cm
 id:Nat->Int
 since:Int
 x:Gv
def iS (d:Cd):Array Value:=(ab d.at_::ab d.c.folder::ab d.c.epoch::lU d.c.par (ab d.c.author:: .slice d.c.ca d.c.chs.length d.c.cc:: .slice d.c.pa d.c.path.length d.c.pc:: .slice d.c.ba d.c.bxs.length d.c.bc:: .slice d.c.wa d.c.wes.length d.c.wc::lU d.c.conf (ab d.c.sr::ab d.c.ss::lU d.id (ab d.since::ab d.x.g.folder::ab d.x.g.epoch::lU d.x.g.last [.slice d.x.ma d.x.g.ms.length d.x.mc,.slice d.x.na d.x.g.ns.length d.x.nc])))).toArray
def rmN (l:List Ch):Nat:=(l.filter λx=>decide (x.kind=2)).length
def ahi (dv:Int) (y:Ch):Bool:=decide (y.kind=2/\y.dev=dv)
theorem nQn{α:Type}{p:α->Bool}:∀{xs:List α} {j:Nat} {x:α},gu p xs j->xs[j]? =some x->p x=true->xs.find? p=some x
 | [],j,x,_,hx,_=>by simp at hx
 |y::xs,0,x,_,hx,hp=>by
  simp only[Js,vM]at hx;subst hx;simp[hp]
 |y::xs,j+1,x,h,hx,hp=>by
  have h0:p y=false:=h 0 y aa rfl;simp only[Ij]at hx;rw[List.find?_cons,h0];exact nQn (λi z hi hz=>h (i+1) z aa (by simpa using hz)) hx hp
theorem nbp{α:Type}{p:α->Bool}{xs:List α}(h:gu p xs j)(hj:¬j<xs.length):xs.find? p=none:=by
 have:=nnd h hj;all_goals grind
def BU (ms:List Mb) (dv:Int):Int:=((ms.find? λm=>decide (m.dev=dv)).map (·.since)).getD 0
theorem E1{ms:List Mb}{dv:Int}{x:Mb}(h:gu (λm:Mb=>decide (m.dev=dv)) ms j)(hx:ms[j]? =some x)(hp:x.dev=dv):ab x.since=ab (BU ms dv):=by unfold BU;rw[nQn h hx (by simpa using hp)];rfl
theorem NY{ms:List Mb}{dv:Int}(h:gu (λm:Mb=>decide (m.dev=dv)) ms j)(hj:¬j<ms.length):ab 0=ab (BU ms dv):=by unfold BU;rw[nbp h hj];rfl
theorem KN(G:Gv)(N:Nat)(w:World)(hN:N<=w.heap.size)(hG:bS N w G)(dv:Int):Calls prog 108 #[.agg (bD G),ab dv] w (aL w (ab (BU G.g.ms dv))):=by
 have hmn:=hG.mn;have Ef:=hG.ms;refine eN func108 ntmps108 ?_;refine B 2 ?_;refine yX ?_;intro b2 w2 di bV ff dB dx;refine B 13 ?_;refine CJ.lp (α:=Nat) [1,2,9] (λj=>[(8,.slice G.ma G.g.ms.length G.mc),(10,ab (j:Int))]) (λj=>[]) (λj=>j<=G.g.ms.length/\gu (λm:Mb=>decide (m.dev=dv)) G.g.ms j) (λj=>G.g.ms.length-j) 0 ⟨cR _,λi x hi=>absurd hi aa⟩ ?_;rintro j ⟨hj,dZ⟩;refine B 6 ?_;refine aG ?_ ?_
 ·intro ar;refine B 5 ?_;obtain⟨bo,oo,cs0,to,fV,im,fP,cJ,aV⟩:=Ef.get aa;obtain⟨x,hx⟩:=ng G.g.ms j aa;rw[im];refine B 2 ?_;refine ay (.agg (qd x)) ?_;refine B 1 ?_;refine yW ?_;intro b6 jO qy;refine B 11 ?_;refine aG ?_ ?_
  ·intro aN;refine B 13 ?_;refine cC (.inl rfl) results108 aX A1 zB ?_;first|exact E1 dZ hx eE|exact NY dZ aa
  intro aN;refine xr ?_;refine ag (j+1) ⟨by omega,dZ.next hx (by simpa using ‹¬x.dev=dv›)⟩
 intro ar;refine B 11 ?_;refine aF results108 rfl A1 ?_;first|exact E1 dZ hx eE|exact NY dZ aa
theorem E2(hZ:FxOk Z)(G:Gv)(c:Cm)(dC:bO c)(N:Nat)(w:World)(hN:N<=w.heap.size)(hG:bS N w G)(hC:du N w c)(hg:Glb w)(hv:dU G.g=true)(jS:sM c=0)(hf:kR G.g c=true)(hne:fe G.g c.author c.chs=0)(hb:uP G.g c=true)(hw:wo c=true)(IE:y9 Z G.g c=true)(e:Int)(hre:mT (aW G.g.ns c.chs) c.author=e)(he:¬e=0):Calls prog 83 #[.agg (bD G),.agg (cG c)] w (CF w vw e):=by
 have r7:=Aw.1 hv;have U9:=r7.1.2.2.1;have uO:=r7.1.2.1;have fy:=QL.1 jS;have BR:=fy.e1;have BS:=fy.e2;obtain⟨h1,h2,h3⟩:=U8 hf;have sE:=fy.au;have Ar:=dC.few.chs;have Dz:=dC.few.bxs;have UU:=dC.few.wes;have hg4:=hg.lt;obtain⟨xz,jB,vZ⟩:=nGm hv hne;obtain⟨qB,Aq⟩:=nYi xz;have Uv:=hG.nn;have NK:=QF c.chs G.g.ns;obtain⟨T,hT⟩:∃T,aW G.g.ns c.chs=T:=⟨_,rfl⟩;rw[hT]at hre NK;have iH:=fy.pl;have mG:∀y∈c.path,eg y:=λy hy=>by obtain⟨i,hi⟩:=kA.1 hy;exact fy.path i y hi
 refine KK ?_;refine yV ?_;intro b2 w2 di bV ff dB dx;refine yX ?_;intro b3 w3 cZ cu fC ez eP;refine B 1 ?_;refine yW ?_;intro b4 ji jj;refine YL ?_;intro Wn an cn wn sL Ay ru ry;have wj:=sL.sizes;replace wj:=yb wj;have UT:=Ay.size;have tI:=sL.under;replace tI:=yg tI;refine YM ?_;refine eS 15 13 [] (pb:=by exact zU 4 (k:=by exact aU (nf call152 rfl rfl (λW hS _=>by have h9:=YA c.bxs aa W.heap.size c.ba c.bc W (ak _) (hC.bxs.up cM hS.sm) (gw G.g c.author c.chs) an cn (ru.to hS A0 (ak _) (λb off e=>.inr YN));rw[show kQ ID c.bxs (gw G.g c.author c.chs)=true from hb]at h9;exact h9) (λ_=>rfl)) zT)) (sp:=(_::_::_::_::(some (cY))::(some bN)::_)) (h:=?_);intro _ _ hk;refine zZc ?_;intro W_ aw cw ww qh vx wt rz;have za:=(qh.links wn A0).size;have wu:∀q,aw=some q->wn.heap.size<=q.block:=λq e=>dR za (rz q e);refine zYc ?_;refine Ue ?_;refine eS 10 7 [] (pb:=by exact zU 5 (k:=by exact aU (nf call135 rfl rfl (λW hS _=>nHc G N W cM (hG.up (ak _) hS.sm) c.chs aa c.ca c.cc (hC.chs.up (ak _) hS.sm) c.author (λhm=>nUj jB uO hm)) (λ_=>rfl)) zT)) (sp:=[some (.agg (bD G)),_,_,_,some (.slice c.ca c.chs.length c.cc),some (ab (kP G.g c.author c.chs)),some (.agg (cG c)),_,_,some (.agg #[ab c.sr,ab c.ss])]) (h:=?_);intro _ _ hk
 refine z5c ?_;rintro W_ bm wm qh vx ⟨za,oB⟩;try dsimp only at za oB
 have BT:=(qh.links wn A1).size;have tK:wn.heap.size<=bm:=by omega
 refine zE ?_;refine zqd ?_;refine Im ?_;refine eA 6 (pb:=by exact zU 5 (k:=by exact aU (nf call23 rfl rfl (λW hS _=>Yy hZ c dC N W cM (hC.up (ak _) hS.sm) (hg.old hS A5 zH zD)) (λ_=>rfl)) (vK rfl))) (sp:=[_,_,_,_,some (.agg (cG c)),some (.agg (dg (aB Z c)))]) (k:=?_);refine zFf ?_;have BB:=(aT.1 oB).1;refine zUc ?_;refine CJ.chn 14 [3,8,9,10,13] [some (.agg (bD G)),_,some (.slice c.ca c.chs.length c.cc),none,_,_,_,some (.slice c.pa c.path.length c.pc),none,none,none,some (ab e),_,none] (λcv L' H'=>let tM:ad:=[(b4,oC (bD (⟨⟨G.g.folder,c.epoch,aB Z c,[],[]⟩,none,0,none,0⟩:Gv)) 53)];let dY:ad:=tM;let iL:List World:=[wm,ww,wn,w3,w2,w];match cv with| []=>L'=iL/\H'=dY| [v1]=>∃(ta:Option Addr) (tc:Nat) (wr:World),v1= .agg #[.slice ta T.length tc]/\L'=wr::iL/\H'=dY/\ai gb 2 wr.heap.size wr ta T/\(∀b off,ta=some ⟨b,off,none⟩->T=[]\/b<N\/wm.heap.size<=b)/\wm.heap.size<=wr.heap.size| [v1,v2]=>∃(ta:Option Addr) (tc:Nat) (wr:World) (r8:Rw),v1= .agg #[.slice ta T.length tc]/\v2= .tuple #[.agg #[r8.val (bY T c.author c.path).length],ab e]/\L'=wr::iL/\H'=tM++(r8.hp gS 240 (bY T c.author c.path)++[])/\ai gb 2 wr.heap.size wr ta T/\(∀b off,ta=some ⟨b,off,none⟩->T=[]\/b<N\/wm.heap.size<=b)/\wm.heap.size<=wr.heap.size/\Rw.Fr Gh.no [wr,wm,ww,wn,w3,w2,w] r8/\r8.Fit 2 (bY T c.author c.path)/\r8.ge wr.heap.size| [v1,v2,v3]=>∃(ta:Option Addr) (tc:Nat) (wr:World) (r8:Rw),v1= .agg #[.slice ta T.length tc]/\v2= .tuple #[.agg #[r8.val (bY T c.author c.path).length],ab e]/\v3= .tuple #[.agg #[r8.val (bY T c.author c.path).length],ab e]/\L'=wr::iL/\H'=tM++(r8.hp gS 240 (bY T c.author c.path)++[])/\ai gb 2 wr.heap.size wr ta T/\(∀b off,ta=some ⟨b,off,none⟩->T=[]\/b<N\/wm.heap.size<=b)/\wm.heap.size<=wr.heap.size/\Rw.Fr Gh.no [wr,wm,ww,wn,w3,w2,w] r8/\r8.Fit 2 (bY T c.author c.path)/\r8.ge wr.heap.size| [v1,v2,v3,v4]=>∃(ta:Option Addr) (tc:Nat) (wr:World) (r8:Rw),v1= .agg #[.slice ta T.length tc]/\v2= .tuple #[.agg #[r8.val (bY T c.author c.path).length],ab e]/\v3= .tuple #[.agg #[r8.val (bY T c.author c.path).length],ab e]/\v4= .agg #[r8.val (bY T c.author c.path).length]/\L'=wr::iL/\H'=tM++(r8.hp gS 240 (bY T c.author c.path)++[])/\ai gb 2 wr.heap.size wr ta T/\(∀b off,ta=some ⟨b,off,none⟩->T=[]\/b<N\/wm.heap.size<=b)/\wm.heap.size<=wr.heap.size/\Rw.Fr Gh.no [wr,wm,ww,wn,w3,w2,w] r8/\r8.Fit 2 (bY T c.author c.path)/\r8.ge wr.heap.size| [v1,v2,v3,v4,v5]=>∃(ta:Option Addr) (tc:Nat) (wr:World) (r8:Rw),v1= .agg #[.slice ta T.length tc]/\v2= .tuple #[.agg #[r8.val (bY T c.author c.path).length],ab e]/\v3= .tuple #[.agg #[r8.val (bY T c.author c.path).length],ab e]/\v4= .agg #[r8.val (bY T c.author c.path).length]/\v5= .tuple #[]/\L'=wr::iL/\H'=[(b4,oC (setCells (bD (⟨⟨G.g.folder,c.epoch,aB Z c,[],[]⟩,none,0,none,0⟩:Gv)) 35 [r8.val (bY T c.author c.path).length]) 53)]++(r8.hp gS 240 (bY T c.author c.path)++[])/\ai gb 2 wr.heap.size wr ta T/\(∀b off,ta=some ⟨b,off,none⟩->T=[]\/b<N\/wm.heap.size<=b)/\wm.heap.size<=wr.heap.size/\Rw.Fr Gh.no [wr,wm,ww,wn,w3,w2,w] r8/\r8.Fit 2 (bY T c.author c.path)/\r8.ge wr.heap.size|_=>False) (pc NZ (pc (by exact λcv L' H' hd hP=>X.v (bP underlying61 rfl sizeOf54 rfl)) (pc NZ (pk (pc Yt (pc NZ (pc z6b (pc NZ (pk (pk (pk (pc (λcv L' H' hd hP=>match cv,hd,hP with| [],hd,hP=>(absurd (show false=true from hd) zA)| [v1],hd,hP=>(absurd (show false=true from hd) zA)| [v1,v2],hd,hP=>(absurd (show false=true from hd) zA)| [v1,v2,v3],hd,hP=>zhc| [v1,v2,v3,v4],hd,hP=>zec| [v1,v2,v3,v4,v5],hd,hP=>zcc|_::_::_::_::_::_::_,_,hP=>hP.elim) (pc X2 (pk (pn))))))))))))))) ?_ ?_
 ·exact zWf
 intro cv L' H' hl hP;obtain⟨v1,v2,v3,v4,v5,rfl⟩:=sQ hl;obtain⟨ta,tc,wr,r8,rfl,rfl,rfl,rfl,rfl,rfl,rfl,se,gY,q9,mU,iu,ju⟩:=hP;refine B 6 ?_;refine UL ?_;refine ay (.agg (bD gI)) ?_;refine B 7 ?_;exact bK (.inl rfl) results83 aX λW hS=>⟨gI,rfl,(hS.links w A6).below (λk hk hx=>by rcases hx with hx|hx;(exact hx);simp only[dm,ig,eL,eb,gz,dy,eV,bj,bX,dE,or_false]at hx;rcases hx with hx|hx;(omega);have:=Rw.mem_ge ju hx;omega),rfl,YJ _ _,λq h=>zQ,λq h=>zQ⟩
theorem N0{ns:List Nd}(h:Ed ns):∀(i:Nat) (x:Nd),ns[i]? =some x->(i:Int)+1<=x.at_
 |0,x,hx=>by have:=(h 0 x hx).1;omega
 |i+1,x,hx=>by
  obtain⟨y,hy⟩:=ng ns i UH;have h1:=N0 h i y hy;have h2:=(h (i+1) x hx).2.2.1 y aa (by simpa using hy);omega
theorem Q5{ns:List Nd}(h:Ed ns):ns.length<=1023:=by
 by_cases h0:ns.length=0
 ·omega
 obtain⟨x,hx⟩:=ng ns (ns.length-1) aa;have h1:=N0 h _ x hx;have h2:=(h _ x hx).2.1;omega
theorem nhn(h:dU g=true):g.ns.length<=1023/\g.ms.length<=1023:=by
 have h1:=Aw.1 h;have h2:=Q5 (Ka.1 h1.1.2.2.2);refine⟨h2,?_⟩;have h3:=congrArg List.length h1.2.2.1;rw[eQ]at h3;have:=n2l g.ns;omega
def Q6 (f e:Int) (id:Nat->Int) (a b:Value):Array Value:=(ab f::ab e::lU id [a,b]).toArray
theorem KO(f e:Int)(id:Nat->Int)(r r':Rw)(n m:Nat):aZ (Value.agg (Q6 f e id (r.val n) (r'.val m))).cells.toList=true:=by cases r<;>cases r'<;>rfl
def mV (e:Int) (l:List Ch):List Mb:=(l.filter λx=> !decide (x.kind=2)).map λy=>⟨y.dev,e,y.ver⟩
theorem nGn{e:Int}{l:List Ch}{x:Ch}(hx:l[j]? =some x)(h:¬x.kind=2)(F:List Mb):F++mV e (l.take (j+1))=(F++mV e (l.take j))++[⟨x.dev,e,x.ver⟩]:=by rw[nq hx];simp[mV,h]
theorem E3{e:Int}{l:List Ch}{x:Ch}(hx:l[j]? =some x)(h:x.kind=2)(F:List Mb):F++mV e (l.take (j+1))=F++mV e (l.take j):=by rw[nq hx];simp[mV,h]
theorem nwj(e:Int)(l:List Ch):(mV e l).length<=l.length:=by unfold mV;rw[eQ];exact Q3 _ _
theorem YO(e:Int)(l:List Ch)(F:List Mb):F++mV e (l.take 0)=F:=by simp[mV]
noncomputable def lj (Z:Fx) (g:Gp) (c:Cm):Gp:=⟨g.folder,c.epoch,aB Z c,rp (g.ms.filter (λx=> !gD c.chs x)++mV c.epoch c.chs),bY (aW g.ns c.chs) c.author c.path⟩
theorem E4{ns:List Nd}{d:Int}(hd:ee d)(l:List Int):(bY ns d l).length<=ns.length+10:=by grind [bY,nWg,n5l,dP,UF]
theorem Rw.val_new{r:Rw}{n k cp:Nat}{a:Option Addr}(h:r.ge k)(e:r.val n= .slice a n cp):∀q,a=some q->k<=q.block:=by
 intro q hq;cases r with
 |nil=>simp only[Rw.val,Value.slice.injEq]at e;rw[<-e.1]at hq;cases hq
 |row b cap sp=>simp only[Rw.val,Value.slice.injEq]at e;rw[<-e.1]at hq;cases hq;exact h
theorem KP(hZ:FxOk Z)(G:Gv)(c:Cm)(dC:bO c)(N:Nat)(w:World)(hN:N<=w.heap.size)(hG:bS N w G)(hC:du N w c)(hg:Glb w)(hv:dU G.g=true)(jS:sM c=0)(hf:kR G.g c=true)(hne:fe G.g c.author c.chs=0)(hb:uP G.g c=true)(hw:wo c=true)(IE:y9 Z G.g c=true)(e:Int)(hre:mT (aW G.g.ns c.chs) c.author=e)(he:e=0):Calls prog 83 #[.agg (bD G),.agg (cG c)] w (CF w (lj Z G.g c) 0):=by
 have r7:=Aw.1 hv;have U9:=r7.1.2.2.1;have uO:=r7.1.2.1;have fy:=QL.1 jS;have BR:=fy.e1;have BS:=fy.e2;obtain⟨h1,h2,h3⟩:=U8 hf;have sE:=fy.au;have Ar:=dC.few.chs;have Dz:=dC.few.bxs;have UU:=dC.few.wes;have hg4:=hg.lt;obtain⟨xz,jB,vZ⟩:=nGm hv hne;obtain⟨qB,Aq⟩:=nYi xz;have Uv:=hG.nn;have NK:=QF c.chs G.g.ns;obtain⟨T,hT⟩:∃T,aW G.g.ns c.chs=T:=⟨_,rfl⟩;rw[hT]at hre NK;have iH:=fy.pl;have mG:∀y∈c.path,eg y:=λy hy=>by obtain⟨i,hi⟩:=kA.1 hy;exact fy.path i y hi
 have anc:=nhn hv;refine KK ?_;refine yV ?_;intro b2 w2 di bV ff dB dx;refine yX ?_;intro b3 w3 cZ cu fC ez eP;refine B 1 ?_;refine yW ?_;intro b4 ji jj;refine YL ?_;intro Wn an cn wn sL Ay ru ry;have wj:=sL.sizes;replace wj:=yb wj;have UT:=Ay.size;have tI:=sL.under;replace tI:=yg tI;refine YM ?_;refine eS 15 13 [] (pb:=by exact zU 4 (k:=by exact aU (nf call152 rfl rfl (λW hS _=>by have h9:=YA c.bxs aa W.heap.size c.ba c.bc W (ak _) (hC.bxs.up cM hS.sm) (gw G.g c.author c.chs) an cn (ru.to hS A0 (ak _) (λb off e=>.inr YN));rw[show kQ ID c.bxs (gw G.g c.author c.chs)=true from hb]at h9;exact h9) (λ_=>rfl)) zT)) (sp:=(_::_::_::_::(some (cY))::(some bN)::_)) (h:=?_);intro _ _ hk;refine zZc ?_;intro W_ aw cw ww qh vx wt rz;have za:=(qh.links wn A0).size;have wu:∀q,aw=some q->wn.heap.size<=q.block:=λq e=>dR za (rz q e);refine zYc ?_;refine Ue ?_;refine eS 10 7 [] (pb:=by exact zU 5 (k:=by exact aU (nf call135 rfl rfl (λW hS _=>nHc G N W cM (hG.up (ak _) hS.sm) c.chs aa c.ca c.cc (hC.chs.up (ak _) hS.sm) c.author (λhm=>nUj jB uO hm)) (λ_=>rfl)) zT)) (sp:=[some (.agg (bD G)),_,_,_,some (.slice c.ca c.chs.length c.cc),some (ab (kP G.g c.author c.chs)),some (.agg (cG c)),_,_,some (.agg #[ab c.sr,ab c.ss])]) (h:=?_)
 intro _ _ hk;refine z5c ?_;rintro W_ bm wm qh vx ⟨za,oB⟩;try dsimp only at za oB
 have BT:=(qh.links wn A1).size;have tK:wn.heap.size<=bm:=by omega
 refine zE ?_;refine zqd ?_;refine Im ?_;refine eA 6 (pb:=by exact zU 5 (k:=by exact aU (nf call23 rfl rfl (λW hS _=>Yy hZ c dC N W cM (hC.up (ak _) hS.sm) (hg.old hS A5 zH zD)) (λ_=>rfl)) (vK rfl))) (sp:=[_,_,_,_,some (.agg (cG c)),some (.agg (dg (aB Z c)))]) (k:=?_);refine zFf ?_;have BB:=(aT.1 oB).1;refine zUc ?_;refine CJ.chn 14 [3,8,9,10,13] [some (.agg (bD G)),_,some (.slice c.ca c.chs.length c.cc),none,_,_,_,some (.slice c.pa c.path.length c.pc),none,none,none,some (ab e),_,none] (λcv L' H'=>let tM:ad:=[(b4,oC (bD (⟨⟨G.g.folder,c.epoch,aB Z c,[],[]⟩,none,0,none,0⟩:Gv)) 53)];let dY:ad:=tM;let iL:List World:=[wm,ww,wn,w3,w2,w];match cv with| []=>L'=iL/\H'=dY| [v1]=>∃(ta:Option Addr) (tc:Nat) (wr:World),v1= .agg #[.slice ta T.length tc]/\L'=wr::iL/\H'=dY/\ai gb 2 wr.heap.size wr ta T/\(∀b off,ta=some ⟨b,off,none⟩->T=[]\/b<N\/wm.heap.size<=b)/\wm.heap.size<=wr.heap.size| [v1,v2]=>∃(ta:Option Addr) (tc:Nat) (wr:World) (r8:Rw),v1= .agg #[.slice ta T.length tc]/\v2= .tuple #[.agg #[r8.val (bY T c.author c.path).length],ab e]/\L'=wr::iL/\H'=tM++(r8.hp gS 240 (bY T c.author c.path)++[])/\ai gb 2 wr.heap.size wr ta T/\(∀b off,ta=some ⟨b,off,none⟩->T=[]\/b<N\/wm.heap.size<=b)/\wm.heap.size<=wr.heap.size/\Rw.Fr Gh.no [wr,wm,ww,wn,w3,w2,w] r8/\r8.Fit 2 (bY T c.author c.path)/\r8.ge wr.heap.size| [v1,v2,v3]=>∃(ta:Option Addr) (tc:Nat) (wr:World) (r8:Rw),v1= .agg #[.slice ta T.length tc]/\v2= .tuple #[.agg #[r8.val (bY T c.author c.path).length],ab e]/\v3= .tuple #[.agg #[r8.val (bY T c.author c.path).length],ab e]/\L'=wr::iL/\H'=tM++(r8.hp gS 240 (bY T c.author c.path)++[])/\ai gb 2 wr.heap.size wr ta T/\(∀b off,ta=some ⟨b,off,none⟩->T=[]\/b<N\/wm.heap.size<=b)/\wm.heap.size<=wr.heap.size/\Rw.Fr Gh.no [wr,wm,ww,wn,w3,w2,w] r8/\r8.Fit 2 (bY T c.author c.path)/\r8.ge wr.heap.size| [v1,v2,v3,v4]=>∃(ta:Option Addr) (tc:Nat) (wr:World) (r8:Rw),v1= .agg #[.slice ta T.length tc]/\v2= .tuple #[.agg #[r8.val (bY T c.author c.path).length],ab e]/\v3= .tuple #[.agg #[r8.val (bY T c.author c.path).length],ab e]/\v4= .agg #[r8.val (bY T c.author c.path).length]/\L'=wr::iL/\H'=tM++(r8.hp gS 240 (bY T c.author c.path)++[])/\ai gb 2 wr.heap.size wr ta T/\(∀b off,ta=some ⟨b,off,none⟩->T=[]\/b<N\/wm.heap.size<=b)/\wm.heap.size<=wr.heap.size/\Rw.Fr Gh.no [wr,wm,ww,wn,w3,w2,w] r8/\r8.Fit 2 (bY T c.author c.path)/\r8.ge wr.heap.size| [v1,v2,v3,v4,v5]=>∃(ta:Option Addr) (tc:Nat) (wr:World) (r8:Rw),v1= .agg #[.slice ta T.length tc]/\v2= .tuple #[.agg #[r8.val (bY T c.author c.path).length],ab e]/\v3= .tuple #[.agg #[r8.val (bY T c.author c.path).length],ab e]/\v4= .agg #[r8.val (bY T c.author c.path).length]/\v5= .tuple #[]/\L'=wr::iL/\H'=[(b4,oC (setCells (bD (⟨⟨G.g.folder,c.epoch,aB Z c,[],[]⟩,none,0,none,0⟩:Gv)) 35 [r8.val (bY T c.author c.path).length]) 53)]++(r8.hp gS 240 (bY T c.author c.path)++[])/\ai gb 2 wr.heap.size wr ta T/\(∀b off,ta=some ⟨b,off,none⟩->T=[]\/b<N\/wm.heap.size<=b)/\wm.heap.size<=wr.heap.size/\Rw.Fr Gh.no [wr,wm,ww,wn,w3,w2,w] r8/\r8.Fit 2 (bY T c.author c.path)/\r8.ge wr.heap.size|_=>False) (pc NZ (pc (by exact λcv L' H' hd hP=>X.v (bP underlying61 rfl sizeOf54 rfl)) (pc NZ (pk (pc Yt (pc NZ (pc z6b (pc NZ (pk (pk (pk (pc (λcv L' H' hd hP=>match cv,hd,hP with| [],hd,hP=>(absurd (show false=true from hd) zA)| [v1],hd,hP=>(absurd (show false=true from hd) zA)| [v1,v2],hd,hP=>(absurd (show false=true from hd) zA)| [v1,v2,v3],hd,hP=>zhc| [v1,v2,v3,v4],hd,hP=>zec| [v1,v2,v3,v4,v5],hd,hP=>zcc|_::_::_::_::_::_::_,_,hP=>hP.elim) (pc X2 (pk (pn))))))))))))))) ?_ ?_
 ·exact zWf
 intro cv L' H' hl hP;obtain⟨v1,v2,v3,v4,v5,rfl⟩:=sQ hl;obtain⟨ta,tc,wr,r8,rfl,rfl,rfl,rfl,rfl,rfl,rfl,se,gY,q9,mU,iu,ju⟩:=hP;refine B 6 ?_;refine ay bN ?_;refine B 14 ?_;refine ay (.slice G.ma G.g.ms.length G.mc) ?_;refine It (enc:=oE) (m:=3) (t:=131) (xs:=G.g.ms) (v:=id) (first:=[]) (cap:=[]) rfl call159 rfl rfl rfl (λW hS=>EP G.g.ms aa N G.ma G.mc W cM (hG.ms.up (ak _) (hS.same A6 hN zH (by simp only[Over,nD,ig,eL,eb,dm,and_true];(repeat' apply And.intro);all_goals first|omega|exact True.intro|exact Rw.over (Rw.ge_mono ju aa))))) ?_;intro r9 YP E5;have mW:=Rw.ge_of YP A0;refine B 1 ?_;refine D5 (r:=r9) (enc:=oE) (m:=3) (t:=131) (xs:=G.g.ms) (ys:=(G.g.ms.filter λx=> !gD c.chs x)) (H0:=[]) (H1:=[(b4,oC (setCells (bD (⟨⟨G.g.folder,c.epoch,aB Z c,[],[]⟩,none,0,none,0⟩:Gv)) 35 [r8.val (bY T c.author c.path).length]) 53)]++(r8.hp gS 240 (bY T c.author c.path)++[])) (v:=λr=>r.val (G.g.ms.filter λx=> !gD c.chs x).length) rfl call158 rfl rfl rfl (λhr W hS=>?_) (λb cap sp hr W hS h=>?_) ?_
 ·subst hr;have h0:G.g.ms=[]:=E5;rw[h0];exact(nwh 155 [ptr b3 0] call155 W).mono λe w2 h=>⟨h.1,rfl,h.2⟩
 ·subst hr;have hbA:wr.heap.size<=b:=mW;have hzz:=(hS.links w A6).size;have ane:=(hS.links w3 A4).size;have anf:=(aT.1 cZ).1;exact nXk (gD c.chs) 155 [ptr b3 0] call155 G.g.ms aa b cap sp W h E5 (λj x hx W2 hK ahd=>QX c dC.few N b3 x W2 (dR hN (dR hzz hK.size)) (hC.up (ak _) (λk hk=>(hK.block k aa aa).trans (hS.same A6 hN zH (by simp only[Over,nD,ig,eL,eb,dm,and_true];(repeat' apply And.intro);all_goals first|omega|exact True.intro|exact Rw.over (Rw.ge_mono ju aa)|exact Rw.over (Rw.ge_mono mW aa)) k hk))) (by rw[hK.block b3 aa aa];exact hS.old A4 cZ cu zz))
 intro r10 Q7 YQ YS ahk;have YT:=YQ YP;have ahl:=YS _ mW;refine B 1 ?_;refine OJ.perm (H':=[(b4,oC (Q6 G.g.folder c.epoch (aB Z c) (aj) (r8.val (bY T c.author c.path).length)) 53)]++(r8.hp gS 240 (bY T c.author c.path)++(r10.hp oE 131 (G.g.ms.filter λx=> !gD c.chs x)++[]))) (by simp only[eL,eb,ig];exact List.perm_append_comm) ?_;refine kY (i:=0) rfl sizeOf48 rfl rfl rfl (Rw.val_size _ _) (ea rfl) (Rw.val_one _ _) ?_;refine B 6 ?_;refine ay (.slice c.ca c.chs.length c.cc) ?_;refine B 5 ?_;have xg:=YO c.epoch c.chs (G.g.ms.filter λx=> !gD c.chs x);refine CJ.reH (H':=[(b4,oC (Q6 G.g.folder c.epoch (aB Z c) (r10.val ((G.g.ms.filter λx=> !gD c.chs x)++mV c.epoch (c.chs.take 0)).length) (r8.val (bY T c.author c.path).length)) 53)]++(r8.hp gS 240 (bY T c.author c.path)++(r10.hp oE 131 ((G.g.ms.filter λx=> !gD c.chs x)++mV c.epoch (c.chs.take 0))++[]))) (by rw[xg,Rw.val_cells];rfl) ?_;refine CJ.lp (α:=Rw×Nat) [2,3,4,122] (λp=>[(121,.slice c.ca c.chs.length c.cc),(123,ab (p.2:Int))]) (λp=>[(b4,oC (Q6 G.g.folder c.epoch (aB Z c) (p.1.val ((G.g.ms.filter λx=> !gD c.chs x)++mV c.epoch (c.chs.take p.2)).length) (r8.val (bY T c.author c.path).length)) 53)]++(r8.hp gS 240 (bY T c.author c.path)++(p.1.hp oE 131 ((G.g.ms.filter λx=> !gD c.chs x)++mV c.epoch (c.chs.take p.2))++[]))) (λp=>p.2<=c.chs.length/\p.1.Fr Gh.no [wr,wm,ww,wn,w3,w2,w]/\p.1.Fit 3 ((G.g.ms.filter λx=> !gD c.chs x)++mV c.epoch (c.chs.take p.2))) (λp=>c.chs.length-p.2) (r10,0) ⟨cR _,YT,by rw[xg];exact Q7⟩ ?_
 rintro⟨r,j⟩ ⟨hj,aK,ah⟩;dsimp only at hj aK ah ⊢;have bG:r.ge wr.heap.size:=Rw.ge_of aK A0;have kp:=Q3 (λx=> !gD c.chs x) G.g.ms;have vm:=nwj c.epoch (c.chs.take j);rw[lb]at vm;refine B 6 ?_;refine aG ?_ ?_
 ·intro ar;refine B 5 ?_;obtain⟨bo,oo,cs0,to,fV,im,fP,cJ,aV⟩:=hC.chs.get aa;obtain⟨x,hx⟩:=ng c.chs j aa;rw[im];refine X5 ?_;refine yW ?_;intro iD Kb Kc;refine B 10 ?_;refine aG ?_ ?_
  ·intro aN;refine B 10 ?_;refine kh underlying48 sizeOf131 zeroValue131 rfl rfl rfl rfl rfl rfl rfl ?_;refine yW ?_;intro ahm amx amy;refine kg (r:=r) (xs:=((G.g.ms.filter λx=> !gD c.chs x)++mV c.epoch (c.chs.take j))) (zs:=[(⟨x.dev,c.epoch,x.ver⟩:Mb)]) (enc:=oE) (m:=3) (H0:=(ahm,oC #[ab x.dev,ab c.epoch,ab x.ver] 131)::(iD,oC (gC x) 99)::(b4,oC (Q6 G.g.folder c.epoch (aB Z c) (r.val ((G.g.ms.filter λx=> !gD c.chs x)++mV c.epoch (c.chs.take j)).length) (r8.val (bY T c.author c.path).length)) 53)::r8.hp gS 240 (bY T c.author c.path)) (H1:=[]) zW EN BJ rfl rfl rfl rfl (cd.one (z:=(⟨x.dev,c.epoch,x.ver⟩:Mb)) BJ nnh underlying48 (bB.own (i:=0) rfl)) ah aK zI Br ?_;intro ahn YU YV E6 KQ;replace E6:=yb E6;refine B 1 ?_;refine kY (i:=2) rfl sizeOf48 rfl rfl rfl rfl (ea rfl) rfl ?_;refine Q8 ?_;refine PJ.again (Rw.row ahn YU YV,j+1) ⟨by dsimp only;omega,E6.elim (λh=>Rw.Fr_at aK h) (λh=>.inr h),by rw[nGn hx eE];exact KQ⟩ zS zR (by rw[nGn hx eE];rfl) rfl zI
  intro aN;refine xr ?_;refine PJ.again (r,j+1) ⟨by dsimp only;omega,aK,by rw[E3 hx aa];exact ah⟩ zS zR (by rw[E3 hx aa];rfl) rfl zI
 intro ar;refine B 6 ?_;have ck:c.chs.take j=c.chs:=jZ aa;rw[ck]at ah ⊢;refine B 3 ?_;have ang:=nwj c.epoch c.chs;refine D5 (r:=r) (enc:=oE) (m:=3) (t:=131) (xs:=((G.g.ms.filter λx=> !gD c.chs x)++mV c.epoch c.chs)) (ys:=rp ((G.g.ms.filter λx=> !gD c.chs x)++mV c.epoch c.chs)) (H0:=(b4,oC (Q6 G.g.folder c.epoch (aB Z c) (r.val ((G.g.ms.filter λx=> !gD c.chs x)++mV c.epoch c.chs).length) (r8.val (bY T c.author c.path).length)) 53)::r8.hp gS 240 (bY T c.author c.path)) (H1:=[]) (v:=λ_=>.tuple #[]) rfl call160 rfl rfl rfl (λhr W hS=>?_) (λb cap sp hr W hS h=>?_) ?_
 ·subst hr;have h0:((G.g.ms.filter λx=> !gD c.chs x)++mV c.epoch c.chs)=[]:=ah;rw[h0];exact(nXm W).mono λe w2 h=>⟨h.1,EU,h.2⟩
 ·subst hr;exact YI (by rw[cy];omega) ah h
 intro r11 kL amz YW Q9;have E7:=YW _ bG;refine B 5 ?_;refine ie (i:=0) rfl sizeOf53 rfl rfl rfl rfl rfl (KO _ _ _ _ _ _ _) ?_;refine B 4 ?_;refine bK (.inl rfl) results83 aX λW hS=>?_;have aho:r8.At gS 240 (bY T c.author c.path) W:=by
  cases r8 with
  |nil=>trivial
  |row b cap sp=>exact hS.own (b,_) oW
 have YX:r11.At oE 131 (rp ((G.g.ms.filter λx=> !gD c.chs x)++mV c.epoch c.chs)) W:=by
  cases r11 with
  |nil=>trivial
  |row b cap sp=>exact hS.own (b,_) oW
 obtain⟨a,cp,uq,ahp⟩:=Rw.sl (xs:=rp ((G.g.ms.filter λx=> !gD c.chs x)++mV c.epoch c.chs)) BJ kL YX (ak W.heap.size);obtain⟨a8,ND,he8,ux⟩:=Rw.sl P0 iu aho (ak W.heap.size);have h1:r.val ((G.g.ms.filter λx=> !gD c.chs x)++mV c.epoch c.chs).length= .slice a (rp ((G.g.ms.filter λx=> !gD c.chs x)++mV c.epoch c.chs)).length cp:=by rw[<-YF ((G.g.ms.filter λx=> !gD c.chs x)++mV c.epoch c.chs),<-Q9];exact uq
 have hvl:=nhn hv;have hrw:=E4 (ns:=T) sE c.path;have anh:=nwj c.epoch c.chs;refine⟨⟨lj Z G.g c,a,cp,a8,ND⟩,?_,?_,rfl,⟨ahp,by rw[<-hT]at ux;exact ux,?_,?_⟩,Rw.val_new (Rw.ge_mono E7 aa) uq,Rw.val_new (Rw.ge_mono ju aa) he8⟩
 ·show Ending.returned (.tuple #[.agg (Q6 G.g.folder c.epoch (aB Z c) (r.val ((G.g.ms.filter λx=> !gD c.chs x)++mV c.epoch c.chs).length) (r8.val (bY T c.author c.path).length)),ab 0])=_;rw[h1,he8,<-hT];rfl
 ·exact(hS.links w A6).below (λk hk hx=>by rcases hx with hx|hx;(exact hx);simp only[dm,ig,eL,eb,gz,dy,eV,bj,bX,dE,or_false]at hx;rcases hx with hx|hx|hx;(omega);(have:=Rw.mem_ge ju hx;omega);(have:=Rw.mem_ge E7 hx;omega))
 ·show(rp ((G.g.ms.filter λx=> !gD c.chs x)++mV c.epoch c.chs)).length<=10000;rw[YF,cy];omega
 show(bY (aW G.g.ns c.chs) c.author c.path).length<=80000;rw[hT];omega
noncomputable def jC (Z:Fx) (g:Gp) (c:Cm):Int:=
 if dU g=true then(if sM c=0 then(if kR g c=true then(if fe g c.author c.chs=0 then(if uP g c=true then(if wo c=true then(if y9 Z g c=true then mT (aW g.ns c.chs) c.author else 222)else 220)else 220)else 221)else 220)else 220)else 1
noncomputable def xA (Z:Fx) (g:Gp) (c:Cm):Gp:=if jC Z g c=0 then lj Z g c else vw
theorem E8{au:Int}{l:List Ch}(hv:dU g=true):fe g au l=0\/fe g au l=221:=by
 unfold fe;rw[if_pos hv];split<;>simp
theorem nkd(hZ:FxOk Z)(G:Gv)(c:Cm)(dC:bO c)(N:Nat)(w:World)(hN:N<=w.heap.size)(hG:bS N w G)(hC:du N w c)(hg:Glb w):Calls prog 83 #[.agg (bD G),.agg (cG c)] w (CF w (xA Z G.g c) (jC Z G.g c)):=by
 have key:∀e:Int,jC Z G.g c=e->e≠0->Calls prog 83 #[.agg (bD G),.agg (cG c)] w (CF w vw e)->Calls prog 83 #[.agg (bD G),.agg (cG c)] w (CF w (xA Z G.g c) (jC Z G.g c)):=by
  intro e he h0 h;have:xA Z G.g c=vw:=by unfold xA;rw[he,if_neg h0]
  rw[this,he];exact h
 cases hv:dU G.g with
 |false=>exact key 1 (by simp[jC,hv]) zA (EV hZ G c dC N w hN hG hC hg hv)
 |true=>
  rcases Ky c with jS|jS
  ·cases hf:kR G.g c with
   |false=>exact key 220 (by simp[jC,hv,jS,hf]) zA (EX hZ G c dC N w hN hG hC hg hv jS hf)
   |true=>
    rcases E8 (au:=c.author) (l:=c.chs) hv with hne|hne
    ·cases hb:uP G.g c with
     |false=>exact key 220 (by simp[jC,hv,jS,hf,hne,hb]) zA (KL hZ G c dC N w hN hG hC hg hv jS hf hne hb)
     |true=>
      cases hw:wo c with
      |false=>exact key 220 (by simp[jC,hv,jS,hf,hne,hb,hw]) zA (KM hZ G c dC N w hN hG hC hg hv jS hf hne hb hw)
      |true=>
       cases IE:y9 Z G.g c with
       |false=>exact key 222 (by simp[jC,hv,jS,hf,hne,hb,hw,IE]) zA (EZ hZ G c dC N w hN hG hC hg hv jS hf hne hb hw IE)
       |true=>
        have e1:jC Z G.g c=mT (aW G.g.ns c.chs) c.author:=by simp[jC,hv,jS,hf,hne,hb,hw,IE]
        by_cases he:mT (aW G.g.ns c.chs) c.author=0
        ·have e2:jC Z G.g c=0:=e1.trans he;have e3:xA Z G.g c=lj Z G.g c:=by unfold xA;rw[e2,if_pos rfl]
         rw[e2,e3];exact KP hZ G c dC N w hN hG hC hg hv jS hf hne hb hw IE 0 he rfl
        exact key _ e1 he (E2 hZ G c dC N w hN hG hC hg hv jS hf hne hb hw IE _ rfl he)
    exact key 221 (by simp[jC,hv,jS,hf,hne]) zA (EY hZ G c dC N w hN hG hC hg hv jS hf hne)
  exact key 220 (by simp[jC,hv,jS]) zA (EW hZ G c dC N w hN hG hC hg hv jS)
theorem N1{l:List Value}(h:l.all (λu=>u.oneCell')=true):∀u∈l,u.oneCell'=true:=λu hu=>sP.1 h u hu
def lZ (x:Gv):List Value:=(ab x.g.folder::ab x.g.epoch::lU x.g.last [.slice x.ma x.g.ms.length x.mc,.slice x.na x.g.ns.length x.nc])
theorem YY(x:Gv):(lZ x).length=36:=rfl
theorem n9n(x:Gv):∀u∈lZ x,u.oneCell'=true:=N1 rfl
def oF (d:Cd):List Value:=(ab d.at_::ab d.c.folder::ab d.c.epoch::lU d.c.par (ab d.c.author:: .slice d.c.ca d.c.chs.length d.c.cc:: .slice d.c.pa d.c.path.length d.c.pc:: .slice d.c.ba d.c.bxs.length d.c.bc:: .slice d.c.wa d.c.wes.length d.c.wc::lU d.c.conf (ab d.c.sr::ab d.c.ss::lU d.id (ab d.since::ab d.x.g.folder::ab d.x.g.epoch::lU d.x.g.last [.slice d.x.ma d.x.g.ms.length d.x.mc,.slice d.x.na d.x.g.ns.length d.x.nc]))))
theorem E9(d:Cd):(oF d).length=143:=by simp only[oF,dF,fh]
theorem n5j(d:Cd):∀u∈oF d,u.oneCell'=true:=N1 rfl
def cD (k:Dk):List Value:=k.1.map (Value.int .u8)
theorem nX(k:Dk):(cD k).length=32:=by simp[cD,k.2]
theorem Va(k:Dk):∀u∈cD k,u.oneCell'=true:=by
 intro u hu;obtain⟨x,_,rfl⟩:=bW.1 hu;rfl
def dk (f:Nat->Int):Dk:=⟨[f 0,f 1,f 2,f 3,f 4,f 5,f 6,f 7,f 8,f 9,f 10,f 11,f 12,f 13,f 14,f 15,f 16,f 17,f 18,f 19,f 20,f 21,f 22,f 23,f 24,f 25,f 26,f 27,f 28,f 29,f 30,f 31],rfl⟩
theorem nrn(f:Nat->Int):(cD (dk f)).toArray=dg f:=rfl
theorem Ra(f g:Nat->Int):mw f g=decide (dk f=dk g):=by
 have h:=Vb (dk f).1 (dk g).1 (by rw[(dk f).2,(dk g).2]);have e:decide (dk f=dk g)=decide ((dk f).1=(dk g).1):=by simp only[Subtype.ext_iff]
 rw[e,<-h];rfl
theorem KR:prog.info? 53=some Tryz.t53:=by kernel_rfl
theorem KT:prog.info? 159=some Tryz.t159:=by kernel_rfl
theorem KU:prog.info? 33=some Tryz.t33:=by kernel_rfl
theorem Fa:jH prog 75 53 36:=⟨underlying75,Tryz.t53,.agg (ab 0::ab 0::tz [aj,aj]).toArray,KR,rfl,rfl,rfl,by decide⟩
theorem Fb:jH prog 162 159 143:=⟨underlying162,Tryz.t159,.agg (ab 0::ab 0::ab 0::tz (ab 0::aj::aj::aj::aj::tz (ab 0::ab 0::tz (ab 0::ab 0::ab 0::tz [aj,aj])))).toArray,KT,rfl,rfl,rfl,by decide⟩
theorem nIi:jH prog 72 33 32:=⟨underlying72,Tryz.t33,.agg (tz []).toArray,KU,rfl,rfl,rfl,by decide⟩
theorem Fc:wv prog 33 uQ:=YZ underlying33 underlying5 sizeOf5 isAgg5
def pe (l:List Dk) (k:Dk):Int:=match l.findIdx? (λx=>decide (x=k))with|some i=>(i:Int)|none=> -1
theorem nVn{l:List Dk}{k x:Dk}(dZ:gu (λy=>decide (y=k)) l j)(hx:l[j]? =some x)(h:decide (x=k)=true):(j:Int)=pe l k:=by
 have e:l.findIdx? (λy=>decide (y=k))=some j:=by
  rw[aVq];have hl:=nr hx;obtain⟨_,IF⟩:=iv.1 hx;refine⟨hl,by rw[IF];exact h,λi hi=>?_⟩;have:=dZ i l[i] hi (kK _);simp[this]
 unfold pe;rw[e]
theorem Rb{l:List Dk}{k:Dk}(dZ:gu (λy=>decide (y=k)) l j)(hj:¬j<l.length):(-1:Int)=pe l k:=by
 have e:l.findIdx? (λy=>decide (y=k))=none:=by
  rw[List.findIdx?_eq_none_iff];intro x hx;have:=List.any_eq_false.1 (nnd dZ hj) x hx;simpa using this
 unfold pe;rw[e]
def uR (k:Dk):Array Value:=(cD k).toArray
theorem Rc(f:Nat->Int)(k:Dk):oy (dg f).toList (uR k).toList=decide (k=dk f):=by
 have h:=Vb (dk f).1 k.1 (by rw[(dk f).2,k.2]);have e:decide (k=dk f)=decide ((dk f).1=k.1):=by simp only[Subtype.ext_iff];exact decide_eq_decide.2 ⟨Eq.symm,Eq.symm⟩
 rw[e,<-h];rfl
theorem Re(f:Nat->Int)(k:Dk):kq (lV 32 [.i]) (dg f).toList (uR k).toList=true:=nNf 32 (dk f).1 k.1 (dk f).2 k.2
theorem Fe(xs:List Dk)(hxl:xs.length<=1000000)(N:Nat)(a:Option Addr)(cp:Nat)(w:World)(hN:N<=w.heap.size)(aJ:ai uR 32 N w a xs)(f:Nat->Int):Calls prog 107 #[.slice a xs.length cp,.agg (dg f)] w (aL w (ab (pe xs (dk f)))):=by
 refine eN func107 ntmps107 ?_;refine B 2 ?_;refine yX ?_;intro b3 w3 cZ cu fC ez eP;refine B 12 ?_;refine CJ.lp (α:=Nat) [0,3,7] (λj=>[(8,ab (j:Int))]) (λj=>[]) (λj=>j<=xs.length/\gu (λy=>decide (y=dk f)) xs j) (λj=>xs.length-j) 0 ⟨cR _,λi x hi=>absurd hi aa⟩ ?_;rintro j ⟨hj,dZ⟩;refine B 6 ?_;refine aG ?_ ?_
 ·intro ar;refine B 11 ?_;obtain⟨bo,oo,cs0,to,fV,rfl,fP,cJ,aV⟩:=aJ.get aa;obtain⟨x,hx⟩:=ng xs j aa;refine eA 5 (sp:=[_,_,_,_,some (.agg (uR x))]) (k:=?_);refine rq (.bool (decide (x=dk f))) (pg xn zA nM rfl rfl (Re f x)) (vb (Rc f x)) ?_;refine B 2 ?_;refine aG ?_ ?_
  ·intro aN;refine B 12 ?_;exact zsh
  intro aN;refine B 7 ?_;exact zwh
 intro ar;refine B 11 ?_;exact zsh
noncomputable def bF (Z:Fx) (cs:List Cm):Nat->List (Dk×Int)
 |0=>[]
 |j+1=>match cs[j]? with
  |none=>bF Z cs j
  |some c=>if dk (aB Z c)∈(bF Z cs j).map (·.1)then bF Z cs j else bF Z cs j++[(dk (aB Z c),(j:Int))]
theorem n4g{c:Cm}(hc:cs[j]? =some c)(h:dk (aB Z c)∈(bF Z cs j).map (·.1)):bF Z cs (j+1)=bF Z cs j:=by simp only[bF,hc,if_pos h]
theorem ngh{c:Cm}(hc:cs[j]? =some c)(h:¬dk (aB Z c)∈(bF Z cs j).map (·.1)):bF Z cs (j+1)=bF Z cs j++[(dk (aB Z c),(j:Int))]:=by simp only[bF,hc,if_neg h]
theorem n9g(Z:Fx)(cs:List Cm):∀j,(bF Z cs j).length<=j:=
 by intro x;induction x<;>(intros;grind [bF])
theorem nsg(Z:Fx)(cs:List Cm):∀j,((bF Z cs j).map (·.1)).Nodup:=
 by intro x;induction x<;>(intros;grind [bF])
theorem Vc(Z:Fx)(cs:List Cm):∀(j:Nat) (p:Dk×Int),p∈bF Z cs j->∃(i:Nat) (c:Cm),p.2=(i:Int)/\i<j/\cs[i]? =some c/\p.1=dk (aB Z c):=
 by intro x;induction x<;>(intros;grind [bF])
def pM (l:List (Dk×Int)):List (Dk×Bool):=l.map λp=>(p.1,true)
theorem nZf(l:List (Dk×Int)):(pM l).map (·.1)=l.map (·.1):=by simp[pM]
theorem nxn(l:List (Dk×Int))(k:Dk):(gE (pM l) k).getD false=decide (k∈l.map (·.1)):=by
 by_cases h:k∈l.map (·.1)
 ·cases e:gE (pM l) k with
  |none=>rw[nzg,nZf]at e;exact absurd h e
  |some v=>
   obtain⟨q,hq,rfl⟩:=AF.1 e;have h2:=Vd hq;obtain⟨p,_,hp⟩:=bW.1 (cO h2);have:q.2=true:=(Prod.mk.inj hp).2.symm;simp[this,h]
 all_goals grind [gE,pM,nzg,nZf]
theorem n6n{k:Dk}(h:k∈l.map (·.1)):fK (pM l) k true=pM l:=by
 unfold fK;cases hi:eR k (pM l) 0 with
 |none=>have:=n2e.1 hi;rw[nZf]at this;exact absurd h this
 |some q=>
  obtain⟨i,v⟩:=q;have h2:=Vd hi;obtain⟨p,_,hp⟩:=bW.1 (cO h2);have hv:v=true:=(Prod.mk.inj hp).2.symm;subst hv;apply Co;intro n;rw[a1q];split
  ·rename_i e;subst e;rw[if_pos (iv.1 h2).1,h2]
  rfl
theorem nfo{k:Dk}{j:Int}(h:¬k∈l.map (·.1)):fK (pM l) k true=pM (l++[(k,j)]):=by
 unfold fK;cases hi:eR k (pM l) 0 with
 |none=>simp[pM]
 |some q=>
  have h2:=Vd (l:=pM l) (i:=q.1) (v:=q.2) hi;have:k∈(pM l).map (·.1):=bW.2 ⟨_,cO h2,rfl⟩;rw[nZf]at this;exact absurd this h
theorem nqh(o:Option Bool):(o.map Value.bool).getD (bN)= .bool (o.getD false):=by cases o<;>rfl
theorem nsk{p:Dk×Int}:(l++[p]).map (·.1)=l.map (·.1)++[p.1]:=by simp
theorem n7j{p:Dk×Int}:(l++[p]).map (·.2)=l.map (·.2)++[p.2]:=by simp
structure Pv where
 ia:Option Addr
 ic:Nat
 ta:Option Addr
 tc:Nat
noncomputable def zb (Z:Fx) (cs:List Cm) (la:Option Addr) (lc:Nat) (p:Pv):Array Value:=#[.slice la cs.length lc,.slice p.ia ((bF Z cs cs.length).map (·.1)).length p.ic,.slice p.ta ((bF Z cs cs.length).map (·.2)).length p.tc]
structure ph (Z:Fx) (cs:List Cm) (N:Nat) (w:World) (p:Pv):Prop where
 ids:ai uR 32 N w p.ia ((bF Z cs cs.length).map (·.1))
 at_:ai (λx=>(aA x).toArray) 1 N w p.ta ((bF Z cs cs.length).map (·.2))
theorem ph.up{N N':Nat}{w w':World}{p:Pv}(h:ph Z cs N w p)(hN:N<=N')(hw:∀k,k<N->w'.heap[k]? =w.heap[k]?):ph Z cs N' w' p:=⟨h.ids.up hN hw,h.at_.up hN hw⟩
theorem newPool(hZ:FxOk Z)(cs:List Cm)(cJ:cs.length<=1000)(dC:∀c∈cs,bO c)(N:Nat)(la:Option Addr)(lc:Nat)(w:World)(hN:N<=w.heap.size)(aJ:ai cG 73 N w la cs)(hC:∀c∈cs,du N w c)(hg:Glb w):Calls prog 61 #[.slice la cs.length lc] w (cK w (λp:Pv=>.agg (zb Z cs la lc p)) (λp w1=>ph Z cs w1.heap.size w1 p/\(∀q,p.ia=some q->w.heap.size<=q.block)/\∀q,p.ta=some q->w.heap.size<=q.block)):=by
 have hg4:=hg.lt;refine eN func61 ntmps61 ?_;refine B 3 ?_;refine yW ?_;intro b2 dB dx;refine B 6 ?_;refine kY (i:=0) rfl sizeOf24 rfl rfl rfl rfl (ea rfl) rfl ?_;refine B 4 ?_;refine KV uQ Value.bool rfl rfl ?_;intro b3 ez eP;replace ez:=yb ez;try simp only[bA,and_true,ne_eq]at eP
 refine B 12 ?_;refine CJ.lp (α:=((Rw×Rw)×Mq)×Nat) [2,3,10,11] (λp=>[(12,ab (p.2:Int))]) (λp=>[(b3,p.1.2.obj uQ Value.bool (pM (bF Z cs p.2))),(b2,oC #[.slice la cs.length lc,p.1.1.1.val ((bF Z cs p.2).map (·.1)).length,p.1.1.2.val ((bF Z cs p.2).map (·.2)).length] 156)]++(p.1.1.1.hp cD 33 ((bF Z cs p.2).map (·.1))++(p.1.1.2.hp aA 3 ((bF Z cs p.2).map (·.2))++[]))) (λp=>p.2<=cs.length/\p.1.1.1.Fr Gh.no [w]/\p.1.1.1.Fit 32 ((bF Z cs p.2).map (·.1))/\p.1.1.2.Fr Gh.no [w]/\p.1.1.2.Fit 1 ((bF Z cs p.2).map (·.2))/\p.1.2.Ok (pM (bF Z cs p.2))) (λp=>cs.length-p.2) (((.nil,.nil),Mq.mk [] 0),0) ⟨cR _,True.intro,rfl,True.intro,rfl,Mq.nil⟩ ?_;rintro⟨⟨⟨r1,r2⟩,m⟩,j⟩ ⟨hj,qj,i7,iI,gA,hm⟩;dsimp only at hj qj i7 iI gA hm ⊢;have mX:r1.ge w.heap.size:=Rw.ge_of qj A0;have eu:r2.ge w.heap.size:=Rw.ge_of iI A0;refine B 6 ?_;refine aG ?_ ?_
 ·intro ar;refine B 5 ?_;obtain⟨bo,oo,cs0,to,fV,im,fP,cJ,aV⟩:=aJ.get aa;obtain⟨c,hc⟩:=ng cs j aa;have CG:=cO hc;have iH:=n9g Z cs j;refine B 2 ?_;refine rv rfl rfl rfl (dc underlying24 sizeOf61 (congrArg (λq=>some (Value.slice q cs.length lc)) im) rfl aa aa) ?_;refine ay (.agg (cG c)) ?_;refine B 1 ?_;refine yW ?_;intro b5 sq su;refine B 7 ?_;refine call call23 rfl rfl rfl (λW hS=>Yy hZ c (dC c CG) N W cM ((hC c CG).up (ak _) (hS.same A0 hN zH zIb)) (hg.old hS A0 zH zIb)) ?_;refine B 1 ?_;refine yW ?_;intro b6 jO qy;refine B 5 ?_;by_cases xB:(dk (aB Z c))∈((bF Z cs j).map (·.1))
  ·refine B 3 ?_;refine rq cY (qD (m:=m) (k:=(dk (aB Z c))) underlying223 Fc zeroValue4 hm (bB.own (i:=2) rfl) rfl rfl) ((nqh _).trans (vb ((nxn _ _).trans (decide_eq_true xB)))) ?_;refine B 9 ?_;refine Y0 (i:=2) (k:=(dk (aB Z c))) (v:=true) rfl hm underlying223 Fc rfl rfl rfl rfl ?_;intro m2 bV;refine Q8 ?_;refine PJ.again (((r1,r2),m2),j+1) ⟨by dsimp only;omega,qj,by rw[n4g hc xB];exact i7,iI,by rw[n4g hc xB];exact gA,by rw[n4g hc xB];rw[n6n xB]at bV;exact bV⟩ zS zR (by rw[n4g hc xB,n6n xB];rfl) rfl zI
  refine B 3 ?_;refine rq bN (qD (m:=m) (k:=(dk (aB Z c))) underlying223 Fc zeroValue4 hm (bB.own (i:=2) rfl) rfl rfl) ((nqh _).trans (vb ((nxn _ _).trans (decide_eq_false xB)))) ?_;refine B 4 ?_;refine CJ.less (E':=[(2,_),(3,_),(4,_),(5,_),(6,_),(10,_),(11,_),(12,_),(13,_),(14,_),(15,_),(16,_),(17,_),(18,_),(19,_),(20,_),(21,_),(22,_)]) zR ?_;refine dN 11 [3,4,8,9] [[],[0],[],[0,1,2]] (λcv L' H'=>let dY:Nat×Obj:=(b6,oC (dg (aB Z c)) 33);match cv with| [none,none,none,none]=>L'=[w]/\H'=[dY,(b5,oC (cG c) 61),(b3,m.obj uQ Value.bool (pM (bF Z cs j))),(b2,oC #[.slice la cs.length lc,r1.val ((bF Z cs j).map (·.1)).length,r2.val ((bF Z cs j).map (·.2)).length] 156)]++(r1.hp cD 33 ((bF Z cs j).map (·.1))++(r2.hp aA 3 ((bF Z cs j).map (·.2))++[]))| [none,none,some v8,none]=>∃(iM:Nat),v8= .slice (ao iM) 1 1/\L'=[w]/\H'=[(iM,oC #[ab (j:Int)] 3),dY,(b5,oC (cG c) 61),(b3,m.obj uQ Value.bool (pM (bF Z cs j))),(b2,oC #[.slice la cs.length lc,r1.val ((bF Z cs j).map (·.1)).length,r2.val ((bF Z cs j).map (·.2)).length] 156)]++(r1.hp cD 33 ((bF Z cs j).map (·.1))++(r2.hp aA 3 ((bF Z cs j).map (·.2))++[]))/\ae [w] iM| [some v3,none,none,none]=>∃(fk:Nat),v3= .slice (ao fk) 1 1/\L'=[w]/\H'=[(fk,oC (dg (aB Z c)) 33),dY,(b5,oC (cG c) 61),(b3,m.obj uQ Value.bool (pM (bF Z cs j))),(b2,oC #[.slice la cs.length lc,r1.val ((bF Z cs j).map (·.1)).length,r2.val ((bF Z cs j).map (·.2)).length] 156)]++(r1.hp cD 33 ((bF Z cs j).map (·.1))++(r2.hp aA 3 ((bF Z cs j).map (·.2))++[]))/\ae [w] fk| [some v3,none,some v8,none]=>∃(fk:Nat) (iM:Nat),v3= .slice (ao fk) 1 1/\v8= .slice (ao iM) 1 1/\L'=[w]/\H'=[(iM,oC #[ab (j:Int)] 3),(fk,oC (dg (aB Z c)) 33),dY,(b5,oC (cG c) 61),(b3,m.obj uQ Value.bool (pM (bF Z cs j))),(b2,oC #[.slice la cs.length lc,r1.val ((bF Z cs j).map (·.1)).length,r2.val ((bF Z cs j).map (·.2)).length] 156)]++(r1.hp cD 33 ((bF Z cs j).map (·.1))++(r2.hp aA 3 ((bF Z cs j).map (·.2))++[]))/\ae [w] fk/\ae [w] iM| [some v3,some v4,none,none]=>∃(fk:Nat) (lO:Nat) (gN:Nat) (iN:List Value),v3= .slice (ao fk) 1 1/\v4= .slice (ao lO) (((bF Z cs j).map (·.1))++[(dk (aB Z c))]).length gN/\L'=[w]/\H'=[(fk,oC (dg (aB Z c)) 33),dY,(b5,oC (cG c) 61),(b3,m.obj uQ Value.bool (pM (bF Z cs j))),(b2,oC #[.slice la cs.length lc,r1.val ((bF Z cs j).map (·.1)).length,r2.val ((bF Z cs j).map (·.2)).length] 156)]++((Rw.row lO gN iN).hp cD 33 (((bF Z cs j).map (·.1))++[(dk (aB Z c))])++(r2.hp aA 3 ((bF Z cs j).map (·.2))++[]))/\ae [w] fk/\(r1.isAt lO\/ae [w] lO)/\(Rw.row lO gN iN).Fit 32 (((bF Z cs j).map (·.1))++[(dk (aB Z c))])| [some v3,some v4,some v8,none]=>∃(fk:Nat) (lO:Nat) (gN:Nat) (iN:List Value) (iM:Nat),v3= .slice (ao fk) 1 1/\v4= .slice (ao lO) (((bF Z cs j).map (·.1))++[(dk (aB Z c))]).length gN/\v8= .slice (ao iM) 1 1/\L'=[w]/\H'=[(iM,oC #[ab (j:Int)] 3),(fk,oC (dg (aB Z c)) 33),dY,(b5,oC (cG c) 61),(b3,m.obj uQ Value.bool (pM (bF Z cs j))),(b2,oC #[.slice la cs.length lc,r1.val ((bF Z cs j).map (·.1)).length,r2.val ((bF Z cs j).map (·.2)).length] 156)]++((Rw.row lO gN iN).hp cD 33 (((bF Z cs j).map (·.1))++[(dk (aB Z c))])++(r2.hp aA 3 ((bF Z cs j).map (·.2))++[]))/\ae [w] fk/\(r1.isAt lO\/ae [w] lO)/\(Rw.row lO gN iN).Fit 32 (((bF Z cs j).map (·.1))++[(dk (aB Z c))])/\ae [w] iM| [some v3,some v4,some v8,some v9]=>∃(fk:Nat) (lO:Nat) (gN:Nat) (iN:List Value) (iM:Nat) (CH:Nat) (wy:Nat) (zc:List Value),v3= .slice (ao fk) 1 1/\v4= .slice (ao lO) (((bF Z cs j).map (·.1))++[(dk (aB Z c))]).length gN/\v8= .slice (ao iM) 1 1/\v9= .slice (ao CH) (((bF Z cs j).map (·.2))++[(j:Int)]).length wy/\L'=[w]/\H'=[(iM,oC #[ab (j:Int)] 3),(fk,oC (dg (aB Z c)) 33),dY,(b5,oC (cG c) 61),(b3,m.obj uQ Value.bool (pM (bF Z cs j))),(b2,oC #[.slice la cs.length lc,r1.val ((bF Z cs j).map (·.1)).length,r2.val ((bF Z cs j).map (·.2)).length] 156)]++((Rw.row lO gN iN).hp cD 33 (((bF Z cs j).map (·.1))++[(dk (aB Z c))])++((Rw.row CH wy zc).hp aA 3 (((bF Z cs j).map (·.2))++[(j:Int)])++[]))/\ae [w] fk/\(r1.isAt lO\/ae [w] lO)/\(Rw.row lO gN iN).Fit 32 (((bF Z cs j).map (·.1))++[(dk (aB Z c))])/\ae [w] iM/\(r2.isAt CH\/ae [w] CH)/\(Rw.row CH wy zc).Fit 1 (((bF Z cs j).map (·.2))++[(j:Int)])|_=>False) ⟨rfl,rfl⟩ (xC 1 (k:=by exact sf zcp (sf zcp (xC 3 (k:=by exact sf zcp Ve))))) ?_ ?_
  ·refine nc rfl rfl ?_ ?_
   ·intro cv L' H' hl hr hP F Q' hk;obtain⟨x3,x4,x8,x9,rfl⟩:=uI hl;rcases x3 with _|v3<;>rcases x4 with _|v4<;>rcases x8 with _|v8<;>rcases x9 with _|v9<;>try exact False.elim hP
    ·obtain⟨rfl,rfl⟩:=hP;refine zRd ?_;intro fk ha ho;exact OJ.done (hk _ _ _ ⟨fk,rfl,rfl,rfl,ha⟩)
    ·obtain⟨iM,rfl,rfl,rfl,l9⟩:=hP;refine zRd ?_;intro fk ha ho;refine OJ.perm (List.Perm.swap _ _ _) ?_;exact OJ.done (hk _ _ _ ⟨fk,iM,rfl,rfl,rfl,rfl,ha,l9⟩)
    ·exact cA
    ·exact cA
    ·exact cA
    ·exact cA
    exact cA
   refine nc rfl rfl ?_ ?_
   ·intro cv L' H' hl hr hP F Q' hk;obtain⟨x3,x4,x8,x9,rfl⟩:=uI hl;rcases x3 with _|v3<;>rcases x4 with _|v4<;>rcases x8 with _|v8<;>rcases x9 with _|v9<;>try exact False.elim hP
    ·exact cA
    ·exact cA
    ·obtain⟨fk,rfl,rfl,rfl,lA⟩:=hP;refine kg (r:=r1) (xs:=((bF Z cs j).map (·.1))) (zs:=[(dk (aB Z c))]) (enc:=cD) (m:=32) (H0:=[(fk,oC (dg (aB Z c)) 33),(b6,oC (dg (aB Z c)) 33),(b5,oC (cG c) 61),(b3,m.obj uQ Value.bool (pM (bF Z cs j))),(b2,oC #[.slice la cs.length lc,r1.val ((bF Z cs j).map (·.1)).length,r2.val ((bF Z cs j).map (·.2)).length] 156)]) (H1:=r2.hp aA 3 ((bF Z cs j).map (·.2))++[]) rfl nIi nX rfl rfl rfl rfl (cd.one (z:=(dk (aB Z c))) nX Va underlying72 (bB.own (i:=0) rfl)) i7 qj zI PU ?_;intro lO gN iN qk gO;exact OJ.done (hk _ _ _ ⟨fk,lO,gN,iN,rfl,rfl,rfl,rfl,lA,qk,gO⟩)
    ·obtain⟨fk,iM,rfl,rfl,rfl,rfl,lA,l9⟩:=hP;refine kg (r:=r1) (xs:=((bF Z cs j).map (·.1))) (zs:=[(dk (aB Z c))]) (enc:=cD) (m:=32) (H0:=[(iM,oC #[ab (j:Int)] 3),(fk,oC (dg (aB Z c)) 33),(b6,oC (dg (aB Z c)) 33),(b5,oC (cG c) 61),(b3,m.obj uQ Value.bool (pM (bF Z cs j))),(b2,oC #[.slice la cs.length lc,r1.val ((bF Z cs j).map (·.1)).length,r2.val ((bF Z cs j).map (·.2)).length] 156)]) (H1:=r2.hp aA 3 ((bF Z cs j).map (·.2))++[]) rfl nIi nX rfl rfl rfl rfl (cd.one (z:=(dk (aB Z c))) nX Va underlying72 (bB.own (i:=1) rfl)) i7 qj zI PU ?_;intro lO gN iN qk gO;exact OJ.done (hk _ _ _ ⟨fk,lO,gN,iN,iM,rfl,rfl,rfl,rfl,rfl,lA,qk,gO,l9⟩)
    ·exact cA
    ·exact cA
    exact cA
   refine nc rfl rfl ?_ ?_
   ·intro cv L' H' hl hr hP F Q' hk;obtain⟨x3,x4,x8,x9,rfl⟩:=uI hl;rcases x3 with _|v3<;>rcases x4 with _|v4<;>rcases x8 with _|v8<;>rcases x9 with _|v9<;>try exact False.elim hP
    ·obtain⟨rfl,rfl⟩:=hP;refine D4 ?_;intro iM ha ho;exact OJ.done (hk _ _ _ ⟨iM,rfl,rfl,rfl,ha⟩)
    ·exact cA
    ·obtain⟨fk,rfl,rfl,rfl,lA⟩:=hP;refine D4 ?_;intro iM ha ho;exact OJ.done (hk _ _ _ ⟨fk,iM,rfl,rfl,rfl,rfl,lA,ha⟩)
    ·exact cA
    ·obtain⟨fk,lO,gN,iN,rfl,rfl,rfl,rfl,lA,qk,gO⟩:=hP;refine D4 ?_;intro iM ha ho;exact OJ.done (hk _ _ _ ⟨fk,lO,gN,iN,iM,rfl,rfl,rfl,rfl,rfl,lA,qk,gO,ha⟩)
    ·exact cA
    exact cA
   refine nc rfl rfl ?_ ?_
   ·intro cv L' H' hl hr hP F Q' hk;obtain⟨x3,x4,x8,x9,rfl⟩:=uI hl;rcases x3 with _|v3<;>rcases x4 with _|v4<;>rcases x8 with _|v8<;>rcases x9 with _|v9<;>try exact False.elim hP
    ·exact cA
    ·exact cA
    ·exact cA
    ·exact cA
    ·exact cA
    ·obtain⟨fk,lO,gN,iN,iM,rfl,rfl,rfl,rfl,rfl,lA,qk,gO,l9⟩:=hP;refine kg (r:=r2) (xs:=((bF Z cs j).map (·.2))) (zs:=[(j:Int)]) (enc:=aA) (m:=1) (H0:=[(iM,oC #[ab (j:Int)] 3),(fk,oC (dg (aB Z c)) 33),(b6,oC (dg (aB Z c)) 33),(b5,oC (cG c) 61),(b3,m.obj uQ Value.bool (pM (bF Z cs j))),(b2,oC #[.slice la cs.length lc,r1.val ((bF Z cs j).map (·.1)).length,r2.val ((bF Z cs j).map (·.2)).length] 156)]++(Rw.row lO gN iN).hp cD 33 (((bF Z cs j).map (·.1))++[(dk (aB Z c))])) (H1:=[]) rfl Nt nz rfl rfl rfl rfl (cd.one (z:=(j:Int)) nz Nv underlying55 (bB.own (i:=0) rfl)) gA iI zI PU ?_;intro CH wy zc zd uS;exact OJ.done (hk _ _ _ ⟨fk,lO,gN,iN,iM,CH,wy,zc,rfl,rfl,rfl,rfl,rfl,rfl,lA,qk,gO,l9,zd,uS⟩)
    exact cA
   exact nn
  intro cv L' H' hl hr hP;obtain⟨x3,x4,x8,x9,rfl⟩:=uI hl;rcases x3 with _|v3<;>rcases x4 with _|v4<;>rcases x8 with _|v8<;>rcases x9 with _|v9
  ·exact cA
  ·exact cA
  ·exact cA
  ·exact cA
  ·exact cA
  ·exact cA
  ·exact cA
  ·exact cA
  ·exact cA
  ·exact cA
  ·exact cA
  ·exact cA
  ·exact cA
  ·exact cA
  ·exact cA
  obtain⟨fk,lO,gN,iN,iM,CH,wy,zc,rfl,rfl,rfl,rfl,rfl,rfl,lA,qk,gO,l9,zd,uS⟩:=hP;simp only[ae]at lA l9;refine kY (i:=5) rfl sizeOf72 rfl rfl rfl rfl (ea rfl) rfl ?_;refine B 1 ?_;refine kY (i:=5) rfl sizeOf55 rfl rfl rfl rfl (ea rfl) rfl ?_;refine B 5 ?_;refine Y0 (i:=4) (k:=(dk (aB Z c))) (v:=true) rfl hm underlying223 Fc rfl rfl rfl rfl ?_;intro m2 bV;refine Q8 ?_;refine BV ?_;refine PJ.again (((Rw.row lO gN iN,Rw.row CH wy zc),m2),j+1) ⟨by dsimp only;omega,qk.elim (λh=>Rw.Fr_at qj h) (λh=>.inr h),by rw[ngh hc xB,nsk];exact gO,zd.elim (λh=>Rw.Fr_at iI h) (λh=>.inr h),by rw[ngh hc xB,n7j];exact uS,by rw[ngh hc xB,<-nfo xB];exact bV⟩ zS zR (by rw[ngh hc xB,nsk,n7j,<-nfo xB];rfl) rfl zI
 intro ar;refine B 6 ?_;have iH:=n9g Z cs j;have hje:j=cs.length:=by omega
 subst hje;refine B 2 ?_;refine ie (i:=1) rfl sizeOf156 rfl rfl rfl rfl rfl (by cases r1<;>cases r2<;>rfl) ?_;refine B 3 ?_;refine bK (.inl rfl) results61 aX λW hS=>?_;have Ff:r1.At cD 33 ((bF Z cs cs.length).map (·.1)) W:=by
  exact zYh
 have Rf:r2.At aA 3 ((bF Z cs cs.length).map (·.2)) W:=by
  exact zXh
 obtain⟨a1,c1,uq,xD⟩:=Rw.sl nX i7 Ff (ak W.heap.size);obtain⟨a2,c2,Iq,N2⟩:=Rw.sl nz gA Rf (ak W.heap.size);refine⟨⟨a1,c1,a2,c2⟩,?_,?_,⟨xD,N2⟩,Rw.val_new mX uq,Rw.val_new eu Iq⟩
 ·show Ending.returned (.agg #[.slice la cs.length lc,r1.val _,r2.val _])=_;rw[uq,Iq];rfl
 exact(hS.links w A0).below (λk hk hx=>by rcases hx with hx|hx;(exact hx);simp only[dm,dX,ig,eL,eb,gz,dy,eV,bj,bX,dE,or_false]at hx;rcases hx with hx|hx|hx|hx;(omega);(omega);(have:=Rw.mem_ge mX hx;omega);(have:=Rw.mem_ge eu hx;omega))
structure CO {α:Type} (cf:α->α->Int):Prop where
 anti:∀x y,cf x y= -cf y x
 trans:∀x y z,cf x y<=0->cf y z<=0->cf x z<=0
theorem CO.swo{α:Type}{cf:α->α->Int}(h:CO cf):Go.Sort.SWO (Go.Proofs.ltOf cf):=by
 refine⟨λx=>?_,λx y z h1 h2=>?_,λx y z h1 h2=>?_⟩<;>simp only[Go.Proofs.ltOf,decide_eq_true_eq,decide_eq_false_iff_not]at*
 ·have:=h.anti x x;omega
 ·have a1:=h.anti x z;have a2:=h.anti y z;have a3:=h.anti z y;have a4:=h.anti x y
  have t1:=h.trans x y z aa aa;by_cases e:cf x z=0
  ·have t2:=h.trans z x y (by have:=h.anti z x;omega) aa;have:=h.anti y z;omega
  omega
 have a1:=h.anti x y;have a2:=h.anti y z;have a3:=h.anti x z
 have:=h.trans z y x aa aa;omega
def BW {α:Type} (f g:α->α->Int) (x y:α):Int:=if f x y=0 then g x y else f x y
theorem CO.lt{α:Type}{cf:α->α->Int}(h:CO cf){x y z:α}(h1:cf x y<=0)(h2:cf y z<=0)(h3:cf x y≠0\/cf y z≠0):cf x z≠0:=by
 intro e;have a1:=h.anti x z;have a2:=h.anti y z;have a3:=h.anti x y
 rcases h3 with h3|h3
 ·have:=h.trans y z x h2 aa;omega
 have:=h.trans z x y aa h1;omega
theorem CO.lex{α:Type}{f g:α->α->Int}(hf:CO f)(hg:CO g):CO (BW f g):=by
 refine⟨λx y=>?_,λx y z h1 h2=>?_⟩
 ·have a:=hf.anti x y;have b:=hg.anti x y
  unfold BW;by_cases e:f x y=0
  ·rw[if_pos e,if_pos aa];exact b
  rw[if_neg e,if_neg aa];exact a
 have a:=hf.lt (x:=x) (y:=y) (z:=z);have t:=hf.trans x y z;have u:=hg.trans x y z
 unfold BW at *;by_cases e1:f x y=0<;>by_cases e2:f y z=0<;>simp only[e1,e2,if_true,if_false]at h1 h2
 ·have z0:f x z=0:=by
   have t1:=t aa aa;have t2:=hf.trans z y x (by have:=hf.anti z y;omega) (by have:=hf.anti y x;omega);have:=hf.anti x z;omega
  rw[if_pos z0];exact u h1 h2
 ·rw[if_neg (a aa aa (.inr e2))];exact t aa aa
 ·rw[if_neg (a aa aa (.inl e1))];exact t aa aa
 rw[if_neg (a aa aa (.inl e1))];exact t aa aa
theorem CO.key{α β:Type}{cf:β->β->Int}(h:CO cf)(k:α->β):CO λx y=>cf (k x) (k y):=⟨λx y=>h.anti _ _,λx y z=>h.trans _ _ _⟩
theorem CO.int:CO de:=by
 refine⟨λx y=>?_,λx y z h1 h2=>?_⟩;all_goals grind [de]
theorem N3:∀(a b:List UInt8),Go.Lib.compareBytes a b=0->a=b
 | [],[],_=>rfl
 | [],_::_,h=>by simp[Go.Lib.compareBytes]at h
 |_::_,[],h=>by simp[Go.Lib.compareBytes]at h
 |x::a,y::b,h=>by
  unfold Go.Lib.compareBytes at h;by_cases h1:x<y
  ·simp[h1]at h
  by_cases h2:y<x
  ·simp[h1,h2]at h
  simp only[h1,h2,if_false]at h;have e:x=y:=UInt8.le_antisymm (UInt8.not_lt.1 h2) (UInt8.not_lt.1 h1);rw[e,N3 a b h]
theorem nLi(x y:UInt8):x<y\/x=y\/y<x:=by grind
theorem Y1{x y:UInt8}(a b:List UInt8)(h:x<y):Go.Lib.compareBytes (x::a) (y::b)= -1:=by unfold Go.Lib.compareBytes;rw[if_pos h]
theorem Y2{x y:UInt8}(a b:List UInt8)(h:y<x):Go.Lib.compareBytes (x::a) (y::b)=1:=by unfold Go.Lib.compareBytes;rw[if_neg (λk=>UInt8.lt_irrefl x (UInt8.lt_trans k h)),if_pos h]
theorem nCj(x:UInt8)(a b:List UInt8):Go.Lib.compareBytes (x::a) (x::b)=Go.Lib.compareBytes a b:=by conv=>lhs;unfold Go.Lib.compareBytes;rw[if_neg (UInt8.lt_irrefl x),if_neg (UInt8.lt_irrefl x)]
theorem nOn:∀a b:List UInt8,Go.Lib.compareBytes a b= -Go.Lib.compareBytes b a
 | [],[]=>rfl
 | [],_::_=>rfl
 |_::_,[]=>rfl
 |x::a,y::b=>by
  rcases nLi x y with h|rfl|h
  ·rw[Y1 _ _ h,Y2 _ _ h]
  ·rw[nCj,nCj];exact nOn a b
  rw[Y2 _ _ h,Y1 _ _ h];rfl
theorem nIl:∀a b c:List UInt8,Go.Lib.compareBytes a b<=0->Go.Lib.compareBytes b c<=0->Go.Lib.compareBytes a c<=0
 | [],_,[],_,_=>by decide
 | [],_,_::_,_,_=>by show(-1:Int)<=0;decide
 |_::_,[],_,h1,_=>absurd (show(1:Int)<=0 from h1) zA
 |_::_,_::_,[],_,h2=>absurd (show(1:Int)<=0 from h2) zA
 |x::a,y::b,z::c,h1,h2=>by
  rcases nLi x y with h|rfl|h
  ·rcases nLi y z with k|rfl|k
   ·rw[Y1 _ _ (UInt8.lt_trans h k)];decide
   ·rw[Y1 _ _ h];decide
   rw[Y2 _ _ k]at h2;exact absurd h2 zA
  ·rcases nLi x z with k|rfl|k
   ·rw[Y1 _ _ k];decide
   ·rw[nCj]at h1 h2 ⊢;exact nIl a b c h1 h2
   rw[Y2 _ _ k]at h2;exact absurd h2 zA
  rw[Y2 _ _ h]at h1;exact absurd h1 zA
theorem CO.bytes:CO Go.Lib.compareBytes:=⟨nOn,nIl⟩
def ky3 (x y:Int×Int×List UInt8):Int:=BW (λx y=>de x.1 y.1) (BW (λx y=>de x.2.1 y.2.1) (λx y=>Go.Lib.compareBytes x.2.2 y.2.2)) x y
theorem CO.ky3:CO ky3:=(CO.int.key (λx:Int×Int×List UInt8=>x.1)).lex ((CO.int.key (λx:Int×Int×List UInt8=>x.2.1)).lex (CO.bytes.key (λx:Int×Int×List UInt8=>x.2.2)))
theorem Rg{x y:Int×Int×List UInt8}(h:ky3 x y=0):x.2.2=y.2.2:=by grind [ky3,BW,N3]
theorem nck{le:Nat->Nat->Bool}:∀{l l':List Nat},(∀a∈l,∀b∈l,le a b=true->le b a=true->a=b)->l.Pairwise (λa b=>le a b=true)->l'.Pairwise (λa b=>le a b=true)->l.Perm l'->l=l'
 | [],l',_,_,_,hp=>(List.nil_perm.1 hp).symm▸rfl
 |a::l,[],_,_,_,hp=>absurd hp.length_eq zI
 |a::l,b::l',ha,h1,h2,hp=>by
  have tN:a=b:=by
   have m1:a∈b::l':=hp.mem_iff.1 A0;have m2:b∈a::l:=hp.mem_iff.2 A0;rcases bX.1 m1 with e|m1
   ·exact e
   rcases bX.1 m2 with e|m2'
   ·exact e.symm
   exact ha a A0 b m2 ((List.pairwise_cons.1 h1).1 b m2') ((List.pairwise_cons.1 h2).1 a m1)
  subst tN;have Rh:=hp.cons_inv;rw[nck (λx hx y hy=>ha x (.tail _ hx) y (.tail _ hy)) (List.pairwise_cons.1 h1).2 (List.pairwise_cons.1 h2).2 Rh]
section
open Go.Proofs Go.Shelf Go.Lib Go.Sort
theorem Y3(x y:Cd)(W:World):Calls prog 183 #[.agg (oF x).toArray,.agg (oF y).toArray] W λe w'=>e= .returned (ab (de x.since y.since))/\∃q y8,w'=grow (W.drewN q) y8:=by
 have mQ:=λW'=>AE x.since y.since W';generalize de x.since y.since=r at mQ ⊢;unfold oF
 go_enter func183,ntmps183
 go_wp2_with (go_at_call 103;refine(mQ _).mono ?_;rintro e w' ⟨rfl,rfl⟩)
 go_ret
 exact zUg
theorem Y4(x y:Cd)(W:World):Calls prog 184 #[.agg (oF x).toArray,.agg (oF y).toArray] W λe w'=>e= .returned (ab (de x.c.author y.c.author))/\∃q y8,w'=grow (W.drewN q) y8:=by
 have mQ:=λW'=>AE x.c.author y.c.author W';generalize de x.c.author y.c.author=r at mQ ⊢;unfold oF
 go_enter func184,ntmps184
 go_wp2_with (go_at_call 103;refine(mQ _).mono ?_;rintro e w' ⟨rfl,rfl⟩)
 go_ret
 exact zUg
end
theorem nvg{P:Program}{W:World}{b:Nat}:∀(zs:List Int) (off:Nat) (acc:List UInt8),(∀(i:Nat) (h:i<zs.length),W.cell? ⟨b,off+i,none⟩=some (.int .u8 zs[i]))->(Extern.Bytes.loadBytes ⟨b,off,none⟩ zs.length ⟨acc.toArray⟩).run P W= .ok ⟨(acc++zs.map λz=>z.toNat.toUInt8).toArray⟩ W
 | [],off,acc,_=>by simp[Extern.Bytes.loadBytes]
 |z::zs,off,acc,h=>by
  have h0:W.cell? ⟨b,off,none⟩=some (.int .u8 z):=h 0 zI;have ih:=nvg (P:=P) (W:=W) (b:=b) zs (off+1) (acc++[z.toNat.toUInt8]) (λi hi=>by
   have:=h (i+1) (by simpa using hi);rw[show off+1+i=off+(i+1) by omega];simpa using this)
  have e:(ByteArray.mk acc.toArray).push z.toNat.toUInt8=⟨(acc++[z.toNat.toUInt8]).toArray⟩:=by simp[ByteArray.push]
  have ha:(⟨b,off,none⟩:Addr).add 1=⟨b,off+1,none⟩:=rfl;simp only[dF,Extern.Bytes.loadBytes,Sem.run_bind];rw[show(load ⟨b,off,none⟩:Sem Value).run P W= .ok (.int .u8 z) W by simp[load,Sem.run,h0]];simp only[Result.andThen,e,ha];rw[ih];simp
section
open Go.Lib Go.Sort
theorem Fg{P:Program}{b1 o1 c1 b2 o2 c2:Nat}{xs ys:List Int}(h1:∀(i:Nat) (h:i<xs.length),W.cell? ⟨b1,o1+i,none⟩=some (.int .u8 xs[i]))(h2:∀(i:Nat) (h:i<ys.length),W.cell? ⟨b2,o2+i,none⟩=some (.int .u8 ys[i])):(Extern.BytealgCompare.compare #[.slice (some ⟨b1,o1,none⟩) xs.length c1,.slice (some ⟨b2,o2,none⟩) ys.length c2]).run P W= .ok (ab (compareBytes (xs.map λz=>z.toNat.toUInt8) (ys.map λz=>z.toNat.toUInt8))) W:=by
 change Sem.run P (do pure (goInt (Extern.BytealgCompare.cmp (<-Extern.Bytes.bytesOf (.slice (some ⟨b1,o1,none⟩) xs.length c1)) (<-Extern.Bytes.bytesOf (.slice (some ⟨b2,o2,none⟩) ys.length c2))))) W=_;have e1:=nvg (P:=P) (W:=W) xs o1 [] h1;have e2:=nvg (P:=P) (W:=W) ys o2 [] h2;simp only[Extern.Bytes.bytesOf,Sem.run_bind,Sem.run_pure,Result.andThen];rw[show ByteArray.empty=⟨(#[]:Array UInt8)⟩from rfl,e1];simp only[eL];rw[e2];simp only[eL];rw[cmp_eq];rfl
theorem ngf{b1 o1 c1 b2 o2 c2:Nat}{xs ys:List Int}(h1:∀(i:Nat) (h:i<xs.length),W.cell? ⟨b1,o1+i,none⟩=some (.int .u8 xs[i]))(h2:∀(i:Nat) (h:i<ys.length),W.cell? ⟨b2,o2+i,none⟩=some (.int .u8 ys[i])):Calls prog 104 #[.slice (some ⟨b1,o1,none⟩) xs.length c1,.slice (some ⟨b2,o2,none⟩) ys.length c2] W λe w'=>e= .returned (ab (compareBytes (xs.map λz=>z.toNat.toUInt8) (ys.map λz=>z.toNat.toUInt8)))/\w'=W:=by
 have hr:=Fg (P:=prog) (c1:=c1) (c2:=c2) h1 h2;clear h1 h2
 go_enter func104,ntmps104
 go_wp2
 rw[run_callFunc_extern func170 zN zN zN (e:=Extern.BytealgCompare.compare) zN,hr];simp only[Result.andThen];rw[Oper.upon_value]
 go_wp2
 go_ret
 exact⟨rfl,rfl⟩
theorem Y5{o2:Obj}{X:Array Value}{t k:Nat}{v:Value}(q:Nat)(h:X[k]? =some v):(((W.alloc (.cells X t)).alloc o2).drewN q).cell? ⟨W.heap.size,k,none⟩=some v:=by
 rw[alloc_eq_grow,alloc_eq_grow,grow_grow];have:(W.heap++(#[.cells X t]++#[o2]))[W.heap.size]? =some (.cells X t):=by rw[Array.getElem?_append_right (ak _)];simp
 simp only[World.cell?,World.drewN,grow,this];exact h
theorem Y6{o1:Obj}{Y:Array Value}{t k:Nat}{v:Value}(q:Nat)(h:Y[k]? =some v):(((W.alloc o1).alloc (.cells Y t)).drewN q).cell? ⟨W.heap.size+1,k,none⟩=some v:=by simp_all
theorem Y7(X Y:Array Value)(xs ys:List Int)(hx:xs.length=32)(hy:ys.length=32)(hX:∀(i:Nat) (h:i<xs.length),X[74+i]? =some (.int .u8 xs[i]))(hY:∀(i:Nat) (h:i<ys.length),Y[74+i]? =some (.int .u8 ys[i]))(W:World):Calls prog 185 #[.agg X,.agg Y] W λe w'=>e= .returned (ab (compareBytes (xs.map λz=>z.toNat.toUInt8) (ys.map λz=>z.toNat.toUInt8)))/\∃q y8,w'=grow (W.drewN q) y8:=by
 have mQ:∀q,Calls prog 104 #[.slice (some ⟨W.heap.size,74,none⟩) 32 32,.slice (some ⟨W.heap.size+1,74,none⟩) 32 32] (((W.alloc (.cells X 159)).alloc (.cells Y 159)).drewN q) λe w'=>e= .returned (ab (compareBytes (xs.map λz=>z.toNat.toUInt8) (ys.map λz=>z.toNat.toUInt8)))/\w'=((W.alloc (.cells X 159)).alloc (.cells Y 159)).drewN q:=by
  intro q;have:=ngf (W:=((W.alloc (.cells X 159)).alloc (.cells Y 159)).drewN q) (b1:=W.heap.size) (o1:=74) (c1:=32) (b2:=W.heap.size+1) (o2:=74) (c2:=32) (xs:=xs) (ys:=ys) (λi h=>Y5 _ (by simp[hX i h])) (λi h=>Y6 _ (by simp[hY i h]));rw[hx,hy]at this;exact this
 generalize compareBytes (xs.map λz=>z.toNat.toUInt8) (ys.map λz=>z.toNat.toUInt8)=c at mQ ⊢;clear hX hY
 go_enter func185,ntmps185
 go_wp2
 go_region_with (go_at_call 104;refine(mQ _).mono ?_;rintro e w' ⟨rfl,rfl⟩)
 go_wp2
 go_ret
 exact⟨rfl,_,_,by rw[alloc_eq_grow,alloc_eq_grow,grow_grow];rfl⟩
end
theorem nfi(f:Nat->Int):((dk f).1.map λz=>z.toNat.toUInt8)=cx f:=rfl
theorem Y8(x y:Cd)(W:World):Calls prog 185 #[.agg (iS x),.agg (iS y)] W λe w'=>e= .returned (ab (Go.Lib.compareBytes (cx x.id) (cx y.id)))/\Gz W w':=by
 rw[<-nfi,<-nfi];have key:∀(z:Cd) (i:Nat) (h:i<(dk z.id).1.length),(iS z)[74+i]? =some (.int .u8 (dk z.id).1[i]):=by
  intro z i h;have h2:i<32:=by rw[(dk z.id).2]at h;exact h
  have e1:((dk z.id).1.map (Value.int .u8))[i]? =some (.int .u8 ((dk z.id).1[i]'h)):=by rw[sC,kK h];rfl
  have e2:(dg z.id)[i]? =((dk z.id).1.map (Value.int .u8))[i]? :=by rw[<-nrn,DI];rfl
  exact(uT (k:=74) (n:=32) (r:=dg z.id) rfl i h2).trans (e2.trans e1)
 exact Y7 (iS x) (iS y) (dk x.id).1 (dk y.id).1 (dk x.id).2 (dk y.id).2 (key x) (key y) W
def rkF:Nat->Nat
 |0=>183
 |1=>184
 |_=>185
def BX (w:World) (b:Nat):Prop:=∃b',w.heap[b]? =some (oC #[.slice (ao b') 3 3] 390)/\w.heap[b']? =some (oC #[.func (.func 183) #[] #[],.func (.func 184) #[] #[],.func (.func 185) #[] #[]] 227)
theorem Ri(j:Nat)(h:j<3):(#[Value.func (.func 183) #[] #[],.func (.func 184) #[] #[],.func (.func 185) #[] #[]]:Array Value)[0+((j:Int)).toNat*1]? =some (.func (.func (rkF j)) #[] #[]):=by
 match j,h with
 |0,_=>rfl
 |1,_=>rfl
 |2,_=>rfl
theorem KW(j:Nat)(h:j<3):ew prog (rkF j):=by
 match j,h with
 |0,_=>exact call183
 |1,_=>exact call184
 |2,_=>exact call185
def IG (x y:Cd):Nat->Int
 |0=>de x.since y.since
 |1=>de x.c.author y.c.author
 |_=>Go.Lib.compareBytes (cx x.id) (cx y.id)
theorem Y9(x y:Cd)(j:Nat)(h:j<3)(W:World):Calls prog (rkF j) #[.agg (iS x),.agg (iS y)] W λe w'=>e= .returned (ab (IG x y j))/\Gz W w':=by
 match j,h with
 |0,_=>exact Y3 x y W
 |1,_=>exact Y4 x y W
 |2,_=>exact Y8 x y W
def kyD (d:Cd):Int×Int×List UInt8:=(d.since,d.c.author,cx d.id)
def rkI (x y:Cd):Int:=if de x.since y.since=0 then(if de x.c.author y.c.author=0 then Go.Lib.compareBytes (cx x.id) (cx y.id)else de x.c.author y.c.author)else de x.since y.since
theorem Rj{x y:Cd}(h:∀i,i<j->IG x y i=0)(hj:j<3)(hn:¬IG x y j=0):IG x y j=rkI x y:=by
 have h0:=h 0;have h1:=h 1
 unfold rkI;all_goals grind [IG]
theorem KX{x y:Cd}(h:∀i,i<3->IG x y i=0):0=rkI x y:=by
 have h0:=h 0 aa;have h1:=h 1 aa;have h2:=h 2 aa
 all_goals grind [IG,rkI]
theorem ahB(x y:Cd)(b:Nat)(w:World)(hr:BX w b):Calls prog 249 #[.agg (iS x),.agg (iS y),ptr b 0] w λe w'=>e= .returned (ab (rkI x y))/\Gz w w':=by
 obtain⟨b2,hb,di⟩:=hr;refine Fh (vs:=[_,_,_]) func249 rfl ntmps249 rfl ?_;refine AG ?_;refine Za rfl rfl rfl (λW0 h0=>?_);refine Za rfl rfl rfl (λW1 h1=>?_);obtain⟨W2,h2⟩:∃W2,W2=W1.alloc (oC (iS y) 159):=⟨_,rfl⟩;have gK:Gz w W1:=by rw[h1,h0];exact Gz.alloc _ _
 have ff:Gz w W2:=by rw[h2];exact gK.trans (Gz.alloc _ _)
 have qC:W2.heap[W1.heap.size]? =some (oC (iS y) 159):=by rw[h2];exact heap_alloc_new _ _
 have xE:W2.heap[W0.heap.size]? =some (oC (iS x) 159):=by
  have e:W1.heap[W0.heap.size]? =some (oC (iS x) 159):=by rw[h1];exact heap_alloc_new _ _
  rw[h2,(Zb W1 _).block _ (aT.1 e).1];exact e
 have ef:∀{W:World},Gz W2 W->St Gh.no [W2,w] [] W:=λ{W} h=>N4 (by
  intro v hv;simp only[bX,dE,or_false]at hv;rcases hv with rfl|rfl
  ·exact h.below
  exact(ff.trans h).below)
 refine pN (L:=[W2,w]) (λW e=>by rw[e];have:=ef (Gz.refl W2);rw[h2]at this ⊢;exact this) rfl rfl rfl (tD rfl) ?_;refine Fi ?_;refine CX.seq ?_;refine AG ?_;refine pN (L:=[W2,w]) (λW e=>by rw[e];have:=ef (Gz.refl W2);rw[h2]at this ⊢;exact this) rfl rfl rfl (av (v:=.slice (ao b2) 3 3) isAgg390 rfl A1 hb zJ trivial rfl) ?_;refine pN (L:=[W2,w]) (λW e=>by rw[e];have:=ef (Gz.refl W2);rw[h2]at this ⊢;exact this) rfl rfl rfl (i6 underlying390 rfl) ?_;refine pN (L:=[W2,w]) (λW e=>by rw[e];have:=ef (Gz.refl W2);rw[h2]at this ⊢;exact this) rfl rfl rfl (sR rfl) ?_;refine Fi ?_;refine CX.block ?_;refine CX.loop (α:=Nat×World) (λp=>[(2,ptr b 0),(3,ptr W0.heap.size 0),(4,ptr W1.heap.size 0),(9,.slice (ao b2) 3 3),(10,ab 3),(11,ab (p.1:Int))]) (λp=>(· =p.2)) (λp=>p.1<=3/\(∀i,i<p.1->IG x y i=0)/\Gz W2 p.2) (λp=>3-p.1) (0,W2) ⟨by omega,λi h=>absurd h aa,Gz.refl _⟩ zR (λW e=>e.trans h2.symm) ?_;rintro⟨j,W⟩ ⟨hj,hz,hg⟩;dsimp only at hj hz hg ⊢;have hT:∀W',W'=W->St Gh.no [W2,w] [] W':=λW' e=>by rw[e];exact ef hg
 refine AG ?_;by_cases ar:j<3
 ·refine z1e ?_;refine pN hT rfl rfl rfl (dc underlying390 sizeOf227 rfl rfl aa aa) ?_;refine pN hT rfl rfl rfl (av (v:=.func (.func (rkF j)) #[] #[]) isAgg227 rfl A1 di zJ trivial (Ri j ar)) ?_;refine Rk ?_;refine AG ?_;refine N5 ?_;refine pN hT rfl rfl rfl (cQ isAgg159 sizeOf159 rfl A0 xE zJ trivial rfl) ?_;refine pN hT rfl rfl rfl (cQ isAgg159 sizeOf159 rfl A0 qC zJ trivial rfl) ?_;refine Rl (first:=[]) (cap:=[]) (v:=ab (IG x y j)) (T':=Gz W) rfl (KW j ar) rfl rfl rfl (λW' e=>by rw[e];exact Y9 x y j ar W) ?_;refine OX.fix (λW3 hg3=>?_);have hg4:=hg.trans hg3;have N6:∀W',W'=W3->St Gh.no [W2,w] [] W':=λW' e=>by rw[e];exact ef hg4
  refine pN N6 rfl rfl rfl (tD rfl) ?_;refine Fi ?_;refine AG ?_;refine pN N6 rfl rfl rfl (sR rfl) ?_;by_cases aN:IG x y j=0
  ·refine pN N6 rfl rfl rfl (RV.re (v':=bN) (cV rfl rfl) (vb (by simp[aN]))) ?_;refine zbf ?_;refine pN N6 rfl rfl rfl (iw rfl rfl aa aa) ?_;refine pN N6 rfl rfl rfl (sR rfl) ?_;refine OX.done ?_;exact PX.again (j+1,W3) ⟨by dsimp only;omega,λi hi=>by dsimp only at hi;by_cases e:i=j;(rw[e];exact aN);exact hz i aa,hg4⟩ zS zR (λW' e=>e)
  refine pN N6 rfl rfl rfl (RV.re (v':=cY) (cV rfl rfl) (vb (by simp[aN]))) ?_;refine Fi ?_;refine CX.condT rfl ?_;refine AG ?_;refine pN N6 rfl rfl rfl (sR rfl) ?_;refine pN N6 rfl rfl rfl (tD rfl) ?_;refine Fi ?_;refine zne ?_;exact AH (.inl rfl) results249 rfl (λW' e=>⟨congrArg (λn=>Ending.returned (ab n)) (Rj hz ar aN),by rw[e];exact ff.trans hg4⟩)
 refine zrf ?_;refine Rk ?_;refine CX.ret ?_;exact AH (.inl rfl) results249 rfl (λW' e=>⟨congrArg (λn=>Ending.returned (ab n)) (KX (λi hi=>hz i aa)),by rw[e];exact ff.trans hg⟩)
theorem CO.rkI:CO rkI:=CO.ky3.key kyD
end Px
