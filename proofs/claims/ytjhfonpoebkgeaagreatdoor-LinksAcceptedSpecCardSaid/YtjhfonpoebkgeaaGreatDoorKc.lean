/- Contracts of functions of the program. No conditions. -/
import Derived.Test.YtjhfonpoebkgeaaGreatDoorKb
import Derived.Test.YtjhfonpoebkgeaaGreatDoorProg
import Derived.Shelf.SlSortCmp.WholeK
import Derived.Deep.RegionWith
import Derived.Handy
import Derived.Lib.Bytealg
import Derived.Laws.Externs
import Derived.Test.YtjhfonpoebkgeaaGreatDoorLa
set_option linter.unusedSimpArgs false
set_option linter.unusedVariables false
set_option linter.unusedSectionVars false
set_option maxRecDepth 20000
set_option maxHeartbeats 8000000
namespace Px
open Go Go.RowKit Go.Proofs Go.Proofs.Tryz
abbrev xj (l:List UInt8):ByteArray:=strOfNums (l.map λu=>(u.toNat:Int))
theorem nGg(l:List UInt8):(xj l).size=l.length:=by rw[strOfNums_size,jg]
def mL (N:Nat) (w:World) (a:Option Addr) (l:List UInt8):Prop:=l=[]\/∃b off,a=some ⟨b,off,none⟩/\b<N/\cD w b off l
theorem n6f{P:Program}(w:World)(src e:Nat)(hs:P.underlying src=some (.slice e))(he:P.underlying e=some (.int .u8))(a:Option Addr)(cap:Nat)(dst:Nat)(hd:P.underlying dst=some .string):(convert src dst (.slice a 0 cap)).run P w= .ok (.string (strOfNums [])) w:=by
 cases a with
 |none=>
  have hr:=run_convert_bytes_nil (P:=P) w src e hs he 0 cap dst hd;rw[hr];rfl
 |some a=>
  have hl:(loadCells a 0).run P w= .ok (([]:List Int).map (Value.int .u8)).toArray w:=by simp[loadCells,loadCellsFrom]
  rw[run_convert_bytes_string w src dst e _ 0 cap hs he hd,run_bytesToString w _ 0 cap [] hl];rfl
variable {c:Cm} {Z:Fx} {g:Gp} {x:Gv} {F H:ae} {au:Int} {ls:List (List V)} {l:List Ch} {cs:List Cm} {xs:List Int} {sp:List Value} {L:List World} {K N b i j k n t:Nat} {fr:Nat×Nat} {a:Option Addr} {W w:World}
theorem EO{C:Cx}{G:Gh}{E:Env}{x:Operand}{src dst e c:Nat}{l:List UInt8}{w1:World}(hs:C.P.underlying src=some (.slice e))(he:C.P.underlying e=some (.int .u8))(hd:C.P.underlying dst=some .string)(hx:ev E x=some (.slice a l.length c))(hm:w1∈L)(hb:mL N w1 a l)(hG:∀b,b<N->¬G.X b/\cu H b):RV C G L H E (.convert src dst x) (.string (xj l)):=λd ty pos J g ac W hF hS=>by
 rcases hb with h1|⟨b,off,h1,h2,cs,t,fr,h3,h4,h5⟩
 ·subst h1;have hr:=n6f (P:=C.P) W src e hs he a c dst hd;simp[execOp,hF.ev hx,hr];rfl
 subst h1;have hW:=hS.old hm h3 (hG b h2).1 (hG b h2).2;have hr:=run_convert_bytes_arg (P:=C.P) W src e hs he b off l.length c (l.map λu=>(u.toNat:Int)) zP (λi hi=>by
  grind [fb,fU]) dst hd
 simp[execOp,hF.ev hx,hr]
theorem nTb(n:Int)(w:World):Calls prog 291 #[ab n] w (ar w (vI n)):=by
 refine eN func291 ntmps291 ?_;refine bD 3 ?_;intro b2 cL cR;refine B 10 ?_;refine aS (.inl rfl) results291 aL A0 zH ?_;rfl
theorem ZK(l:List UInt8)(N:Nat)(a:Option Addr)(c:Nat)(w:World)(hN:N<=w.heap.size)(hb:mL N w a l):Calls prog 292 #[.slice a l.length c] w (ar w (vT (xj l))):=by
 refine eN func292 ntmps292 ?_;refine bD 3 ?_;intro b2 cL cR;refine B 5 ?_;refine rx (EO underlying50 underlying5 underlying9 rfl A0 hb (λb bV=>⟨λh=>h,zYn⟩)) ?_;refine B 5 ?_;refine aS (.inl rfl) results292 aL A0 zH ?_;rfl
theorem ZL(base:Option Addr)(n c:Nat)(w:World):Calls prog 289 #[.slice base n c] w (ar w (vL base n c)):=by
 refine eN func289 ntmps289 ?_;refine bD 3 ?_;intro b2 cL cR;refine B 10 ?_;refine aS (.inl rfl) results289 aL A0 zH ?_;rfl
def lW (n:Int):List Value:=[ab 1,ab n,JG,bS]
theorem nui(n:Int):(lW n).length=4:=rfl
theorem nSp(n:Int):∀u∈lW n,u.oneCell'=true:=by intro u hu;simp[lW]at hu;rcases hu with rfl|rfl|rfl|rfl<;>rfl
theorem Rs:prog.info? 139=some Tryz.t139:=by kernel_rfl
theorem Oh:mD prog 115 139 4:=⟨underlying115,Tryz.t139,.agg #[ab 0,ab 0,JG,bS],Rs,rfl,rfl,rfl,by decide⟩
theorem nmk(xs:List Int)(de:xs.length<=1000)(N:Nat)(a:Option Addr)(cp:Nat)(w:World)(hN:N<=w.heap.size)(aA:aj encI 1 N w a xs):Calls prog 290 #[.slice a xs.length cp] w (nv w lW 4 139 xs id):=by
 refine cH 19 func290 ntmps290 ?_;refine CJ.loop (α:=Rw×Nat) (λp=>[(3,p.1.val (xs.take p.2).length),(6,.slice a xs.length cp),(7,ab (xs.length:Int)),(8,ab (p.2:Int))]) (λp=>p.1.hp lW 139 (xs.take p.2)++[]) (λp=>[w]) (λp=>Gh.no) (λp=>p.2<=xs.length/\p.1.Fr Gh.no [w]/\p.1.Fit 4 (xs.take p.2)) (λp=>xs.length-p.2) (.nil,0) ⟨cd _,True.intro,rfl⟩ zR rfl rfl zP ?_;rintro⟨r,j⟩ ⟨hj,aB,af⟩;dsimp only at hj aB af ⊢;have bW:r.ge w.heap.size:=Rw.ge_of aB A0;refine av 6 ?_ ?_
 ·intro ai;refine B 5 ?_;obtain⟨bo,oo,cs0,to,dR,rfl,dW,hcs,ay⟩:=aA.get aa;obtain⟨x,hx⟩:=ng xs j aa;refine B 2 ?_;refine rx (ad (v:=ab x) isAgg3 rfl A0 hcs zL zD zod) ?_;refine B 6 ?_;refine cl call291 rfl (λW hS=>nTb _ W) ?_;refine Ac ?_;refine yW ?_;intro gl jl J;refine jf (r:=r) (xs:=(xs.take j)) (zs:=[x]) (enc:=lW) (m:=4) (H0:=[(gl,oC #[ab 1,ab x,JG,bS] 139)]) (H1:=[]) IA Oh nui rfl rfl rfl rfl (bN.one (z:=x) nui nSp underlying115 (bL.own (i:=0) rfl)) af aB zP z3c ?_;intro gg iE jr kB ir;replace kB:=yb kB;refine KT ?_;refine PJ.again (Rw.row gg iE jr,j+1) ⟨by dsimp only;omega,kB.elim (λh=>Rw.Fr_at aB h) (λh=>.inr h),by rw[nk hx];exact ir⟩ zZ ⟨by rw[nk hx];rfl,rfl,rfl,rfl,trivial⟩ (by rw[nk hx];rfl) rfl zP
 intro ai;refine B 6 ?_;have cN:xs.take j=xs:=lE aa;rw[cN]at af ⊢;refine B 6 ?_;exact nB (H0:=[]) (H1:=[]) (r:=r) (.inl rfl) results290 aL A0 YV rfl af (Rw.ge_of aB A0) zP
abbrev El:=Nat×Nat
def gm (n:Nat) (e:El):List Value:=[ab 3,ab 0,JG,.slice (aH e.1) n e.2]
theorem CD(n:Nat)(e:El):(gm n e).length=4:=rfl
theorem VH(n:Nat)(e:El):∀u∈gm n e,u.oneCell'=true:=by intro u hu;simp[gm]at hu;rcases hu with rfl|rfl|rfl|rfl<;>rfl
def gE (F:ae) (n:Nat) (es:List El) (ls:List (List V)):Prop:=es.length=ls.length/\∀(i:Nat) (e:El) (l:List V),es[i]? =some e->ls[i]? =some l->l.length=n/\l.all vk=true/\n<=e.2/\∃sp t fr,(e.1,Obj.cells (nw l++sp).toArray t fr)∈F
theorem gE.nil:gE F n [] []:=⟨rfl,λi e l h=>by simp at h⟩
variable {es:List El}
theorem gE.up{J:ae}(h:gE F n es ls)(hF:∀p∈F,p∈J):gE J n es ls:=⟨h.1,λi e l h1 h2=>by
 obtain⟨g1,g2,g3,sp,t,fr,g4⟩:=h.2 i e l h1 h2
 grind⟩
theorem n8n{α:Type}{xs:List α}{y z:α}(h:(xs++[y])[i]? =some z):xs[i]? =some z\/(i=xs.length/\z=y):=by grind
theorem gE.snoc{J:ae}{c:Nat}{l:List V}(h:gE F n es ls)(hF:∀p∈F,p∈J)(hl:l.length=n)(hf:l.all vk=true)(hc:n<=c)(hp:(b,Obj.cells (nw l++sp).toArray t fr)∈J):gE J n (es++[(b,c)]) (ls++[l]):=by
 refine⟨by simp[h.1],λi e l' h1 h2=>?_⟩;have e1:=h.1;rcases n8n h1 with h1|⟨rfl,rfl⟩
 ·rcases n8n h2 with h2|⟨rfl,rfl⟩
  ·exact(h.up hF).2 i e l' h1 h2
  grind
 grind
theorem nGq{N:Nat}{w:World}:∀(l:List V) (ys:List (List Value)) (pre J:List Value),l.length=ys.length->(∀(i:Nat) (x:V) (y:List Value),l[i]? =some x->ys[i]? =some y->y.length=4/\ef N w x (.agg y.toArray))->iT N w (pre++(ys.flatten++J)).toArray pre.length l
 | [],_,pre,J,_,_=>by simp[iT]
 |x::l,[],pre,J,hl,_=>by simp at hl
 |x::l,y::ys,pre,J,hl,h=>by
  obtain⟨h1,h2⟩:=h 0 x y rfl rfl;have ih:=nGq (N:=N) (w:=w) l ys (pre++y) J cM (λi x' y' hx hy=>h (i+1) x' y' cM cM)
  grind [iT,cut]
theorem non{α:Type}{enc:α->List Value}{xs:List α}{l:List V}{r:Rw}(hl:l.length=xs.length)(he:∀(i:Nat) (x:α) (y:V),xs[i]? =some x->l[i]? =some y->(enc x).length=4/\ef N w y (.agg (enc x).toArray))(hr:∀p∈r.hp enc t xs,p.1<N/\w.heap[p.1]? =some p.2)(hf:r.Fit 4 xs):ef N w (.list l) (.agg (dn (r.val xs.length))):=by
 cases r with
 |nil=>
  simp_all[ef,Rw.val,ae,Rw.hp,Rw.Fit]
 |row b cap sp=>
  obtain⟨f1,f2⟩:=hf;obtain⟨g1,g2⟩:=hr (b,cT enc t xs sp) qw;refine⟨some ⟨b,0,none⟩,cap,by rw[hl];rfl,by omega,.inr ⟨b,_,t,(0,0),rfl,g1,g2,?_⟩⟩;have h2:=nGq (N:=N) (w:=w) l (xs.map enc) [] sp cM (λi x y hx hy=>by
   grind)
  grind [gL]
theorem gE.vat{r:Rw}(h:gE F n es ls)(hw:∀p∈F,p.1<N/\w.heap[p.1]? =some p.2)(hr:∀p∈r.hp (gm n) t es,p∈F)(hf:r.Fit 4 es):ef N w (.list (ls.map V.list)) (.agg (dn (r.val es.length))):=
 non (by rw[jg];exact h.1.symm) (λi e y hx hy=>⟨rfl,by
  rw[alt]at hy;cases hl:ls[i]? with
  |none=>grind
  |some l=>
   rw[hl]at hy;cases hy;obtain⟨g1,g2,g3,sp,t',fr,g4⟩:=h.2 i e l hx hl;obtain⟨k1,J⟩:=hw _ g4;have:=Qw (cap:=e.2) g2 k1 aa J;rw[g1]at this;exact this⟩) (λp hp=>hw p (hr p hp)) hf
theorem nyo{r:Rw}(hr:∀p∈r.hp lW t xs,p.1<N/\w.heap[p.1]? =some p.2)(hf:r.Fit 4 xs):ef N w (.list (xs.map V.int)) (.agg (dn (r.val xs.length))):=
 non zP (λi x y hx hy=>⟨rfl,by rw[alt,hx]at hy;cases hy;rfl⟩) hr hf
def EP (x:Ch):List V:=[.int x.kind,.int x.dev,.int x.pub,.int x.ver,.int x.cut]
def p4 (x:Bx):List V:=[.int x.node,.int x.level,.int x.w.u,.text (xj x.w.body)]
def p5 (x:We):List V:=[.int x.dev,.int x.w.u,.text (xj x.w.body)]
def pw (c:Cm):List V:=[.int c.folder,.int c.epoch,.text (xj (dy c.par)),.int c.author,.list ((c.chs.map EP).map V.list),.list (c.path.map V.int),.list ((c.bxs.map p4).map V.list),.list ((c.wes.map p5).map V.list),.text (xj (dy c.conf)),.int c.sr,.int c.ss]
theorem nue{α β:Type}(f:α->β){xs:List α}{x:α}(hx:xs[j]? =some x):(xs.take (j+1)).map f=(xs.take j).map f++[f x]:=by rw[nk hx];simp
theorem cD.dgo{off:Nat}{cs:Array Value}{f:Nat->Int}(h:w.heap[b]? =some (.cells cs t fr))(hc:cut cs off 32=Px.dg f)(hs:off+32<=cs.size)(hf:gY f):cD w b off (dy f):=
 ⟨cs,t,fr,h,by grind [nM],λi hi=>by
  rw[nM]at hi;rw[U4 f hf i hi,<-jN f i hi]
  grind [cut]⟩
theorem ER(h:W.heap[b]? =some (.cells (xs.map ab).toArray t fr)):aj encI 1 W.heap.size W (aH b) xs:=by
 grind [cut,encI,aj]
theorem ZM(N:Nat)(w:World)(n:Int):ef N w (.int n) (vI n):=by rfl
theorem n5g(N:Nat)(w:World)(s:ByteArray):ef N w (.text s) (vT s):=by rfl
theorem ES{r:Rw}(W:World):Calls prog 289 #[r.val n] W (ar W (.agg (dn (r.val n)))):=by cases r<;>exact ZL _ _ _ W
theorem Rt(l:List V){cap:Nat}{cs:Array Value}(hl:l.length<=cap)(h:w.heap[b]? =some (.cells cs t fr))(hb:b<N)(hv:iT N w cs 0 l):ef N w (.list l) (vL (aH b) l.length cap):=by grind [ef]
theorem ET{off:Nat}{cs:Array Value}{x:V}{l:List V}(h1:off+4<=cs.size)(h2:ef N w x (.agg (cut cs off 4)))(h3:iT N w cs (off+4) l):iT N w cs off (x::l):=by
 grind [iT]
theorem Ru{off:Nat}{cs:Array Value}:iT N w cs off []:=by simp[iT]
theorem IK(f:Nat->Int):(dy f).length=32:=nM f
theorem mL.up{J:Nat}{w':World}{l:List UInt8}(h:mL N w a l)(hN:N<=J)(hw:∀k,k<N->w'.heap[k]? =w.heap[k]?):mL J w' a l:=by
 rcases h with h|⟨b,off,h1,h2,h3⟩
 ·exact .inl h
 grind [mL,cD]
theorem nIf(c:Cm)(kV:mK c)(N:Nat)(w:World)(hN:N<=w.heap.size)(hC:dc N w c):Calls prog 256 #[.agg (cW c)] w (db w (λb:Nat=>.slice (aH b) 11 11) (λb w1=>w.heap.size<=b/\ef w1.heap.size w1 (.list (pw c)) (vL (aH b) 11 11))):=by
 have tr:=kV.chs;have vM:=kV.path;have vN:=kV.bxs;have KR:=kV.wes;have uM:=hC.chs;have oN:=hC.path;have uN:=hC.bxs;have uO:=hC.wes;refine nP (iu []) [] (vs:=[_]) func256 rfl ntmps256 rfl (Ap w) ?_;refine aU 2 ?_;intro b1 w1 aW bJ eO dC fg;refine B 5 ?_;refine zMf ?_;refine zMf ?_;refine zMf ?_;refine bD 1 ?_;intro b3 cP dt;refine bD 1 ?_;intro b4 dL dP;refine bD 1 ?_;intro b5 fK gf;refine B 15 ?_;refine CJ.loop (α:=((Rw×List El)×ae)×Nat) (λp=>[(1,ptr b1 0),(3,ptr b3 0),(4,ptr b4 0),(5,ptr b5 0),(16,.slice c.ca c.chs.length c.cc),(17,ab (c.chs.length:Int)),(18,ab (p.2:Int))]) (λp=>[(b5,oC (dn (bS)) 139),(b4,oC (dn (bS)) 139),(b3,oC (dn (p.1.1.1.val p.1.1.2.length)) 139)]++(p.1.1.1.hp (gm 5) 139 p.1.1.2++[])) (λp=>[w1,w]) (λp=>iu p.1.2) (λp=>p.2<=c.chs.length/\p.1.1.1.Fr (iu p.1.2) [w1,w]/\p.1.1.1.Fit 4 p.1.1.2/\gE p.1.2 5 p.1.1.2 ((c.chs.take p.2).map EP)/\∀q∈([]:ae),q∈p.1.2) (λp=>c.chs.length-p.2) (((.nil,[]),([]:ae)),0) ⟨cd _,True.intro,rfl,gE.nil,λq h=>h⟩ zR rfl rfl zP ?_;rintro⟨⟨⟨r1,jU⟩,F1⟩,j1⟩ ⟨hj,aB,af,uP,Aq⟩;dsimp only at hj aB af uP Aq ⊢;have bW:r1.ge w1.heap.size:=Rw.ge_fz aB A0;have kX:jU.length<=50:=by rw[uP.1,jg,oK];omega
 refine av 6 ?_ ?_
 ·intro ai;refine B 5 ?_;obtain⟨bo,oo,cs0,to,dR,iq,dW,hcs,ay⟩:=uM.get aa;obtain⟨x,hx⟩:=ng c.chs j1 aa;rw[iq];refine VB ?_;refine yW ?_;intro b7 ie lu;refine B 3 ?_;refine nE (E':=[(1,_),(3,_),(4,_),(5,_),(7,_),(16,_),(17,_),(18,_),(19,_),(20,_),(21,_)]) zR ?_;refine CJ.chn 16 [12,13,14,15] [_,_,_,_,_,_,_,_,_,_,_,_,none,none,none,none] (λcv L' H'=>let dA:ae:=[(b7,oC (ff x) 271),(b5,oC (dn (bS)) 139),(b4,oC (dn (bS)) 139),(b3,oC (dn (r1.val jU.length)) 139)]++(r1.hp (gm 5) 139 jU++[]);match cv with| []=>L'=[w1,w]/\H'=dA| [v1]=>∃(mv:Nat),v1= .slice (aH mv) 5 5/\L'=[w1,w]/\H'=(mv,oC #[ab x.kind,ab x.dev,ab x.pub,ab x.ver,ab x.cut] 3)::dA/\ah [w1,w] mv| [v1,v2]=>∃(mv:Nat) (bn:Nat) (cn:Nat) (sn:List Value),v1= .slice (aH mv) 5 5/\v2= .slice (aH bn) 5 cn/\L'=[w1,w]/\H'=(bn,cT lW 139 [x.kind,x.dev,x.pub,x.ver,x.cut] sn)::(mv,oC #[ab x.kind,ab x.dev,ab x.pub,ab x.ver,ab x.cut] 3)::dA/\ah [w1,w] mv/\ah [w1,w] bn/\5<=cn| [v1,v2,v3]=>∃(mv:Nat) (bn:Nat) (cn:Nat) (sn:List Value),v1= .slice (aH mv) 5 5/\v2= .slice (aH bn) 5 cn/\v3=vL (aH bn) 5 cn/\L'=[w1,w]/\H'=(bn,cT lW 139 [x.kind,x.dev,x.pub,x.ver,x.cut] sn)::(mv,oC #[ab x.kind,ab x.dev,ab x.pub,ab x.ver,ab x.cut] 3)::dA/\ah [w1,w] mv/\ah [w1,w] bn/\5<=cn| [v1,v2,v3,v4]=>∃(mv:Nat) (bn:Nat) (cn:Nat) (sn:List Value) (jV:Nat),v1= .slice (aH mv) 5 5/\v2= .slice (aH bn) 5 cn/\v3=vL (aH bn) 5 cn/\v4= .slice (aH jV) 1 1/\L'=[w1,w]/\H'=(jV,oC (dn (.slice (aH bn) 5 cn)) 139)::(bn,cT lW 139 [x.kind,x.dev,x.pub,x.ver,x.cut] sn)::(mv,oC #[ab x.kind,ab x.dev,ab x.pub,ab x.ver,ab x.cut] 3)::dA/\ah [w1,w] mv/\ah [w1,w] bn/\5<=cn/\ah [w1,w] jV|_=>False) (pc z1b (pc VI (pc ZN (pc VI (pc ZN (pc VI (pc ZN (pc VI (pc ZN (pc VI (pc ZN (pc VI (pk (pk (pk (pk (pn))))))))))))))))) ?_ ?_
  ·refine ss rfl ?_ ?_
   ·intro cv L' H' hl hP F Q' hk;obtain rfl:=oJ hl;obtain⟨rfl,rfl⟩:=hP;refine uC ?_;exact zjj
   refine ss rfl ?_ ?_
   ·intro cv L' H' hl hP F Q' hk;obtain⟨v1,rfl⟩:=gh hl;obtain⟨mv,rfl,rfl,rfl,kI⟩:=hP;refine IB (enc:=lW) (m:=4) (t:=139) (xs:=[x.kind,x.dev,x.pub,x.ver,x.cut]) (v:=id) (first:=[]) (cap:=[]) rfl call290 rfl rfl rfl (λW hS=>nmk [x.kind,x.dev,x.pub,x.ver,x.cut] zP W.heap.size (aH mv) 5 W (aC _) (ER (xs:=[x.kind,x.dev,x.pub,x.ver,x.cut]) (hS.own _ A0))) ?_;intro r_ EU kJ;obtain⟨b_,c_,s_,rfl⟩:=Rw.row_of kJ zP;exact OJ.done (hk _ _ _ ⟨mv,b_,c_,s_,rfl,rfl,rfl,rfl,kI,EU.elim (λh=>h.elim) id,kJ.1⟩)
   refine ss rfl ?_ ?_
   ·intro cv L' H' hl hP F Q' hk;obtain⟨v1,v2,rfl⟩:=kY hl;obtain⟨mv,bn,cn,sn,rfl,rfl,rfl,rfl,kI,hfn,vw⟩:=hP;refine cl call289 rfl (λW hS=>ZL (aH bn) 5 cn W) ?_;exact OJ.done (hk _ _ _ ⟨mv,bn,cn,sn,rfl,rfl,rfl,rfl,rfl,kI,hfn,vw⟩)
   refine ss rfl ?_ ?_
   ·intro cv L' H' hl hP F Q' hk;obtain⟨v1,v2,v3,rfl⟩:=gO hl;obtain⟨mv,bn,cn,sn,rfl,rfl,rfl,rfl,rfl,kI,hfn,vw⟩:=hP;refine Ac ?_;intro b_ KU KV;exact OJ.done (hk _ _ _ ⟨mv,bn,cn,sn,b_,rfl,rfl,rfl,rfl,rfl,rfl,kI,hfn,vw,KU⟩)
   exact nn
  intro cv L' H' hl hP;obtain⟨v1,v2,v3,v4,rfl⟩:=uQ hl;obtain⟨mv,bn,cn,sn,jV,rfl,rfl,rfl,rfl,rfl,rfl,kI,hfn,vw,hfo⟩:=hP;refine jf (r:=r1) (xs:=jU) (zs:=[((bn,cn):El)]) (enc:=gm 5) (m:=4) (H0:=[(jV,oC (dn (.slice (aH bn) 5 cn)) 139),(bn,cT lW 139 [x.kind,x.dev,x.pub,x.ver,x.cut] sn),(mv,oC #[ab x.kind,ab x.dev,ab x.pub,ab x.ver,ab x.cut] 3),(b7,oC (ff x) 271),(b5,oC (dn (bS)) 139),(b4,oC (dn (bS)) 139),(b3,oC (dn (r1.val jU.length)) 139)]) (H1:=[]) rfl Oh (CD 5) rfl rfl rfl rfl (bN.one (z:=((bn,cn):El)) (CD 5) (VH 5) underlying115 (bL.own (i:=0) rfl)) af aB zP vn ?_;intro br cr sr sk px;refine B 1 ?_;refine lG (i:=6) rfl sizeOf115 rfl rfl rfl rfl (fy rfl) rfl ?_;refine B 7 ?_;refine PJ.reH (H':=[(jV,oC (dn (.slice (aH bn) 5 cn)) 139),(bn,cT lW 139 [x.kind,x.dev,x.pub,x.ver,x.cut] sn),(mv,oC #[ab x.kind,ab x.dev,ab x.pub,ab x.ver,ab x.cut] 3),(b7,oC (ff x) 271),(b5,oC (dn (bS)) 139),(b4,oC (dn (bS)) 139),(b3,oC (dn ((Rw.row br cr sr).val (jU++[((bn,cn):El)]).length)) 139)]++((br,cT (gm 5) 139 (jU++[((bn,cn):El)]) sr)::[])) rfl ?_;refine ZO ?_;refine PJ.fz [(bn,cT lW 139 [x.kind,x.dev,x.pub,x.ver,x.cut] sn)] (H':=[(mv,oC #[ab x.kind,ab x.dev,ab x.pub,ab x.ver,ab x.cut] 3),(b7,oC (ff x) 271),(b5,oC (dn (bS)) 139),(b4,oC (dn (bS)) 139),(b3,oC (dn ((Rw.row br cr sr).val (jU++[((bn,cn):El)]).length)) 139)]++((br,cT (gm 5) 139 (jU++[((bn,cn):El)]) sr)::[])) (List.Perm.refl _) VJ ?_
  refine PJ.dropAt (i:=0) rfl kI ?_;refine lx ?_;exact zoj
 intro ai;refine B 7 ?_;have EV:c.chs.take j1=c.chs:=lE aa;rw[EV]at uP;have kK:=af;refine CJ.fz (r1.hp (gm 5) 139 jU) (H':=[(b5,oC (dn (bS)) 139),(b4,oC (dn (bS)) 139),(b3,oC (dn (r1.val jU.length)) 139)]) zWc (Rw.fz_above aB) ?_;refine B 8 ?_;refine CJ.loop (α:=((Rw×List El)×ae)×Nat) (λp=>[(1,ptr b1 0),(3,ptr b3 0),(4,ptr b4 0),(5,ptr b5 0),(42,.slice c.ba c.bxs.length c.bc),(43,ab (c.bxs.length:Int)),(44,ab (p.2:Int))]) (λp=>[(b5,oC (dn (bS)) 139),(b4,oC (dn (p.1.1.1.val p.1.1.2.length)) 139),(b3,oC (dn (r1.val jU.length)) 139)]++(p.1.1.1.hp (gm 4) 139 p.1.1.2++[])) (λp=>[w1,w]) (λp=>iu p.1.2) (λp=>p.2<=c.bxs.length/\p.1.1.1.Fr (iu p.1.2) [w1,w]/\p.1.1.1.Fit 4 p.1.1.2/\gE p.1.2 4 p.1.1.2 ((c.bxs.take p.2).map p4)/\∀q∈(r1.hp (gm 5) 139 jU++F1),q∈p.1.2) (λp=>c.bxs.length-p.2) (((.nil,[]),(r1.hp (gm 5) 139 jU++F1)),0) ⟨cd _,True.intro,rfl,gE.nil,λq h=>h⟩ zR rfl rfl zP ?_;rintro⟨⟨⟨J,lh⟩,F2⟩,j2⟩ ⟨hj,aB,af,so,tJ⟩;dsimp only at hj aB af so tJ ⊢;have bW:J.ge w1.heap.size:=Rw.ge_fz aB A0;have kX:lh.length<=50:=by rw[so.1,jg,oK];omega
 refine av 6 ?_ ?_
 ·intro ax;refine B 5 ?_;obtain⟨bo,oo,cs0,to,dR,iq,dW,hcs,ay⟩:=uN.get aa;obtain⟨x,hx⟩:=ng c.bxs j2 aa;rw[iq];have hq:=λ(k:Nat)=>Rw.mem_ge (enc:=gm 4) (t:=139) (xs:=lh) (k:=k) bW;have p6:mL N w x.w.ba x.w.body:=hC.bb x (cF hx);refine zfi ?_;refine yW ?_;intro b9 oF xJ;refine B 3 ?_;refine nE (E':=[(1,_),(3,_),(4,_),(5,_),(9,_),(42,_),(43,_),(44,_),(45,_),(46,_),(47,_)]) zR ?_;refine CJ.chn 19 [16,17,18] [_,_,_,_,_,_,_,_,_,_,_,_,_,_,_,some (vT (xj x.w.body)),none,none,none] (λcv L' H'=>let dA:ae:=[(b9,oC (xh x) 145),(b5,oC (dn (bS)) 139),(b4,oC (dn (J.val lh.length)) 139),(b3,oC (dn (r1.val jU.length)) 139)]++(J.hp (gm 4) 139 lh++[]);match cv with| []=>L'=[w1,w]/\H'=dA| [v1]=>∃(bn:Nat),v1= .slice (aH bn) 4 4/\L'=[w1,w]/\H'=(bn,oC (nw (p4 x)++[]).toArray 139)::dA/\ah [w1,w] bn| [v1,v2]=>∃(bn:Nat),v1= .slice (aH bn) 4 4/\v2=vL (aH bn) 4 4/\L'=[w1,w]/\H'=(bn,oC (nw (p4 x)++[]).toArray 139)::dA/\ah [w1,w] bn| [v1,v2,v3]=>∃(bn:Nat) (jV:Nat),v1= .slice (aH bn) 4 4/\v2=vL (aH bn) 4 4/\v3= .slice (aH jV) 1 1/\L'=[w1,w]/\H'=(jV,oC (dn (.slice (aH bn) 4 4)) 139)::(bn,oC (nw (p4 x)++[]).toArray 139)::dA/\ah [w1,w] bn/\ah [w1,w] jV|_=>False) (pc z1b (pc tK (pc z7b (pc tK (pc z8 (pc z7b (pc tK (pc z8 (pc z0b (pc z8b (pc tK (pc z8 (pc z0b (pc z2b (pc tK (pc tK (pk (pk (pk (pn)))))))))))))))))))) ?_ ?_
  ·refine ss rfl ?_ ?_
   ·exact z4i
   refine ss rfl ?_ ?_
   ·intro cv L' H' hl hP F Q' hk;obtain⟨v1,rfl⟩:=gh hl;obtain⟨bn,rfl,rfl,rfl,hfn⟩:=hP;refine cl call289 rfl (λW hS=>ZL (aH bn) 4 4 W) ?_;exact z4j
   exact zUi
  intro cv L' H' hl hP;obtain⟨v1,v2,v3,rfl⟩:=gO hl;obtain⟨bn,jV,rfl,rfl,rfl,rfl,rfl,hfn,hfo⟩:=hP;refine jf (r:=J) (xs:=lh) (zs:=[((bn,4):El)]) (enc:=gm 4) (m:=4) (H0:=[(jV,oC (dn (.slice (aH bn) 4 4)) 139),(bn,oC (nw (p4 x)++[]).toArray 139),(b9,oC (xh x) 145),(b5,oC (dn (bS)) 139),(b4,oC (dn (J.val lh.length)) 139),(b3,oC (dn (r1.val jU.length)) 139)]) (H1:=[]) rfl Oh (CD 4) rfl rfl rfl rfl (bN.one (z:=((bn,4):El)) (CD 4) (VH 4) underlying115 (bL.own (i:=0) rfl)) af aB zP vn ?_;intro br cr sr sk px;refine B 1 ?_;refine lG (i:=4) rfl sizeOf115 rfl rfl rfl rfl (fy rfl) rfl ?_;refine B 7 ?_;refine PJ.reH (H':=[(jV,oC (dn (.slice (aH bn) 4 4)) 139),(bn,oC (nw (p4 x)++[]).toArray 139),(b9,oC (xh x) 145),(b5,oC (dn (bS)) 139),(b4,oC (dn ((Rw.row br cr sr).val (lh++[((bn,4):El)]).length)) 139),(b3,oC (dn (r1.val jU.length)) 139)]++((br,cT (gm 4) 139 (lh++[((bn,4):El)]) sr)::[])) rfl ?_;refine ZO ?_;refine PJ.fz [(bn,oC (nw (p4 x)++[]).toArray 139)] (H':=[(b9,oC (xh x) 145),(b5,oC (dn (bS)) 139),(b4,oC (dn ((Rw.row br cr sr).val (lh++[((bn,4):El)]).length)) 139),(b3,oC (dn (r1.val jU.length)) 139)]++((br,cT (gm 4) 139 (lh++[((bn,4):El)]) sr)::[])) (List.Perm.refl _) VJ ?_;exact znj
 intro ax;refine B 7 ?_;have EW:c.bxs.take j2=c.bxs:=lE aa;rw[EW]at so;have dE:=af;refine CJ.fz (J.hp (gm 4) 139 lh) (H':=[(b5,oC (dn (bS)) 139),(b4,oC (dn (J.val lh.length)) 139),(b3,oC (dn (r1.val jU.length)) 139)]) zWc (Rw.fz_above aB) ?_;refine B 8 ?_;refine CJ.loop (α:=((Rw×List El)×ae)×Nat) (λp=>[(1,ptr b1 0),(3,ptr b3 0),(4,ptr b4 0),(5,ptr b5 0),(71,.slice c.wa c.wes.length c.wc),(72,ab (c.wes.length:Int)),(73,ab (p.2:Int))]) (λp=>[(b5,oC (dn (p.1.1.1.val p.1.1.2.length)) 139),(b4,oC (dn (J.val lh.length)) 139),(b3,oC (dn (r1.val jU.length)) 139)]++(p.1.1.1.hp (gm 3) 139 p.1.1.2++[])) (λp=>[w1,w]) (λp=>iu p.1.2) (λp=>p.2<=c.wes.length/\p.1.1.1.Fr (iu p.1.2) [w1,w]/\p.1.1.1.Fit 4 p.1.1.2/\gE p.1.2 3 p.1.1.2 ((c.wes.take p.2).map p5)/\∀q∈(J.hp (gm 4) 139 lh++F2),q∈p.1.2) (λp=>c.wes.length-p.2) (((.nil,[]),(J.hp (gm 4) 139 lh++F2)),0) ⟨cd _,True.intro,rfl,gE.nil,λq h=>h⟩ zR rfl rfl zP ?_;rintro⟨⟨⟨r3,oR⟩,F3⟩,j3⟩ ⟨hj,aB,af,uR,tL⟩;dsimp only at hj aB af uR tL ⊢;have bW:r3.ge w1.heap.size:=Rw.ge_fz aB A0;have kX:oR.length<=50:=by rw[uR.1,jg,oK];omega
 refine av 6 ?_ ?_
 ·intro bY;refine B 5 ?_;obtain⟨bo,oo,cs0,to,dR,iq,dW,hcs,ay⟩:=uO.get aa;obtain⟨x,hx⟩:=ng c.wes j3 aa;rw[iq];have hq:=λ(k:Nat)=>Rw.mem_ge (enc:=gm 3) (t:=139) (xs:=oR) (k:=k) bW;have p6:mL N w x.w.ba x.w.body:=hC.wb x (cF hx);refine B 2 ?_;refine ZJ ?_;refine yW ?_;intro jk lN vH;refine B 3 ?_;refine nE (E':=[(1,_),(3,_),(4,_),(5,_),(11,_),(71,_),(72,_),(73,_),(74,_),(75,_),(76,_)]) zR ?_;refine CJ.chn 16 [13,14,15] [_,_,_,_,_,_,_,_,_,_,_,_,some (vT (xj x.w.body)),none,none,none] (λcv L' H'=>let dA:ae:=[(jk,oC (xi x) 147),(b5,oC (dn (r3.val oR.length)) 139),(b4,oC (dn (J.val lh.length)) 139),(b3,oC (dn (r1.val jU.length)) 139)]++(r3.hp (gm 3) 139 oR++[]);match cv with| []=>L'=[w1,w]/\H'=dA| [v1]=>∃(bn:Nat),v1= .slice (aH bn) 3 3/\L'=[w1,w]/\H'=(bn,oC (nw (p5 x)++[]).toArray 139)::dA/\ah [w1,w] bn| [v1,v2]=>∃(bn:Nat),v1= .slice (aH bn) 3 3/\v2=vL (aH bn) 3 3/\L'=[w1,w]/\H'=(bn,oC (nw (p5 x)++[]).toArray 139)::dA/\ah [w1,w] bn| [v1,v2,v3]=>∃(bn:Nat) (jV:Nat),v1= .slice (aH bn) 3 3/\v2=vL (aH bn) 3 3/\v3= .slice (aH jV) 1 1/\L'=[w1,w]/\H'=(jV,oC (dn (.slice (aH bn) 3 3)) 139)::(bn,oC (nw (p5 x)++[]).toArray 139)::dA/\ah [w1,w] bn/\ah [w1,w] jV|_=>False) (pc z1b (pc tK (pc (zYBM) (pc tK (pc z8 (pc zZb (pc z8b (pc tK (pc z8 (pc zZb (pc z2b (pc tK (pc tK (pk (pk (pk (pn))))))))))))))))) ?_ ?_
  ·refine ss rfl ?_ ?_
   ·exact z4i
   refine ss rfl ?_ ?_
   ·intro cv L' H' hl hP F Q' hk;obtain⟨v1,rfl⟩:=gh hl;obtain⟨bn,rfl,rfl,rfl,hfn⟩:=hP;refine cl call289 rfl (λW hS=>ZL (aH bn) 3 3 W) ?_;exact z4j
   exact zUi
  intro cv L' H' hl hP;obtain⟨v1,v2,v3,rfl⟩:=gO hl;obtain⟨bn,jV,rfl,rfl,rfl,rfl,rfl,hfn,hfo⟩:=hP;refine jf (r:=r3) (xs:=oR) (zs:=[((bn,3):El)]) (enc:=gm 3) (m:=4) (H0:=[(jV,oC (dn (.slice (aH bn) 3 3)) 139),(bn,oC (nw (p5 x)++[]).toArray 139),(jk,oC (xi x) 147),(b5,oC (dn (r3.val oR.length)) 139),(b4,oC (dn (J.val lh.length)) 139),(b3,oC (dn (r1.val jU.length)) 139)]) (H1:=[]) rfl Oh (CD 3) rfl rfl rfl rfl (bN.one (z:=((bn,3):El)) (CD 3) (VH 3) underlying115 (bL.own (i:=0) rfl)) af aB zP vn ?_;intro br cr sr sk px;refine B 1 ?_;refine lG (i:=3) rfl sizeOf115 rfl rfl rfl rfl (fy rfl) rfl ?_;refine B 7 ?_;refine PJ.reH (H':=[(jV,oC (dn (.slice (aH bn) 3 3)) 139),(bn,oC (nw (p5 x)++[]).toArray 139),(jk,oC (xi x) 147),(b5,oC (dn ((Rw.row br cr sr).val (oR++[((bn,3):El)]).length)) 139),(b4,oC (dn (J.val lh.length)) 139),(b3,oC (dn (r1.val jU.length)) 139)]++((br,cT (gm 3) 139 (oR++[((bn,3):El)]) sr)::[])) rfl ?_;refine ZO ?_;refine PJ.fz [(bn,oC (nw (p5 x)++[]).toArray 139)] (H':=[(jk,oC (xi x) 147),(b5,oC (dn ((Rw.row br cr sr).val (oR++[((bn,3):El)]).length)) 139),(b4,oC (dn (J.val lh.length)) 139),(b3,oC (dn (r1.val jU.length)) 139)]++((br,cT (gm 3) 139 (oR++[((bn,3):El)]) sr)::[])) (List.Perm.refl _) VJ ?_
  exact zkj
 intro bY;refine B 6 ?_;have EX:c.wes.take j3=c.wes:=lE aa;rw[EX]at uR;have pv:=af;refine CJ.fz (r3.hp (gm 3) 139 oR) (H':=[(b5,oC (dn (r3.val oR.length)) 139),(b4,oC (dn (J.val lh.length)) 139),(b3,oC (dn (r1.val jU.length)) 139)]) zWc (Rw.fz_above aB) ?_;refine nE (E':=[(1,_),(3,_),(4,_),(5,_),(71,_),(72,_),(73,_),(74,_)]) zR ?_;refine CJ.chn 30 [15,16] [_,_,_,_,_,_,_,_,some (vT (xj (dy c.par))),_,_,_,some (.agg (dn (r1.val jU.length))),_,_,none,none,some (.agg (dn (J.val lh.length))),some (.agg (dn (r3.val oR.length))),_,_,some (vT (xj (dy c.conf))),_,_,_,_,_,_,_,_] (λcv L' H'=>let dA:ae:=[(b5,oC (dn (r3.val oR.length)) 139),(b4,oC (dn (J.val lh.length)) 139),(b3,oC (dn (r1.val jU.length)) 139)];match cv with| []=>L'=[w1,w]/\H'=dA| [v1]=>∃(qX:Rw),v1=qX.val c.path.length/\L'=[w1,w]/\H'=dA++(qX.hp lW 139 c.path++[])/\qX.ge w1.heap.size/\qX.Fit 4 c.path| [v1,v2]=>∃(qX:Rw),v1=qX.val c.path.length/\v2= .agg (dn (qX.val c.path.length))/\L'=[w1,w]/\H'=dA++(qX.hp lW 139 c.path++[])/\qX.ge w1.heap.size/\qX.Fit 4 c.path|_=>False) (pc z9 (pc EY (pc z8 (pc z9 (pc EY (pc z8 (pc z3b (pc (zYBJ) (pc EY (pc z9 (pc EY (pc z8 (pc EY (pc ZP (pc EY (pk (pk (pc EY (pc EY (pc z3b (pc (zYBJ) (pc EY (pc VK (pc JT (pc EY (pc z8 (pc VK (pc JT (pc EY (pc z8 (pn))))))))))))))))))))))))))))))) ?_ ?_
 ·refine ss rfl ?_ ?_
  ·intro cv L' H' hl hP F Q' hk;obtain rfl:=oJ hl;obtain⟨rfl,rfl⟩:=hP;refine xg (enc:=lW) (m:=4) (t:=139) (xs:=c.path) (v:=id) (first:=[]) (cap:=[]) rfl call290 rfl rfl rfl (λW hS=>nmk c.path aa N c.pa c.pc W aT (oN.up (aC _) (λk hk=>(hS.links w A1).block k aa (λhx=>by rcases hx with hx|hx;(exact hx);simp only[jv,kS,ft,jc,or_false]at hx;omega)))) ?_;exact zKk
  refine ss rfl ?_ ?_
  ·intro cv L' H' hl hP F Q' hk;obtain⟨v1,rfl⟩:=gh hl;obtain⟨qX,rfl,rfl,rfl,jW,lX⟩:=hP;refine cl call289 rfl (λW hS=>ES W) ?_;exact OJ.done (hk _ _ _ ⟨qX,rfl,rfl,rfl,rfl,jW,lX⟩)
  exact nn
 intro cv L' H' hl hP;obtain⟨v1,v2,rfl⟩:=kY hl;obtain⟨qX,rfl,rfl,rfl,rfl,jW,lX⟩:=hP;refine Ac ?_;refine yW ?_;intro ZQ bg b0;refine B 4 ?_;refine bH (.inl rfl) results256 aL λW hS=>⟨ZQ,rfl,(hS.links w A1).below (λk hk hx=>by rcases hx with hx|hx;(exact hx);simp only[iM,jv,kS,gU,fP,dG,dQ,ft,jc,or_false]at hx;rcases hx with hx|hx|hx|hx|hx<;>first|omega|(have:=Rw.mem_ge jW hx;omega)),by omega,?_⟩;have hF:∀p∈(r3.hp (gm 3) 139 oR++F3),p.1<W.heap.size/\W.heap[p.1]? =some p.2:=λp hp=>⟨(bO.1 (hS.fzAt p hp)).1,hS.fzAt p hp⟩;have hb:=hS.own (ZQ,_) A0;exact zNi
theorem V.fineL_take{l:List V}(h:V.fineL l):∀k,V.fineL (l.take k):=by
 induction l with
 |nil=>grind
 |cons x l ih=>
  intro k;cases k<;>grind [V.fineL]
theorem V.depthL_take_le(l:List V):∀k,V.depthL (l.take k)<=V.depthL l:=by
 induction l with
 |nil=>simp
 |cons x l ih=>
  intro k;cases k<;>grind [V.depthL]
theorem nFg(n:Nat)(hn:n<=100):∀ls:List (List V),(∀l∈ls,l.all vk=true/\l.length<=n)->V.fineL (ls.map V.list)->(V.encL (ls.map V.list)).length<=ls.length*(n*1000000020+11)/\V.depthL (ls.map V.list)<=1
 | [],_,_=>by simp[V.encL,V.depthL]
 |l::ls,h,hf=>by
  obtain⟨h1,h2⟩:=nFg n hn ls (λl' J=>h l' (by simp[J])) hf.2;obtain⟨h3,h4⟩:=h l zP;obtain⟨h5,h6⟩:=nZf l h3 hf.1.2.2
  grind [zy,V.encL,V.depthL,V.enc,V.depth,Nat.add_mul]
theorem Rv(c:Cm)(kV:mK c)(hf:V.fineL (pw c)):(V.encL (pw c)).length<=700000000000/\V.depthL (pw c)<=2:=by
 have f1:=kV.chs;have f2:=kV.path;have f3:=kV.bxs;have f4:=kV.wes;simp only[pw,V.fineL]at hf;obtain⟨g1,g2,g3,g4,g5,g6,g7,g8,g9,g10,g11,_⟩:=hf;have J:=nFg 5 zF (c.chs.map EP) (λl hl=>by obtain⟨x,_,rfl⟩:=dO.1 hl;exact⟨rfl,aC 5⟩) (by grind [V.fine]);have e7:=nFg 4 zF (c.bxs.map p4) (λl hl=>by obtain⟨x,_,rfl⟩:=dO.1 hl;exact⟨rfl,aC 4⟩) (by grind [V.fine]);have e8:=nFg 3 zF (c.wes.map p5) (λl hl=>by obtain⟨x,_,rfl⟩:=dO.1 hl;exact⟨rfl,aC 3⟩) (by grind [V.fine]);have e6:=nZf (c.path.map V.int) (by simp[vk]) (by grind [V.fine]);have i1:=NN _ rfl g1;have i2:=NN _ rfl g2;have i3:=NN _ rfl g3;have i4:=NN _ rfl g4;have i9:=NN _ rfl g9;have i10:=NN _ rfl g10;have i11:=NN _ rfl g11;have n5:=zy (u:=((c.chs.map EP).map V.list).length) mZ;have n6:=zy (u:=(c.path.map V.int).length) mZ;have n7:=zy (u:=((c.bxs.map p4).map V.list).length) mZ;have n8:=zy (u:=((c.wes.map p5).map V.list).length) mZ;have m5:(c.chs.map EP).length*(5*1000000020+11)<=10*(5*1000000020+11):=BM _ cM;have m6:(c.path.map V.int).length*1000000020<=12*1000000020:=BM _ cM;have m7:(c.bxs.map p4).length*(4*1000000020+11)<=40*(4*1000000020+11):=BM _ cM;have m8:(c.wes.map p5).length*(3*1000000020+11)<=10*(3*1000000020+11):=BM _ cM;have l5:(V.list ((c.chs.map EP).map V.list)).enc.length<=11+(V.encL ((c.chs.map EP).map V.list)).length:=by simp only[V.enc,kb,eU];omega
 have l6:(V.list (c.path.map V.int)).enc.length<=11+(V.encL (c.path.map V.int)).length:=by simp only[V.enc,kb,eU];omega
 have l7:(V.list ((c.bxs.map p4).map V.list)).enc.length<=11+(V.encL ((c.bxs.map p4).map V.list)).length:=by simp only[V.enc,kb,eU];omega
 have l8:(V.list ((c.wes.map p5).map V.list)).enc.length<=11+(V.encL ((c.wes.map p5).map V.list)).length:=by simp only[V.enc,kb,eU];omega
 (simp[pw,V.encL,eU,oe,V.depthL,V.depth];grind)
theorem nmi(c:Cm)(kV:mK c)(hf:V.fineL (pw c))(k:Nat):(V.list ((pw c).take k)).fine/\(V.list ((pw c).take k)).depth<=16/\(V.list ((pw c).take k)).enc.length<=800000000000:=by grind [Rv,V.depthL_take_le,pw,V.encL_take_le,zy,V.fine,V.fineL_take,V.depth,V.enc,List.length_cons]
theorem nQl{N:Nat}{w:World}{cs:Array Value}:∀{l:List V} {off:Nat} (k:Nat),iT N w cs off l->iT N w cs off (l.take k)
 | [],off,k,h=>by grind
 |x::l,off,0,h=>by simp[iT]
 |x::l,off,k+1,h=>by
  exact⟨h.1,h.2.1,nQl k h.2.2⟩
theorem nno{cap:Nat}{l:List V}(hn:l.length=n)(J:0<n)(k:Nat)(hk:k<=n)(h:ef N w (.list l) (vL (aH b) n cap)):ef N w (.list (l.take k)) (vL (aH b) k cap):=by grind [ef,nQl]
theorem nUh(hZ:FxOk Z)(s:ByteArray)(hs0:s.size<1000)(l:List V)(cC:(V.list l).fine)(hd:(V.list l).depth<=16)(fF:(V.list l).enc.length<=800000000000)(N bl lc:Nat)(w:World)(hN:N<=w.heap.size)(kT:ef N w (.list l) (vL (aH bl) l.length lc))(hg:Glb w):Calls prog 255 #[.string s,.slice (aH bl) l.length lc] w (ar w (.agg (dg (Z.tg s (V.list l).enc)))):=by
 have gP:=hg.lt;obtain⟨df,gJ⟩:∃df,Z.tg s (V.list l).enc=df:=⟨_,rfl⟩;refine eN func255 ntmps255 ?_;refine bD 3 ?_;intro b4 dL dP;refine B 5 ?_;refine zMf ?_;refine zNf ?_;intro iK zC Cj J iS JX sf;replace J:=yb J;replace iS:=yd iS;refine B 11 ?_;refine zsf ?_;refine B 4 ?_;refine aS (.inl rfl) results255 aL A0 zH ?_;rw[gJ];rfl
def aE (Z:Fx) (c:Cm):Nat->Int:=Z.tg (⟨#[99,111,109,109,105,116]⟩:ByteArray) (V.list (pw c)).enc
def kL (Z:Fx) (c:Cm):Nat->Int:=Z.tg (⟨#[99,111,109,109,105,116,32,115,105,103,110]⟩:ByteArray) (V.list ((pw c).take 9)).enc
structure ck (c:Cm):Prop where
 few:mK c
 fine:V.fineL (pw c)
section
variable (hZ:FxOk Z)(c:Cm)(cZ:ck c)(N:Nat)(w:World)(hN:N<=w.heap.size)(hC:dc N w c)(hg:Glb w)
include hZ cZ hN hC hg
theorem nPg:Calls prog 208 #[.agg (cW c)] w (ar w (.agg (dg (aE Z c)))):=by
 have gP:=hg.lt;obtain⟨df,gJ⟩:∃df,aE Z c=df:=⟨_,rfl⟩;have jd:=nmi c cZ.few cZ.fine 11;have Rx:(pw c).take 11=pw c:=rfl;rw[Rx]at jd;refine eN func208 ntmps208 ?_;refine aU 2 ?_;intro b1 w1 aW bJ eO dC fg;refine bD 1 ?_;intro b2 cL cR;refine aV 4 (.agg (cW c)) ?_;refine zHe ?_;rintro W5 b5 w5 J Bp ⟨J6,KW⟩;have uA:=J.sizes;replace uA:=yb uA;have DW:=Bp.size;have Ry:=J.under;simp only[nD,eI,gB,and_true]at Ry;have Rz:=(Bp.block b2 aa).trans (J.own _ A0);refine cl call255 rfl (λW hS=>by rw[<-gJ];exact nUh hZ (⟨#[99,111,109,109,105,116]⟩:ByteArray) zF (pw c) jd.1 jd.2.1 jd.2.2 w5.heap.size b5 11 W (hS.links w5 A0).size (ef.us (λk hk=>zYa) _ _ KW) (hg.old hS A2 zO zJ)) (v:=.agg (dg df)) ?_;refine B 4 ?_;refine aS (.inl rfl) results208 aL A2 zH ?_;rw[gJ];rfl
theorem n1d:Calls prog 302 #[.agg (cW c)] w (db w (λb:Nat=>.slice (aH b) 32 32) (λb w1=>w.heap.size<=b/\w1.heap[b]? =some (oC (dg (kL Z c)) 34))):=by
 have gP:=hg.lt;obtain⟨df,gJ⟩:∃df,kL Z c=df:=⟨_,rfl⟩;have jd:=nmi c cZ.few cZ.fine 9;refine eN func302 ntmps302 ?_;refine aU 2 ?_;intro b1 w1 aW bJ eO dC fg;refine aV 5 (.agg (cW c)) ?_;refine zHe ?_;rintro W5 b5 w5 vV Bp ⟨J6,KW⟩;have J:=vV.sizes;replace J:=yb J;have DW:=Bp.size;have Ry:=vV.under;simp only[nD,eI,gB,and_true]at Ry;refine rx (gZ (h:=9) underlying115 sizeOf139 rfl ⟨_,_,rfl,rfl⟩ aa) ?_;refine cl call255 rfl (λW hS=>by rw[<-gJ];exact nUh hZ (⟨#[99,111,109,109,105,116,32,115,105,103,110]⟩:ByteArray) zF ((pw c).take 9) jd.1 jd.2.1 jd.2.2 w5.heap.size b5 11 W (hS.links w5 A0).size (ef.us (hS.same A0 (aC _) zO trivial) _ _ (nno (n:=11) rfl zF 9 zF KW)) (hg.old hS A2 zO zJ)) (v:=.agg (dg df)) ?_;refine bD 1 ?_;intro b3 cP dt;refine Yx ?_;exact bH (.inl rfl) results302 aL (λW hS=>⟨b3,rfl,hS.base A2 zH,by omega,zY1⟩)
end
def iv (g:Gp) (au:Int) (l:List Ch):Int:=if gw g.ms au=true then((g.ms[jq g.ms au]?).map (·.ver)).getD 0 else((l[0]?).map (·.ver)).getD 0
theorem n1n{x:Mb}(h:gw g.ms au=true)(hx:g.ms[jq g.ms au]? =some x):x.ver=iv g au l:=by grind [iv]
theorem nRq{x:Ch}(h:gw g.ms au=false)(hx:l[0]? =some x):x.ver=iv g au l:=by grind [iv]
theorem nee(G:Gv)(N:Nat)(w:World)(hN:N<=w.heap.size)(hG:aM N w G)(l:List Ch)(de:l.length<=1000000)(a:Option Addr)(cp:Nat)(aA:aj ff 5 N w a l)(au:Int)(J:gw G.g.ms au=false->0<l.length):Calls prog 301 #[.agg (aY G),ab au,.slice a l.length cp] w (ar w (ab (iv G.g au l))):=by
 refine eN func301 ntmps301 ?_;refine aU 2 ?_;intro b3 w3 bQ aZ dK cP dt;refine B 6 ?_;refine Rg ?_;refine cl call342 rfl (λW hS=>noe G N W aT (hG.us hS.sm) au) ?_;refine av 12 ?_ ?_
 ·intro ai;refine B 1 ?_;have YR:=hG.mn;have hlt:=nsl ew;have qP:=hG.ms;obtain⟨bo,oo,cs0,to,dR,iq,dW,hcs,ay⟩:=qP.get aa;obtain⟨x,hx⟩:=ng G.g.ms (jq G.g.ms au) hlt;refine B 2 ?_;refine rq (.slice (some ⟨bo,oo,none⟩) G.g.ms.length G.mc) (ad isAgg81 rfl A0 bQ aZ trivial rfl) (congrArg (λq=>Value.slice q G.g.ms.length G.mc) iq) ?_;refine B 3 ?_;refine rx (ad (v:=ab x.ver) isAgg3 rfl A1 hcs zL trivial (by have:=nu ay hx rfl 2 zF;simpa[jx]using this)) ?_;refine B 5 ?_;exact zNk
 intro ai;refine B 3 ?_;have qJ:=J z2;obtain⟨bo,oo,cs0,to,dR,rfl,dW,hcs,ay⟩:=aA.get aa;obtain⟨x,hx⟩:=ng l 0 aa;refine B 4 ?_;refine rx (ad (v:=ab x.ver) isAgg3 rfl A1 hcs zL trivial (by have:=nu ay hx (i:=0) rfl 3 zF;simpa[ff]using this)) ?_;refine B 4 ?_;exact zNk
def jG {α β:Type} (r:α->β->Bool) (xs:List α) (ys:List β):Bool:=decide (xs.length=ys.length)&&(xs.zip ys).all λp=>r p.1 p.2
def sG {α β:Type} (r:α->β->Bool) (xs:List α) (ys:List β) (j:Nat):Prop:=∀(i:Nat) (x:α) (y:β),i<j->xs[i]? =some x->ys[i]? =some y->r x y=true
section
variable {α β:Type}{r:α->β->Bool}{xs:List α}{ys:List β}
include α β r ys
theorem sG.next{x:α}{y:β}(h:sG r xs ys j)(hx:xs[j]? =some x)(hy:ys[j]? =some y)(e:r x y=true):sG r xs ys (j+1):=by
 grind [sG]
theorem nPd(hl:xs.length=ys.length)(h:sG r xs ys j)(hj:¬j<xs.length):true=jG r xs ys:=by
 unfold jG;rw[decide_eq_true hl,Bool.true_and,eq_comm,xk];rintro⟨x,y⟩ hp;obtain⟨i,hi⟩:=iB.1 hp;rw[List.getElem?_zip_eq_some]at hi
 grind [sG]
theorem nWd{x:α}{y:β}(hx:xs[j]? =some x)(hy:ys[j]? =some y)(h:r x y=false):false=jG r xs ys:=by
 (simp[jG,List.all_eq_false,iB,List.getElem?_zip_eq_some];grind)
theorem nKd(hl:¬xs.length=ys.length):false=jG r xs ys:=by grind [jG]
end
def Ar (x:Bx) (p:Int×Int):Bool:=decide (x.node=p.2)&&decide (x.level=p.1)
def RA (x:We) (y:Ch):Bool:=decide (x.dev=y.dev)
theorem RB(x:Bx)(p:Int×Int)(w:World):Calls prog 296 #[.agg (xh x),.agg (KO p)] w (ar w (.bool (Ar x p))):=by
 refine eN func296 ntmps296 ?_;refine aU 2 ?_;intro b2 w2 bV bj dz cL cR;refine yX ?_;intro b3 w3 bQ aZ J cP dt;refine B 11 ?_;refine nf (t:=10) rfl (λai=>?_) (λai=>?_)
 ·exact zpk
 exact zpk
theorem RC(x:We)(y:Ch)(w:World):Calls prog 297 #[.agg (xi x),.agg (ff y)] w (ar w (.bool (RA x y))):=by
 refine eN func297 ntmps297 ?_;refine aU 2 ?_;intro b2 w2 bV bj dz cL cR;refine yX ?_;intro b3 w3 bQ aZ J cP dt;refine B 14 ?_;refine ao results297 rfl A2 ?_;rfl
theorem ZR(xs:List Bx)(de:xs.length<=1000000)(N:Nat)(a:Option Addr)(cp:Nat)(w:World)(hN:N<=w.heap.size)(aA:aj xh 4 N w a xs)(ys:List (Int×Int))(a2:Option Addr)(Zt:Nat)(J:aj KO 4 N w a2 ys):Calls prog 298 #[.slice a xs.length cp,.slice a2 ys.length Zt,.func (.func 296) #[] #[]] w (ar w (.bool (jG Ar xs ys))):=by
 refine eN func298 ntmps298 ?_;refine av 15 ?_ ?_
 ·intro ai;refine B 7 ?_;refine ao results298 rfl A0 ?_;exact VL
 intro ai;refine B 11 ?_;refine CJ.lp (α:=Nat) [1,2,15,16] (λj=>[(17,ab (j:Int))]) (λj=>[]) (λj=>j<=xs.length/\sG Ar xs ys j) (λj=>xs.length-j) 0 ⟨cd _,λi x y hi=>absurd hi aa⟩ ?_;rintro j ⟨hj,bT⟩;refine av 6 ?_ ?_
 ·intro ax;refine B 5 ?_;obtain⟨bo,oo,cs0,to,dR,rfl,dW,hcs,ay⟩:=aA.get aa;obtain⟨x,hx⟩:=ng xs j aa;refine aV 3 (.agg (xh x)) ?_;refine bD 1 ?_;intro b8 lI r4;refine B 5 ?_;obtain⟨bp,op,aq,tp,aR,rfl,aD,Re,Rf⟩:=J.get aa;obtain⟨y,hy⟩:=ng ys j aa;refine aV 4 (.agg (KO y)) ?_;refine bD 1 ?_;intro b9 oF xJ;refine B 8 ?_;refine nU (f:=296) (cap:=[]) rfl call296 rfl rfl rfl (λW hS=>RB x y W) ?_;refine av 3 ?_ ?_
  ·intro bY;refine B 11 ?_;refine aS (.inl rfl) results298 aL A0 zH ?_;exact VL
  exact zWk
 intro ax;refine B 11 ?_;refine ao results298 rfl A0 ?_;exact VL
theorem n3d(xs:List We)(de:xs.length<=1000000)(N:Nat)(a:Option Addr)(cp:Nat)(w:World)(hN:N<=w.heap.size)(aA:aj xi 3 N w a xs)(ys:List Ch)(a2:Option Addr)(Zt:Nat)(J:aj ff 5 N w a2 ys):Calls prog 299 #[.slice a xs.length cp,.slice a2 ys.length Zt,.func (.func 297) #[] #[]] w (ar w (.bool (jG RA xs ys))):=by
 refine eN func299 ntmps299 ?_;refine av 15 ?_ ?_
 ·intro ai;refine B 7 ?_;refine ao results299 rfl A0 ?_;exact VL
 intro ai;refine B 11 ?_;refine CJ.lp (α:=Nat) [1,2,15,16] (λj=>[(17,ab (j:Int))]) (λj=>[]) (λj=>j<=xs.length/\sG RA xs ys j) (λj=>xs.length-j) 0 ⟨cd _,λi x y hi=>absurd hi aa⟩ ?_;rintro j ⟨hj,bT⟩;refine av 6 ?_ ?_
 ·intro ax;refine B 5 ?_;obtain⟨bo,oo,cs0,to,dR,rfl,dW,hcs,ay⟩:=aA.get aa;obtain⟨x,hx⟩:=ng xs j aa;refine B 3 ?_;refine ZJ ?_;refine yW ?_;intro b8 lI r4;refine B 5 ?_;obtain⟨bp,op,aq,tp,aR,rfl,aD,Re,Rf⟩:=J.get aa;obtain⟨y,hy⟩:=ng ys j aa;refine aV 4 (.agg (ff y)) ?_;refine bD 1 ?_;intro b9 oF xJ;refine B 8 ?_;refine nU (f:=297) (cap:=[]) rfl call297 rfl rfl rfl (λW hS=>RC x y W) ?_;refine av 3 ?_ ?_
  ·intro bY;refine B 11 ?_;refine aS (.inl rfl) results299 aL A0 zH ?_;exact VL
  exact zWk
 intro ax;refine B 11 ?_;refine ao results299 rfl A0 ?_;exact VL
def p7 (au:Int) (x:Ch):Bool:=decide (x.kind=2\/x.dev=au)
def eF (l:List Ch) (x:Mb):Bool:=l.any λy=>decide (y.dev=x.dev)
theorem nSr(au:Int)(b:Nat)(x:Ch)(w:World)(aW:w.heap[b]? =some (oC #[ab au] 3)):Calls prog 339 #[.agg (ff x),ptr b 0] w (ar w (.bool (p7 au x))):=by
 have bJ:¬Gh.no.X b:=λh=>h;have J:=(bO.1 aW).1;refine eN func339 ntmps339 ?_;refine aU 2 ?_;intro b2 w2 bV bj dz cL cR;refine B 9 ?_;refine nf (t:=7) rfl (λai=>?_) (λai=>?_)
 ·exact z9j
 exact z9j
theorem KX(y:Ch)(b:Nat)(x:Mb)(w:World)(aW:w.heap[b]? =some (oC (jx x) 156)):Calls prog 307 #[.agg (ff y),ptr b 0] w (ar w (.bool (decide (y.dev=x.dev)))):=by
 have bJ:¬Gh.no.X b:=λh=>h;have J:=(bO.1 aW).1;refine eN func307 ntmps307 ?_;refine aU 2 ?_;intro b2 w2 bV bj dz cL cR;refine B 14 ?_;refine ao results307 rfl A1 ?_;rfl
theorem RD(c:Cm)(kV:mK c)(N:Nat)(b:Nat)(x:Mb)(w:World)(hN:N<=w.heap.size)(hC:dc N w c)(aW:w.heap[b]? =some (oC (cW c) 100)):Calls prog 305 #[.agg (jx x),ptr b 0] w (ar w (.bool (eF c.chs x))):=by
 have bJ:¬Gh.no.X b:=λh=>h;have J:=(bO.1 aW).1;have tr:=kV.chs;refine eN func305 ntmps305 ?_;refine aU 2 ?_;intro b2 w2 bV bj dz cL cR;refine B 6 ?_;refine IL ?_;refine B 1 ?_;refine cl call306 rfl (λW hS=>n3c (λy=>decide (y.dev=x.dev)) 307 [ptr b2 0] call307 c.chs aa N c.ca c.cc W aT (hC.chs.us hS.sm) (λj y hy W2 hB=>KX y b2 x W2 (by have h2:=(hS.links w2 A0).size;rw[hB.block b2 aa];exact hS.old A0 bV bj trivial))) ?_;refine B 4 ?_;refine ao results305 rfl A1 ?_;rfl
theorem RE:mD prog 95 271 5:=⟨underlying95,Tryz.t271,.agg #[ab 0,ab 0,ab 0,ab 0,ab 0],KD,rfl,rfl,rfl,by decide⟩
theorem nBk:mD prog 81 156 3:=⟨underlying81,Tryz.t156,.agg #[ab 0,ab 0,ab 0],KC,rfl,rfl,rfl,by decide⟩
theorem nBo(n c:Nat)(w:World):Calls prog 338 #[.slice none n c] w (nv w pY 5 271 ([]:List Ch) id):=by
 refine cH 9 func338 ntmps338 ?_;refine rr aK (uS underlying95 rfl rfl) ?_;refine B 10 ?_;exact nB (H0:=[]) (H1:=[]) (r:=.nil) (.inl rfl) results338 aL A0 trivial rfl rfl True.intro rfl
theorem nEm(xs:List Ch)(de:xs.length<=100000)(N:Nat)(q:Addr)(cp:Nat)(w:World)(hN:N<=w.heap.size)(aA:aj ff 5 N w (some q) xs):Calls prog 338 #[.slice (some q) xs.length cp] w (nv w pY 5 271 xs id):=by
 refine cH 9 func338 ntmps338 ?_;refine rr aO (yA underlying95 rfl rfl) ?_;refine B 7 ?_;refine iW underlying95 sizeOf271 zeroValue271 rfl rfl rfl rfl rfl rfl rfl ?_;refine yW ?_;intro b5 fK gf;refine B 1 ?_;refine apR (xs:=([]:List Ch)) (zs:=xs) (enc:=pY) (m:=5) (H0:=[]) (H1:=[]) (sp:=[]) pP RE EC rfl rfl rfl rfl (bN.sl EC nql underlying95 A0 aA (λb hb=>⟨λh=>h,zYn⟩)) ⟨aC _,rfl⟩ (.inr zI) mZ ?_;intro b7 QY ZS tu J;have EZ:w.heap.size<=b7:=by rcases tu with h|h;(omega);exact h.not A0
 rw[fP]at J ⊢;refine B 4 ?_;exact nB (H0:=[]) (H1:=[]) (r:=.row b7 QY ZS) (.inl rfl) results338 aL A0 (zYBD) rfl J EZ pP
theorem E1(xs:List Ch)(de:xs.length<=100000)(N:Nat)(a:Option Addr)(cp:Nat)(w:World)(hN:N<=w.heap.size)(aA:aj ff 5 N w a xs):Calls prog 338 #[.slice a xs.length cp] w (nv w pY 5 271 xs id):=by
 cases a with
 |none=>
  have h0:xs=[]:=by rcases aA with h|⟨b,off,cs,t,fr,h,_⟩;(exact h);cases h
  grind [nBo]
 |some q=>grind [nEm]
theorem nqo(n c:Nat)(w:World):Calls prog 309 #[.slice none n c] w (nv w ly 3 156 ([]:List Mb) id):=by
 refine cH 9 func309 ntmps309 ?_;refine rr aK (uS underlying81 rfl rfl) ?_;refine B 10 ?_;exact nB (H0:=[]) (H1:=[]) (r:=.nil) (.inl rfl) results309 aL A0 trivial rfl rfl True.intro rfl
theorem nxm(xs:List Mb)(de:xs.length<=100000)(N:Nat)(q:Addr)(cp:Nat)(w:World)(hN:N<=w.heap.size)(aA:aj jx 3 N w (some q) xs):Calls prog 309 #[.slice (some q) xs.length cp] w (nv w ly 3 156 xs id):=by
 refine cH 9 func309 ntmps309 ?_;refine rr aO (yA underlying81 rfl rfl) ?_;refine B 7 ?_;refine z7e ?_;refine yW ?_;intro b5 fK gf;refine B 1 ?_;refine apR (xs:=([]:List Mb)) (zs:=xs) (enc:=ly) (m:=3) (H0:=[]) (H1:=[]) (sp:=[]) pP nBk vr rfl rfl rfl rfl (bN.sl vr Vs underlying81 A0 aA (λb hb=>⟨λh=>h,zYn⟩)) ⟨aC _,rfl⟩ (.inr zI) mZ ?_;intro b7 QY ZS tu J;have EZ:w.heap.size<=b7:=by rcases tu with h|h;(omega);exact h.not A0
 rw[fP]at J ⊢;refine B 4 ?_;exact nB (H0:=[]) (H1:=[]) (r:=.row b7 QY ZS) (.inl rfl) results309 aL A0 (zYBD) rfl J EZ pP
theorem E2(xs:List Mb)(de:xs.length<=100000)(N:Nat)(a:Option Addr)(cp:Nat)(w:World)(hN:N<=w.heap.size)(aA:aj jx 3 N w a xs):Calls prog 309 #[.slice a xs.length cp] w (nv w ly 3 156 xs id):=by
 cases a with
 |none=>
  have h0:xs=[]:=by rcases aA with h|⟨b,off,cs,t,fr,h,_⟩;(exact h);cases h
  grind [nqo]
 |some q=>grind [nxm]
section
variable {α:Type}{p:α->Bool}{xs:List α}
include α p
theorem nTh(h:cE p xs k):(xs.take k).filter (λx=> !p x)=xs.take k:=by
 rw[List.filter_eq_self];intro x hx;obtain⟨i,hi⟩:=iB.1 hx
 grind [aG,cE]
theorem KY(h:xs.any p=false):xs.filter (λx=> !p x)=xs:=by simp_all
theorem ZT{x:α}(hx:xs[j]? =some x):(xs.take (j+1)).filter (λx=> !p x)=(xs.take j).filter (λx=> !p x)++(if p x=true then[]else[x]):=by
 rw[nk hx]
 grind
end
theorem CE{α:Type}{enc:α->List Value}{m:Nat}{cur:List α}{x:α}(hm:∀x,(enc x).length=m)(hx:cur[j]? =some x):cut (gL enc cur++sp).toArray (0+((j:Int)).toNat*m) m=(enc x).toArray:=by grind [cut,VM]
theorem CF{α:Type}{enc:α->List Value}{m:Nat}{cur:List α}(hm:∀x,(enc x).length=m)(hj:j<cur.length):0+((j:Int)).toNat*m+m<=(gL enc cur++sp).toArray.size:=by
 have h2:(j+1)*m<=cur.length*m:=BM _ hj
 grind [vm]
theorem E3:∀l:List Value,(∀u∈l,Bm u=true)->rK l=true:=
 by intro x;induction x<;>(grind [rK])
theorem E4:∀{l:List Value},rK l=true->∀u∈l,Bm u=true:=
 by intro x;induction x<;>(grind [rK])
theorem nEh{zs:Array Value}(h:rK zs.toList=true)(n:Nat):rK (Builtin.zeroCells zs n).toList=true:=by
 (intros;grind [E3,Builtin.zeroCells,Nat.mod_lt,E4])
theorem nso{W2:World}(h1:aQ (· =b) w W)(h2:Below W.heap.size W W2):aQ (· =b) w W2:=h1.trans (aQ.of_below h2)
theorem nXe{α:Type}{cur:List α}{x:α}(h:i<cur.length):(cur.set i x).take (i+1)=cur.take i++[x]:=by
 simp_all[nk,List.take_set_of_le]
theorem n8f{α:Type}{cur:List α}{x:α}(h:i<j):(cur.set i x).drop j=cur.drop j:=List.drop_set_of_lt h
theorem n2i{α:Type}{cur xs:List α}{x:α}(h:cur.drop j=xs.drop j)(hx:xs[j]? =some x):cur[j]? =some x/\cur.drop (j+1)=xs.drop (j+1):=by
 have h1:(cur.drop j)[0]? =(xs.drop j)[0]? :=by rw[h]
 have:=congrArg (List.drop 1) h
 grind [List.drop_drop]
theorem nMm(p:Ch->Bool)(f:Nat)(cap:List Value)(aF:fh prog f)(xs:List Ch)(de:xs.length<=100000)(b cp:Nat)(sp:List Value)(w:World)(hb:w.heap[b]? =some (cT pY 271 xs sp))(cQ:(Rw.row b cp sp).Fit 5 xs)(hp:∀(j:Nat) (x:Ch),xs[j]? =some x->∀W,aQ (· =b) w W->b<W.heap.size->Calls prog f (.agg (ff x)::cap).toArray W (ar W (.bool (p x)))):Calls prog 337 #[.slice (aH b) xs.length cp,.func (.func f) #[] cap.toArray] w (λe w'=>∃cq,e= .returned ((λr=>r.val (xs.filter (λx=> !p x)).length) (Rw.row b cp cq))/\aQ (· =b) w w'/\(Rw.row b cp cq).Fit 5 (xs.filter (λx=> !p x))/\w'.heap[b]? =some (cT pY 271 (xs.filter (λx=> !p x)) cq)):=by
 have kK:=cQ.1;have dE:=cQ.2;have kx:=(bO.1 hb).1;refine nP (Gh.lent (· =b)) [(b,cT pY 271 xs sp)] (vs:=[_,_]) func337 rfl ntmps337 rfl (Dm hb) ?_;refine B 9 ?_;refine ny (α:=Int) (v:=λi:Int=>ab i) (Φ:=λ_ i _=>eE p xs i) call348 rfl rfl rfl (λW hS=>?_) ?_
 ·have CG:=hS.own (b,_) A0;have oP:aj ff 5 W.heap.size W (aH b) xs:=by
   obtain⟨a9,c9,e9,h9⟩:=(Rw.row b cp sp).sl (enc:=pY) (t:=271) (N:=W.heap.size) (w:=W) EC cQ CG (aC _);exact zgk
  exact nMf p f cap aF xs aa W.heap.size (aH b) cp W (aC _) oP (λj x hx W2 hB=>hp j x hx W2 (nso ((hS.links w A0).mono (λk _ hk=>zYK)) hB) z9c)
 intro Wi i wi yw yx hi;have bg:=yw.lt (b,_) A0;have a6:=yx.size;refine B 5 ?_;rcases hi with⟨rfl,kM⟩|⟨k,x0,rfl,mI,E5,iL⟩
 ·refine B 2 ?_;refine Cl ?_;exact bH (.inl rfl) results337 aL λW hS=>⟨sp,by rw[KY kM];rfl,hS.baseX A1 IF,by rw[KY kM];exact cQ,zYBR⟩
 refine B 2 ?_;refine xf ?_;have lf:=aG mI;refine B 7 ?_;refine CJ.loop (α:=(Nat×List Ch)×Nat) (λJ=>[(0,.slice (aH b) xs.length cp),(1,.func (.func f) #[] cap.toArray),(5,ab (J.1.1:Int)),(6,ab (J.2:Int))]) (λJ=>[(b,cT pY 271 J.1.2 sp)]) (λJ=>[w]) (λJ=>Gh.lent (· =b)) (λJ=>J.1.1<J.2/\J.2<=xs.length/\J.1.2.length=xs.length/\J.1.2.take J.1.1=(xs.take J.2).filter (λx=> !p x)/\J.1.2.drop J.2=xs.drop J.2) (λJ=>xs.length-J.2) ((k,xs),k+1) ⟨by dsimp only;omega,by dsimp only;omega,rfl,zYy,rfl⟩ zR rfl rfl zP ?_;rintro⟨⟨i2,cur⟩,j⟩ ⟨vt,uF,qx,IM,Oi⟩;dsimp only at vt uF qx IM Oi ⊢;refine av 9 ?_ ?_
 ·intro ai;refine B 5 ?_;obtain⟨x,hx⟩:=ng xs j aa;obtain⟨p8,KZ⟩:=n2i Oi hx;refine B 4 ?_;refine rq (.agg (ff x)) (eh (i:=0) rfl isAgg271 sizeOf271 rfl (CF EC aa)) (va (CE (sp:=sp) EC p8)) ?_;refine bD 1 ?_;intro b7 ie lu;refine B 7 ?_;refine zNd ?_;refine av 3 ?_ ?_
  ·intro ax;refine B 6 ?_;refine E6 (enc:=pY) (m:=5) (i:=1) (j:=i2) (z:=x) rfl EC nql sizeOf271 rfl rfl rfl zP aa rfl rfl ?_;exact z6i
  exact zpj
 intro ai;refine B 6 ?_;have ZU:j=xs.length:=by omega
 have BN:cur.take i2=(xs.filter (λx=> !p x)):=by rw[IM,ZU,Ko]
 refine B 3 ?_;refine rq (.slice (some ⟨b,if cp=i2 then 0 else 0+i2*5,none⟩) (cur.drop i2).length (cp-i2)) (hQ (l:=i2) (h:=xs.length) underlying95 sizeOf271 rfl ⟨_,_,rfl,rfl⟩ rfl aa aa rfl) (by rw[yp,qx]) ?_;refine OJ.reH (H':=[(b,cT pY 271 (cur.take i2++cur.drop i2) sp)]) (by rw[J2]) ?_;refine E7 (i:=0) rfl EC underlying95 zeroValue271 rfl (nEh rfl _) rfl rfl zSb ?_;intro RF E8;refine B 6 ?_;refine rq (.slice (aH b) (cur.take i2).length cp) (gZ (h:=i2) underlying95 sizeOf271 rfl ⟨_,_,rfl,rfl⟩ aa) ZV ?_;refine B 4 ?_;exact bH (.inl rfl) results337 aL λW hS=>⟨RF,by rw[<-BN];rfl,hS.baseX A0 IF,zYT,zYBV⟩
theorem nRm(p:Mb->Bool)(f:Nat)(cap:List Value)(aF:fh prog f)(xs:List Mb)(de:xs.length<=100000)(b cp:Nat)(sp:List Value)(w:World)(hb:w.heap[b]? =some (cT ly 156 xs sp))(cQ:(Rw.row b cp sp).Fit 3 xs)(hp:∀(j:Nat) (x:Mb),xs[j]? =some x->∀W,aQ (· =b) w W->b<W.heap.size->Calls prog f (.agg (jx x)::cap).toArray W (ar W (.bool (p x)))):Calls prog 308 #[.slice (aH b) xs.length cp,.func (.func f) #[] cap.toArray] w (λe w'=>∃cq,e= .returned ((λr=>r.val (xs.filter (λx=> !p x)).length) (Rw.row b cp cq))/\aQ (· =b) w w'/\(Rw.row b cp cq).Fit 3 (xs.filter (λx=> !p x))/\w'.heap[b]? =some (cT ly 156 (xs.filter (λx=> !p x)) cq)):=by
 have kK:=cQ.1;have dE:=cQ.2;have kx:=(bO.1 hb).1;refine nP (Gh.lent (· =b)) [(b,cT ly 156 xs sp)] (vs:=[_,_]) func308 rfl ntmps308 rfl (Dm hb) ?_;refine B 9 ?_;refine ny (α:=Int) (v:=λi:Int=>ab i) (Φ:=λ_ i _=>eE p xs i) call108 rfl rfl rfl (λW hS=>?_) ?_
 ·have CG:=hS.own (b,_) A0;have oP:aj jx 3 W.heap.size W (aH b) xs:=by
   obtain⟨a9,c9,e9,h9⟩:=(Rw.row b cp sp).sl (enc:=ly) (t:=156) (N:=W.heap.size) (w:=W) vr cQ CG (aC _);exact zgk
  exact nXd p f cap aF xs aa W.heap.size (aH b) cp W (aC _) oP (λj x hx W2 hB=>hp j x hx W2 (nso ((hS.links w A0).mono (λk _ hk=>zYK)) hB) z9c)
 intro Wi i wi yw yx hi;have bg:=yw.lt (b,_) A0;have a6:=yx.size;refine B 5 ?_;rcases hi with⟨rfl,kM⟩|⟨k,x0,rfl,mI,E5,iL⟩
 ·refine B 2 ?_;refine Cl ?_;exact bH (.inl rfl) results308 aL λW hS=>⟨sp,by rw[KY kM];rfl,hS.baseX A1 IF,by rw[KY kM];exact cQ,zYBR⟩
 refine B 2 ?_;refine xf ?_;have lf:=aG mI;refine B 7 ?_;refine CJ.loop (α:=(Nat×List Mb)×Nat) (λJ=>[(0,.slice (aH b) xs.length cp),(1,.func (.func f) #[] cap.toArray),(5,ab (J.1.1:Int)),(6,ab (J.2:Int))]) (λJ=>[(b,cT ly 156 J.1.2 sp)]) (λJ=>[w]) (λJ=>Gh.lent (· =b)) (λJ=>J.1.1<J.2/\J.2<=xs.length/\J.1.2.length=xs.length/\J.1.2.take J.1.1=(xs.take J.2).filter (λx=> !p x)/\J.1.2.drop J.2=xs.drop J.2) (λJ=>xs.length-J.2) ((k,xs),k+1) ⟨by dsimp only;omega,by dsimp only;omega,rfl,zYy,rfl⟩ zR rfl rfl zP ?_;rintro⟨⟨i2,cur⟩,j⟩ ⟨vt,uF,qx,IM,Oi⟩;dsimp only at vt uF qx IM Oi ⊢;refine av 9 ?_ ?_
 ·intro ai;refine B 5 ?_;obtain⟨x,hx⟩:=ng xs j aa;obtain⟨p8,KZ⟩:=n2i Oi hx;refine B 4 ?_;refine rq (.agg (jx x)) (eh (i:=0) rfl isAgg156 sizeOf156 rfl (CF vr aa)) (va (CE (sp:=sp) vr p8)) ?_;refine bD 1 ?_;intro b7 ie lu;refine B 7 ?_;refine zNd ?_;refine av 3 ?_ ?_
  ·intro ax;refine B 6 ?_;refine E6 (enc:=ly) (m:=3) (i:=1) (j:=i2) (z:=x) rfl vr Vs sizeOf156 rfl rfl rfl zP aa rfl rfl ?_;exact z6i
  exact zpj
 intro ai;refine B 6 ?_;have ZU:j=xs.length:=by omega
 have BN:cur.take i2=(xs.filter (λx=> !p x)):=by rw[IM,ZU,Ko]
 refine B 3 ?_;refine rq (.slice (some ⟨b,if cp=i2 then 0 else 0+i2*3,none⟩) (cur.drop i2).length (cp-i2)) (hQ (l:=i2) (h:=xs.length) underlying81 sizeOf156 rfl ⟨_,_,rfl,rfl⟩ rfl aa aa rfl) (by rw[yp,qx]) ?_;refine OJ.reH (H':=[(b,cT ly 156 (cur.take i2++cur.drop i2) sp)]) (by rw[J2]) ?_;refine E7 (i:=0) rfl vr underlying81 zeroValue156 rfl (nEh rfl _) rfl rfl zSb ?_;intro RF E8;refine B 6 ?_;refine rq (.slice (aH b) (cur.take i2).length cp) (gZ (h:=i2) underlying81 sizeOf156 rfl ⟨_,_,rfl,rfl⟩ aa) ZV ?_;refine B 4 ?_;exact bH (.inl rfl) results308 aL λW hS=>⟨RF,by rw[<-BN];rfl,hS.baseX A0 IF,zYT,zYBV⟩
section
open Go.Proofs Go.Shelf Go.Lib Go.Sort
theorem K0(a:Int)(W:World):Calls prog 254 #[ab a] W λe w'=>e= .returned (aO)/\w'=W:=by
 go_enter func254,ntmps254
 go_wp2
 go_ret
 simp
theorem As(a b:Int)(W:World):Calls prog 220 #[ab a,ab b] W λe w'=>e= .returned (ab (cj a b))/\w'=W:=by
 have key:∀v:Int,v=cj a b->ab v=ab (cj a b):=λv h=>by rw[h]
 go_enter func220,ntmps220
 go_wp2_with (go_at_call 254;refine(K0 _ _).mono ?_;rintro e w' ⟨rfl,rfl⟩)
 all_goals go_ret
 all_goals exact⟨congrArg Ending.returned (key _ (by unfold cj;(repeat' split)<;>omega)),rfl⟩
theorem akd(x y:Ch)(W:World):Calls prog 341 #[.agg (pY x).toArray,.agg (pY y).toArray] W λe w'=>e= .returned (ab (cj x.dev y.dev))/\∃q E9,w'=grow (W.drewN q) E9:=by
 have J:=λW'=>As x.dev y.dev W';generalize cj x.dev y.dev=r at J ⊢;unfold pY
 go_enter func341,ntmps341
 go_wp2_with (go_at_call 220;refine(J _).mono ?_;rintro e w' ⟨rfl,rfl⟩)
 go_ret
 exact zMj
theorem ake(x y:Mb)(W:World):Calls prog 311 #[.agg (ly x).toArray,.agg (ly y).toArray] W λe w'=>e= .returned (ab (cj x.dev y.dev))/\∃q E9,w'=grow (W.drewN q) E9:=by
 have J:=λW'=>As x.dev y.dev W';generalize cj x.dev y.dev=r at J ⊢;unfold ly
 go_enter func311,ntmps311
 go_wp2_with (go_at_call 220;refine(J _).mono ?_;rintro e w' ⟨rfl,rfl⟩)
 go_ret
 exact zMj
instance:Inhabited Ch:=⟨⟨0,0,0,0,0⟩⟩
instance:Inhabited Mb:=⟨⟨0,0,0⟩⟩
def iF {α:Type} [Inhabited α] (cf:α->α->Int) (xs:List α):List α:=(pdq (ltOf cf) xs.toArray 0 xs.toArray.size (Lib.bitLen xs.toArray.size) true true).toList
theorem RG{α:Type}(k:α->Int):SWO (ltOf λx y:α=>cj (k x) (k y)):=by
 (constructor<;>grind [ltOf,nUk,cj])
theorem K1{α:Type}(q:Array α)(n:Nat)(h:q.size=n):q.extract 0 n=q:=by grind
theorem VN{α:Type}[Inhabited α]{cf:α->α->Int}(hO:SWO (ltOf cf))(xs:List α):(iF cf xs).Perm xs:=by
 have h:=(pdq_sorts (ltOf cf) hO xs.toArray 0 xs.toArray.size (Lib.bitLen xs.toArray.size) true true (cd _) (aC _) (Or.inl rfl)).1;obtain⟨h1,_,h3⟩:=h
 grind [K1,iF]
theorem RH{α:Type}[Inhabited α]{cf:α->α->Int}(hO:SWO (ltOf cf))(xs:List α):(iF cf xs).length=xs.length:=(VN hO xs).length_eq
end
abbrev wy (xs:List Ch):List Ch:=iF (λx y=>cj x.dev y.dev) xs
abbrev oS (xs:List Mb):List Mb:=iF (λx y=>cj x.dev y.dev) xs
theorem nlh(xs:List Ch):(wy xs).length=xs.length:=RH (RG (λx:Ch=>x.dev)) xs
theorem ZX(xs:List Mb):(oS xs).length=xs.length:=RH (RG (λx:Mb=>x.dev)) xs
theorem ZY{xs:List Ch}(hl:xs.length<=1000000){cap:Nat}(cQ:(Rw.row b cap sp).Fit 5 xs)(h:W.heap[b]? =some (cT pY 271 xs sp)):Calls prog 340 #[.slice (aH b) xs.length cap,.func (.func 341) #[] #[]] W (λe w'=>∃J,e= .returned ((λ_=>.tuple #[]) (Rw.row b cap J))/\aQ (· =b) W w'/\(Rw.row b cap J).Fit 5 (wy xs)/\w'.heap[b]? =some (cT pY 271 (wy xs) J)):=by
 have hc:=Go.Proofs.AnyQ.slices_SortFunc_eq Go.Proofs.Tryz.laySX 5 isAgg271 sizeOf271 pY EC nql (λx y=>cj x.dev y.dev) (RG (λx:Ch=>x.dev)) 341 #[] b 0 cap xs.toArray W (Go.Proofs.enters_of func341 xw rfl) (λ_ _ _ _ x y=>akd x y _) (nio EC h) (bO.1 h).1 mZ;change Calls prog 340 _ _ _ at hc;refine hc.mono ?_;rintro e w' ⟨rfl,n,os,rfl⟩;have hp:=Au (n:=n) (os:=os) EC h (ys:=wy xs) (nlh xs);exact⟨sp,rfl,hp.1,by simp only[Rw.Fit,nlh];exact cQ,hp.2⟩
theorem ZZ{xs:List Mb}(hl:xs.length<=1000000){cap:Nat}(cQ:(Rw.row b cap sp).Fit 3 xs)(h:W.heap[b]? =some (cT ly 156 xs sp)):Calls prog 310 #[.slice (aH b) xs.length cap,.func (.func 311) #[] #[]] W (λe w'=>∃J,e= .returned ((λ_=>.tuple #[]) (Rw.row b cap J))/\aQ (· =b) W w'/\(Rw.row b cap J).Fit 3 (oS xs)/\w'.heap[b]? =some (cT ly 156 (oS xs) J)):=by
 have hc:=Go.Proofs.AnyQ.slices_SortFunc_eq Go.Proofs.Tryz.laySM 3 isAgg156 sizeOf156 ly vr Vs (λx y=>cj x.dev y.dev) (RG (λx:Mb=>x.dev)) 311 #[] b 0 cap xs.toArray W (Go.Proofs.enters_of func311 xw rfl) (λ_ _ _ _ x y=>ake x y _) (nio vr h) (bO.1 h).1 mZ;change Calls prog 310 _ _ _ at hc;refine hc.mono ?_;rintro e w' ⟨rfl,n,os,rfl⟩;have hp:=Au (n:=n) (os:=os) vr h (ys:=oS xs) (ZX xs);exact⟨sp,rfl,hp.1,by simp only[Rw.Fit,ZX];exact cQ,hp.2⟩
theorem nHi(f:Nat)(cap:List Value)(aF:fh prog f)(w:World):Calls prog 337 #[bS,.func (.func f) #[] cap.toArray] w (ar w (bS)):=by
 refine cH 9 func337 ntmps337 ?_;refine ny (α:=Int) (v:=λi:Int=>ab i) (Φ:=λ_ i _=>eE (λ_:Ch=>false) [] i) call348 rfl rfl rfl (λW hS=>nMf (λ_=>false) f cap aF [] zP W.heap.size none 0 W (aC _) (.inl rfl) (λj x hx=>by simp at hx)) ?_;intro Wi i wi yw J hi;have Af:i= -1:=by rcases hi with⟨h,_⟩|⟨k,x,_,hx,_⟩;(exact h);simp at hx
 subst Af;refine B 7 ?_;refine Cl ?_;refine ao results337 rfl A1 ?_;rfl
theorem nrm(w:World):Calls prog 392 #[bS,ab 0,ab 0,.func (.func 341) #[] #[]] w (ar w (.tuple #[])):=by
 refine cH 8 func392 ntmps392 ?_;refine zre ?_;rintro j _;refine B 5 ?_;refine xf ?_;exact aS (.inr rfl) results392 aL A0 trivial rfl
theorem nYq(l:Int)(w:World):Calls prog 363 #[bS,ab 0,ab 0,ab l,.func (.func 341) #[] #[]] w (ar w (.tuple #[])):=by
 refine cH 11 func363 ntmps363 ?_;refine zse ?_;rintro j _;refine X2 ?_;refine B 9 ?_;refine cl call392 rfl (λW hS=>nrm W) ?_;refine B 7 ?_;exact aS (.inl rfl) results363 aL A0 trivial rfl
theorem nmp(w:World):Calls prog 340 #[bS,.func (.func 341) #[] #[]] w (ar w (.tuple #[])):=by
 refine eN func340 ntmps340 ?_;refine zri ?_;refine cl call363 rfl (λW hS=>nYq _ W) ?_;refine B 1 ?_;exact aS (.inr rfl) results340 aL A0 trivial rfl
theorem nJi(f:Nat)(cap:List Value)(aF:fh prog f)(w:World):Calls prog 308 #[bS,.func (.func f) #[] cap.toArray] w (ar w (bS)):=by
 refine cH 9 func308 ntmps308 ?_;refine ny (α:=Int) (v:=λi:Int=>ab i) (Φ:=λ_ i _=>eE (λ_:Mb=>false) [] i) call108 rfl rfl rfl (λW hS=>nXd (λ_=>false) f cap aF [] zP W.heap.size none 0 W (aC _) (.inl rfl) (λj x hx=>by simp at hx)) ?_;intro Wi i wi yw J hi;have Af:i= -1:=by rcases hi with⟨h,_⟩|⟨k,x,_,hx,_⟩;(exact h);simp at hx
 subst Af;refine B 7 ?_;refine Cl ?_;refine ao results308 rfl A1 ?_;rfl
theorem nOm(w:World):Calls prog 370 #[bS,ab 0,ab 0,.func (.func 311) #[] #[]] w (ar w (.tuple #[])):=by
 refine cH 8 func370 ntmps370 ?_;refine zre ?_;rintro j _;refine B 5 ?_;refine xf ?_;exact aS (.inr rfl) results370 aL A0 trivial rfl
theorem nlr(l:Int)(w:World):Calls prog 349 #[bS,ab 0,ab 0,ab l,.func (.func 311) #[] #[]] w (ar w (.tuple #[])):=by
 refine cH 11 func349 ntmps349 ?_;refine zse ?_;rintro j _;refine X2 ?_;refine B 9 ?_;refine cl call370 rfl (λW hS=>nOm W) ?_;refine B 7 ?_;exact aS (.inl rfl) results349 aL A0 trivial rfl
theorem nTo(w:World):Calls prog 310 #[bS,.func (.func 311) #[] #[]] w (ar w (.tuple #[])):=by
 refine eN func310 ntmps310 ?_;refine zri ?_;refine cl call349 rfl (λW hS=>nlr _ W) ?_;refine B 1 ?_;exact aS (.inr rfl) results310 aL A0 trivial rfl
theorem Fb:wy []=[]:=oJ (nlh [])
theorem Fc:oS []=[]:=oJ (ZX [])
def oT (au:Int) (l:List Ch):List Ch:=wy (l.filter λx=> !p7 au x)
theorem n0c(au:Int)(l:List Ch)(de:l.length<=100000)(N:Nat)(a:Option Addr)(cp:Nat)(w:World)(hN:N<=w.heap.size)(aA:aj ff 5 N w a l):Calls prog 300 #[ab au,.slice a l.length cp] w (nv w pY 5 271 (oT au l) id):=by
 refine eN func300 ntmps300 ?_;refine aU 2 ?_;intro b2 w2 bV bj dz cL cR;refine B 6 ?_;refine IB (enc:=pY) (m:=5) (t:=271) (xs:=l) (v:=id) (first:=[]) (cap:=[]) rfl call338 rfl rfl rfl (λW hS=>E1 l de N a cp W aT (aA.us hS.sm)) ?_;intro r aB af;have bW:=Rw.ge_of aB A1;refine B 1 ?_;refine ID (r:=r) (enc:=pY) (m:=5) (t:=271) (xs:=l) (ys:=l.filter λx=> !p7 au x) (H0:=[]) (H1:=[]) (v:=λr=>r.val (l.filter λx=> !p7 au x).length) rfl call337 rfl rfl rfl (λhr W hS=>?_) (λb cap sp hr W hS h=>?_) ?_
 ·subst hr;have h0:l=[]:=af;subst h0;exact(nHi 339 [ptr b2 0] call339 W).mono λe w2 h=>⟨h.1,rfl,h.2⟩
 ·subst hr;have bw:w2.heap.size<=b:=(aB.elim (λh=>h.elim) id:ah _ b).not (w:=w2) A0;exact nMm (p7 au) 339 [ptr b2 0] call339 l aa b cap sp W h af (λj x hx W2 hK Z0=>nSr au b2 x W2 (by have h2:=(hS.links w2 A0).size;rw[hK.block b2 aa aa];exact hS.old A0 bV bj zD))
 intro J dE uz pT pr;have ei:=uz aB;have eX:=pT _ bW;refine B 6 ?_;refine ID (r:=J) (enc:=pY) (m:=5) (t:=271) (xs:=l.filter λx=> !p7 au x) (ys:=oT au l) (H0:=[]) (H1:=[]) (v:=λ_=>.tuple #[]) rfl call340 rfl rfl rfl (λhr W hS=>?_) (λb cap sp hr W hS h=>?_) ?_
 ·subst hr;have h0:(l.filter λx=> !p7 au x)=[]:=dE;unfold oT;rw[h0];exact(nmp W).mono λe w2 h=>⟨h.1,Fb,h.2⟩
 ·subst hr;exact ZY (dS (RI _ _) aa) dE h
 intro r3 pv Ee Ef Ah;have Eg:=Ee ei;have Ai:=Ef _ eX;refine B 9 ?_;have rN:(l.filter λx=> !p7 au x).length=(oT au l).length:=by unfold oT;rw[nlh]
 exact nB (H0:=[]) (H1:=[]) (r:=r3) (.inl rfl) results300 aL A1 (by rw[dG];exact Rw.over Ai) (by show J.val _=r3.val _;rw[Ah,rN]) pv Ai zP
def yB:Gp:=⟨0,0,λ_=>0,[],[]⟩
def ov:Gv:=⟨yB,none,0,none,0⟩
theorem RJ(N:Nat)(w:World):aM N w ov:=⟨.inl rfl,.inl rfl,by simp[ov,yB],by simp[ov,yB]⟩
def BO (w:World) (g:Gp) (e:Int):Ending->World->Prop:=db w (λX:Gv=>.tuple #[.agg (aY X),ab e]) (λX w'=>X.g=g/\aM w'.heap.size w' X/\(∀q,X.ma=some q->w.heap.size<=q.block)/\(∀q,X.na=some q->w.heap.size<=q.block))
def iw (g:Gp) (c:Cm):Bool:=decide (c.folder=g.folder)&&decide (c.epoch=g.epoch+1)&&gV c.par g.last
noncomputable def oU (ns:List Nd) (d:Int):Int:=if fX ns=0 then(if(al (bh ns) (512+d)).isSome=true then 0 else 200)else 210
noncomputable def aP (ns:List Nd) (d:Int) (l:List Int):List Nd:=if fX ns=0/\(al (bh ns) (512+d)).isSome=true then lb (pX (bh ns) d l)else[]
theorem nsh(ns:List Nd)(hn:ns.length<=100000)(N:Nat)(a:Option Addr)(cp:Nat)(w:World)(hN:N<=w.heap.size)(aA:aj dJ 2 N w a ns)(d:Int)(hd:bM d)(l:List Int)(kG:∀y∈l,dr y)(hl:l.length<=1000)(J:Nat)(ap:Option Addr)(qQ:Nat)(lV:aj encI 1 J w ap l)(Eu:J<=w.heap.size)(Zj:l.length=10)(xG:ns.length<90000):Calls prog 303 #[.agg #[.slice a ns.length cp],ab d,.slice ap l.length qQ] w (nv w dD 2 325 (aP ns d l) (λs=>.tuple #[.agg #[s],ab (oU ns d)])):=by
 rcases nti ns with h|h
 ·by_cases h2:(al (bh ns) (512+d)).isSome=true
  ·have e1:aP ns d l=lb (pX (bh ns) d l):=by unfold aP;rw[if_pos ⟨h,h2⟩]
   have e2:oU ns d=0:=by unfold oU;rw[if_pos h,if_pos h2]
   rw[e2];grind [Ey]
  have e1:aP ns d l=[]:=by unfold aP;rw[if_neg λg=>h2 g.2]
  have e2:oU ns d=200:=by unfold oU;rw[if_pos h,if_neg h2]
  rw[e1,e2];exact Ew ns hn N a cp w hN aA h d hd z2 l kG hl J ap qQ lV Eu
 have e1:aP ns d l=[]:=by unfold aP;rw[if_neg λg=>by omega]
 have e2:oU ns d=210:=by unfold oU;rw[if_neg aa]
 rw[e2];grind [nxs]
section
variable (hZ:FxOk Z)(G:Gv)(c:Cm)(cZ:ck c)(N:Nat)(w:World)(hN:N<=w.heap.size)(hG:aM N w G)(hC:dc N w c)(hg:Glb w)
include hZ G cZ hN hG hC hg
theorem Fe(hv:cY G.g=false):Calls prog 258 #[.agg (aY G),.agg (cW c)] w (BO w yB 1):=by
 refine K2 ?_;refine yV ?_;intro b2 w2 bV bj dz cL cR;refine yX ?_;intro b3 w3 bQ aZ J cP dt;refine bD 1 ?_;intro b4 dL dP;refine aV 6 (.agg (aY G)) ?_;refine zRg ?_;refine DM ?_;exact Z1
theorem Ff(hv:cY G.g=true)(kf:ou c=220):Calls prog 258 #[.agg (aY G),.agg (cW c)] w (BO w yB 220):=by
 refine K2 ?_;refine yV ?_;intro b2 w2 bV bj dz cL cR;refine yX ?_;intro b3 w3 bQ aZ J cP dt;refine bD 1 ?_;intro b4 dL dP;refine VE ?_;refine aV 8 (.agg (cW c)) ?_;refine cl call294 rfl (λW hS=>by rw[<-kf];exact nIb c cZ.few N W aT (hC.us hS.sm)) (v:=ab 220) ?_;refine B 6 ?_;refine Bf ?_;exact Z1
end
theorem RL(hf:iw g c=false)(h1:c.folder=g.folder)(h2:c.epoch=g.epoch+1):gV c.par g.last=false:=by grind [iw]
theorem Oj(hf:iw g c=true):c.folder=g.folder/\c.epoch=g.epoch+1/\gV c.par g.last=true:=by grind [iw]
section
variable (hZ:FxOk Z)(G:Gv)(c:Cm)(cZ:ck c)(N:Nat)(w:World)(hN:N<=w.heap.size)(hG:aM N w G)(hC:dc N w c)(hg:Glb w)(hv:cY G.g=true)(kf:ou c=0)
include hZ G cZ hN hG hC hg hv kf
theorem Fg(hf:iw G.g c=false):Calls prog 258 #[.agg (aY G),.agg (cW c)] w (BO w yB 220):=by
 have sa:=tD.1 hv;have RM:=sa.1.2.2.1;have sH:=sa.1.2.1;have J:=CC.1 kf;have BP:=J.e1;have BQ:=J.e2;refine K2 ?_;refine yV ?_;intro b2 w2 bV bj dz cL cR;refine yX ?_;intro b3 w3 bQ aZ dK cP dt;refine bD 1 ?_;intro b4 dL dP;refine VE ?_;refine B 8 ?_;refine zdg ?_;refine B 6 ?_;refine xf ?_;by_cases h1:¬c.folder=G.g.folder
 ·refine aV 5 aK ?_;refine B 27 ?_;exact Z1
 by_cases h2:¬c.epoch=G.g.epoch+1
 ·refine B 5 ?_;refine pN ?_;refine bX aK ?_;refine B 20 ?_;exact Z1
 have h3:=RL hf aa aa;refine B 5 ?_;refine pN ?_;refine pN ?_;refine zTg ?_;refine B 13 ?_;exact Z1
theorem Fh(hf:iw G.g c=true)(kq:gS G.g c.author c.chs=221):Calls prog 258 #[.agg (aY G),.agg (cW c)] w (BO w yB 221):=by
 have sa:=tD.1 hv;have RM:=sa.1.2.2.1;have sH:=sa.1.2.1;have J:=CC.1 kf;have BP:=J.e1;have BQ:=J.e2;obtain⟨h1,h2,h3⟩:=Oj hf;have lT:=J.au;have tr:=cZ.few.chs;refine K2 ?_;refine yV ?_;intro b2 w2 bV bj dz cL cR;refine yX ?_;intro b3 w3 bQ aZ dK cP dt;refine bD 1 ?_;intro b4 dL dP;refine VE ?_;refine B 8 ?_;refine zdg ?_;refine B 6 ?_;refine Yh ?_;refine pN ?_;refine pN ?_;refine rq aO (iV wZ zF nT rfl rfl rfl) (congrArg (λq=>Value.bool (!q)) h3) ?_;refine aV 8 (.agg (aY G)) ?_;refine B 4 ?_;refine nN (enc:=oj) (m:=4) (t:=145) (xs:=(gz G.g c.author c.chs)) (v:=λs=>.tuple #[s,ab 221]) (first:=[]) (cap:=[]) rfl call295 rfl rfl rfl Rj (λW hS=>by rw[<-kq];exact n4b G N W aT (hG.us hS.sm) c.chs aa c.ca c.cc (hC.chs.us hS.sm) c.author lT) ?_;intro Wn an cn wn pZ wv sI tM;have wz:=pZ.sizes;replace wz:=yb wz;have Og:=wv.size;have tI:=pZ.under;replace tI:=yf tI;refine B 11 ?_;refine Bf ?_;exact zzk
end
theorem nro(hv:cY g=true)(h:gS g au l=0):fZ l=true/\gy g au l=true/\gz g au l=im (bC g.ns l) au:=by grind [gS,Cw,gz]
noncomputable def qa (g:Gp) (c:Cm):Bool:=jG Ar c.bxs (gz g c.author c.chs)
def qb (c:Cm):Bool:=jG RA c.wes (oT c.author c.chs)
noncomputable def yC (Z:Fx) (g:Gp) (c:Cm):Bool:=jF Z (iv g c.author c.chs) (dy (kL Z c)) c.sr c.ss
section
variable (hZ:FxOk Z)(G:Gv)(c:Cm)(cZ:ck c)(N:Nat)(w:World)(hN:N<=w.heap.size)(hG:aM N w G)(hC:dc N w c)(hg:Glb w)(hv:cY G.g=true)(kf:ou c=0)(hf:iw G.g c=true)(kq:gS G.g c.author c.chs=0)
include hZ G cZ hN hG hC hg hv kf hf kq
theorem K3(hb:qa G.g c=false):Calls prog 258 #[.agg (aY G),.agg (cW c)] w (BO w yB 220):=by
 have sa:=tD.1 hv;have RM:=sa.1.2.2.1;have sH:=sa.1.2.1;have J:=CC.1 kf;have BP:=J.e1;have BQ:=J.e2;obtain⟨h1,h2,h3⟩:=Oj hf;have lT:=J.au;have tr:=cZ.few.chs;have vM:=cZ.few.bxs;have KR:=cZ.few.wes;refine K2 ?_;refine yV ?_;intro b2 w2 bV bj dz cL cR;refine yX ?_;intro b3 w3 bQ aZ dK cP dt;refine bD 1 ?_;intro b4 dL dP;refine Z2 ?_;intro Wn an cn wn pZ wv sI tM;have wz:=pZ.sizes;replace wz:=yb wz;have Og:=wv.size;have tI:=pZ.under;replace tI:=yf tI;refine Z3 ?_;refine eA 15 (pb:=by exact zU 4 (k:=by exact dh (ne call298 rfl rfl (λW hS _=>by have h9:=ZR c.bxs aa W.heap.size c.ba c.bc W (aC _) (hC.bxs.up aT hS.sm) (gz G.g c.author c.chs) an cn (sI.to hS A0 (aC _) (λb off e=>.inr Z4));rw[show jG Ar c.bxs (gz G.g c.author c.chs)=false from hb]at h9;exact h9) (λ_=>rfl)) zT)) (sp:=(_::_::_::_::(some (aO))::(some aK)::_)) (k:=?_);refine B 15 ?_;exact zzk
theorem K4(hb:qa G.g c=true)(hw:qb c=false):Calls prog 258 #[.agg (aY G),.agg (cW c)] w (BO w yB 220):=by
 have sa:=tD.1 hv;have RM:=sa.1.2.2.1;have sH:=sa.1.2.1;have J:=CC.1 kf;have BP:=J.e1;have BQ:=J.e2;obtain⟨h1,h2,h3⟩:=Oj hf;have lT:=J.au;have tr:=cZ.few.chs;have vM:=cZ.few.bxs;have KR:=cZ.few.wes;refine K2 ?_;refine yV ?_;intro b2 w2 bV bj dz cL cR;refine yX ?_;intro b3 w3 bQ aZ dK cP dt;refine bD 1 ?_;intro b4 dL dP;refine Z2 ?_;intro Wn an cn wn pZ wv sI tM;have wz:=pZ.sizes;replace wz:=yb wz;have Og:=wv.size;have tI:=pZ.under;replace tI:=yf tI;refine Z3 ?_;refine eS 15 13 [] (pb:=zYA) (sp:=(_::_::_::_::(some (aK))::(some aO)::_)) (h:=?_);intro _ _ hk;refine zRd ?_;intro W_ aw cw ww oV xm wB qY;have yD:=(oV.links wn A0).size;have Av:∀q,aw=some q->wn.heap.size<=q.block:=λq e=>dS yD (qY q e);refine zE ?_;refine cl call299 rfl (λW hS=>by have h9:=n3d c.wes aa W.heap.size c.wa c.wc W (aC _) (hC.wes.up aT hS.sm) (oT c.author c.chs) aw cw (wB.to hS A0 (aC _) (λb off e=>.inr zTb));rw[show jG RA c.wes (oT c.author c.chs)=false from hw]at h9;exact h9) (v:=.bool false) ?_
 refine Bf ?_;exact bH (.inl rfl) results258 aL λW hS=>⟨ov,rfl,hS.base A4 zH,rfl,RJ _ _,λq h=>xn,λq h=>xn⟩
end
theorem nBl(h:gy g au l=true)(h0:0<=g.epoch)(hm:gw g.ms au=false):0<l.length:=by grind [gy]
theorem Fi(hZ:FxOk Z)(G:Gv)(c:Cm)(cZ:ck c)(N:Nat)(w:World)(hN:N<=w.heap.size)(hG:aM N w G)(hC:dc N w c)(hg:Glb w)(hv:cY G.g=true)(kf:ou c=0)(hf:iw G.g c=true)(kq:gS G.g c.author c.chs=0)(hb:qa G.g c=true)(hw:qb c=true)(og:yC Z G.g c=false):Calls prog 258 #[.agg (aY G),.agg (cW c)] w (BO w yB 222):=by
 have sa:=tD.1 hv;have RM:=sa.1.2.2.1;have sH:=sa.1.2.1;have J:=CC.1 kf;have BP:=J.e1;have BQ:=J.e2;obtain⟨h1,h2,h3⟩:=Oj hf;have lT:=J.au;have tr:=cZ.few.chs;have vM:=cZ.few.bxs;have KR:=cZ.few.wes;have gP:=hg.lt;obtain⟨IP,uT,Cy⟩:=nro hv kq;refine K2 ?_;refine yV ?_;intro b2 w2 bV bj dz cL cR;refine yX ?_;intro b3 w3 bQ aZ dK cP dt;refine bD 1 ?_;intro b4 dL dP;refine Z2 ?_;intro Wn an cn wn pZ wv sI tM;have wz:=pZ.sizes;replace wz:=yb wz;have Og:=wv.size;have tI:=pZ.under;replace tI:=yf tI;refine Z3 ?_;refine eS 15 13 [] (pb:=zYA) (sp:=(_::_::_::_::(some (aK))::(some aO)::_)) (h:=?_);intro _ _ hk;refine zRd ?_;intro W_ aw cw ww oV xm wB qY;have yD:=(oV.links wn A0).size;have Av:∀q,aw=some q->wn.heap.size<=q.block:=λq e=>dS yD (qY q e);refine zOd ?_;refine Je ?_;refine eS 10 7 [] (pb:=zYG) (sp:=[some (.agg (aY G)),_,_,_,some (.slice c.ca c.chs.length c.cc),some (ab (iv G.g c.author c.chs)),some (.agg (cW c)),_,_,some (.agg #[ab c.sr,ab c.ss])]) (h:=?_)
 intro _ _ hk;refine zTd ?_;rintro W_ bm wm oV xm ⟨yD,jQ⟩;try dsimp only at yD jQ
 have Ol:=(oV.links wn A1).size;have Z5:wn.heap.size<=bm:=by omega
 refine zE ?_;refine cl call76 rfl (λW hS=>by have h9:=YO hZ (iv G.g c.author c.chs) c.sr c.ss (dy (kL Z c)) bm 0 32 (by rw[IK];decide) W (cD.dg (hS.old A0 jQ zL zD) (hZ.byt _ _)) (hg.old hS A5 zO zJ);rw[IK,show jF Z (iv G.g c.author c.chs) (dy (kL Z c)) c.sr c.ss=false from og]at h9;exact h9) (v:=.bool false) ?_;refine DM ?_;exact bH (.inl rfl) results258 aL λW hS=>⟨ov,rfl,hS.base A5 zH,rfl,RJ _ _,λq h=>xn,λq h=>xn⟩
structure Cd where
 at_:Int
 c:Cm
 id:Nat->Int
 since:Int
 x:Gv
def fl (d:Cd):Array Value:=(ab d.at_::ab d.c.folder::ab d.c.epoch::th d.c.par (ab d.c.author:: .slice d.c.ca d.c.chs.length d.c.cc:: .slice d.c.pa d.c.path.length d.c.pc:: .slice d.c.ba d.c.bxs.length d.c.bc:: .slice d.c.wa d.c.wes.length d.c.wc::th d.c.conf (ab d.c.sr::ab d.c.ss::th d.id (ab d.since::ab d.x.g.folder::ab d.x.g.epoch::th d.x.g.last [.slice d.x.ma d.x.g.ms.length d.x.mc,.slice d.x.na d.x.g.ns.length d.x.nc])))).toArray
def qZ (l:List Ch):Nat:=(l.filter λx=>decide (x.kind=2)).length
theorem K5{x:Ch}(hx:l[j]? =some x)(h:x.kind=2):qZ (l.take (j+1))=qZ (l.take j)+1:=by rw[nk hx];simp[qZ,h]
theorem RN{x:Ch}(hx:l[j]? =some x)(h:¬x.kind=2):qZ (l.take (j+1))=qZ (l.take j):=by rw[nk hx];simp[qZ,h]
theorem RP(l:List Ch)(j:Nat):qZ (l.take j)<=j:=by
 grind [qZ]
def lY (dv:Int) (y:Ch):Bool:=decide (y.kind=2/\y.dev=dv)
theorem nMi(d:Cd)(hl:d.c.chs.length<=1000)(N:Nat)(w:World)(hN:N<=w.heap.size)(aA:aj ff 5 N w d.c.ca d.c.chs):Calls prog 263 #[.agg (fl d)] w (ar w (ab (qZ d.c.chs:Int))):=by
 refine eN func263 ntmps263 ?_;refine aU 2 ?_;intro b1 w1 aW bJ eO dC fg;refine B 14 ?_;refine CJ.loop (α:=Nat) (λj=>[(1,ptr b1 0),(2,ab (qZ (d.c.chs.take j):Int)),(7,.slice d.c.ca d.c.chs.length d.c.cc),(8,ab (d.c.chs.length:Int)),(9,ab (j:Int))]) (λj=>[]) (λj=>[w1,w]) (λj=>Gh.no) (λj=>j<=d.c.chs.length) (λj=>d.c.chs.length-j) 0 (cd _) zR rfl rfl zP ?_;rintro j hj;refine av 6 ?_ ?_
 ·intro ai;refine B 5 ?_;obtain⟨bo,oo,cs0,to,dR,iq,dW,hcs,ay⟩:=aA.get aa;obtain⟨x,hx⟩:=ng d.c.chs j aa;rw[iq];have J:=RP d.c.chs j;refine VB ?_;refine yW ?_;intro b4 dL dP;refine av 10 ?_ ?_
  ·intro ax;refine B 11 ?_;refine lx ?_;refine PJ.again (j+1) aa aa ⟨rfl,by rw[K5 hx ew];rfl,rfl,rfl,rfl,trivial⟩ rfl rfl zP
  intro ax;refine xY ?_;refine PJ.again (j+1) aa aa ⟨rfl,by rw[RN hx ew];rfl,rfl,rfl,rfl,trivial⟩ rfl rfl zP
 intro ai;refine B 6 ?_;have cN:d.c.chs.take j=d.c.chs:=lE aa;rw[cN];refine B 6 ?_;refine ao results263 rfl A1 ?_;rfl
theorem n2o(J:Int)(b:Nat)(y:Ch)(w:World)(aW:w.heap[b]? =some (oC #[ab J] 3)):Calls prog 316 #[.agg (ff y),ptr b 0] w (ar w (.bool (lY J y))):=by
 have bJ:¬Gh.no.X b:=λh=>h;have qJ:=(bO.1 aW).1;refine eN func316 ntmps316 ?_;refine aU 2 ?_;intro b2 w2 bV bj dz cL cR;refine B 9 ?_;refine nf (t:=7) rfl (λai=>?_) (λai=>?_)
 ·exact zak
 exact zak
theorem n0q(d:Cd)(hl:d.c.chs.length<=1000)(N:Nat)(w:World)(hN:N<=w.heap.size)(aA:aj ff 5 N w d.c.ca d.c.chs)(J:Int):Calls prog 262 #[.agg (fl d),ab J] w (ar w (.bool (d.c.chs.any (lY J)))):=by
 refine eN func262 ntmps262 ?_;refine aU 2 ?_;intro b2 w2 bV bj dz cL cR;refine yX ?_;intro b3 w3 bQ aZ dK cP dt;refine aV 7 (.slice d.c.ca d.c.chs.length d.c.cc) ?_;refine B 1 ?_;refine cl call306 rfl (λW hS=>n3c (lY J) 316 [ptr b3 0] call316 d.c.chs aa N d.c.ca d.c.cc W aT (aA.us hS.sm) (λj y hy W2 hB=>n2o J b3 y W2 (by have h2:=(hS.links w3 A0).size;rw[hB.block b3 aa];exact hS.old A0 bQ aZ trivial))) ?_;refine B 4 ?_;refine ao results262 rfl A2 ?_;rfl
theorem VO{α:Type}{p:α->Bool}:∀{xs:List α} {j:Nat} {x:α},cE p xs j->xs[j]? =some x->p x=true->xs.find? p=some x
 | [],j,x,_,hx,_=>by simp at hx
 |y::xs,0,x,_,hx,hp=>by
  grind
 |y::xs,j+1,x,h,hx,hp=>by
  have h0:p y=false:=h 0 y aa rfl;rw[List.find?_cons,h0];exact VO (λi z hi hz=>h (i+1) z aa cM) hx hp
theorem Z6{α:Type}{p:α->Bool}{xs:List α}(h:cE p xs j)(hj:¬j<xs.length):xs.find? p=none:=by
 have:=Cu h hj
 grind
def pz (ms:List Mb) (dv:Int):Int:=((ms.find? λm=>decide (m.dev=dv)).map (·.since)).getD 0
theorem nzk{ms:List Mb}{J:Int}{x:Mb}(h:cE (λm:Mb=>decide (m.dev=J)) ms j)(hx:ms[j]? =some x)(hp:x.dev=J):ab x.since=ab (pz ms J):=by grind [pz,VO]
theorem Aw{ms:List Mb}{J:Int}(h:cE (λm:Mb=>decide (m.dev=J)) ms j)(hj:¬j<ms.length):ab 0=ab (pz ms J):=by grind [pz,Z6]
theorem K6(G:Gv)(N:Nat)(w:World)(hN:N<=w.heap.size)(hG:aM N w G)(J:Int):Calls prog 312 #[.agg (aY G),ab J] w (ar w (ab (pz G.g.ms J))):=by
 have YR:=hG.mn;have qP:=hG.ms;refine eN func312 ntmps312 ?_;refine aU 2 ?_;intro b2 w2 bV bj dz cL cR;refine B 13 ?_;refine CJ.lp (α:=Nat) [1,2,9] (λj=>[(8,.slice G.ma G.g.ms.length G.mc),(10,ab (j:Int))]) (λj=>[]) (λj=>j<=G.g.ms.length/\cE (λm:Mb=>decide (m.dev=J)) G.g.ms j) (λj=>G.g.ms.length-j) 0 ⟨cd _,λi x hi=>absurd hi aa⟩ ?_;rintro j ⟨hj,bT⟩;refine av 6 ?_ ?_
 ·intro ai;refine B 5 ?_;obtain⟨bo,oo,cs0,to,dR,iq,dW,hcs,ay⟩:=qP.get aa;obtain⟨x,hx⟩:=ng G.g.ms j aa;rw[iq];refine B 2 ?_;refine Zs ?_;refine yW ?_;intro b6 jb od;refine av 11 ?_ ?_
  ·intro ax;refine B 13 ?_;refine aS (.inl rfl) results312 aL A1 zH ?_;first|exact nzk bT hx ew|exact Aw bT aa
  intro ax;refine xY ?_;refine ag (j+1) ⟨by omega,bT.next hx (by simpa using ‹¬x.dev=J›)⟩
 intro ai;refine B 11 ?_;refine ao results312 rfl A1 ?_;first|exact nzk bT hx ew|exact Aw bT aa
theorem Fj(hZ:FxOk Z)(G:Gv)(c:Cm)(cZ:ck c)(N:Nat)(w:World)(hN:N<=w.heap.size)(hG:aM N w G)(hC:dc N w c)(hg:Glb w)(hv:cY G.g=true)(kf:ou c=0)(hf:iw G.g c=true)(kq:gS G.g c.author c.chs=0)(hb:qa G.g c=true)(hw:qb c=true)(og:yC Z G.g c=true)(e:Int)(hre:oU (bC G.g.ns c.chs) c.author=e)(he:¬e=0):Calls prog 258 #[.agg (aY G),.agg (cW c)] w (BO w yB e):=by
 have sa:=tD.1 hv;have RM:=sa.1.2.2.1;have sH:=sa.1.2.1;have J:=CC.1 kf;have BP:=J.e1;have BQ:=J.e2;obtain⟨h1,h2,h3⟩:=Oj hf;have lT:=J.au;have tr:=cZ.few.chs;have vM:=cZ.few.bxs;have KR:=cZ.few.wes;have gP:=hg.lt;obtain⟨IP,uT,Cy⟩:=nro hv kq;obtain⟨VD,rN⟩:=nIk IP;have JH:=hG.nn;have Ao:=VC c.chs G.g.ns;obtain⟨T,hT⟩:∃T,bC G.g.ns c.chs=T:=⟨_,rfl⟩;rw[hT]at hre Ao;have hpl:=J.pl;have kG:∀y∈c.path,dr y:=λy hy=>by obtain⟨i,hi⟩:=iB.1 hy;exact J.path i y hi
 refine K2 ?_;refine yV ?_;intro b2 w2 bV bj dz cL cR;refine yX ?_;intro b3 w3 bQ aZ dK cP dt;refine bD 1 ?_;intro b4 dL dP;refine Z2 ?_;intro Wn an cn wn pZ wv sI tM;have wz:=pZ.sizes;replace wz:=yb wz;have Og:=wv.size;have tI:=pZ.under;replace tI:=yf tI;refine Z3 ?_;refine eS 15 13 [] (pb:=zYA) (sp:=(_::_::_::_::(some (aK))::(some aO)::_)) (h:=?_);intro _ _ hk;refine zRd ?_;intro W_ aw cw ww oV xm wB qY;have yD:=(oV.links wn A0).size;have Av:∀q,aw=some q->wn.heap.size<=q.block:=λq e=>dS yD (qY q e);refine zOd ?_;refine Je ?_;refine eS 10 7 [] (pb:=zYG) (sp:=[some (.agg (aY G)),_,_,_,some (.slice c.ca c.chs.length c.cc),some (ab (iv G.g c.author c.chs)),some (.agg (cW c)),_,_,some (.agg #[ab c.sr,ab c.ss])]) (h:=?_);intro _ _ hk;refine zTd ?_;rintro W_ bm wm oV xm ⟨yD,jQ⟩
 try dsimp only at yD jQ
 have Ol:=(oV.links wn A1).size;have Z5:wn.heap.size<=bm:=by omega
 refine zE ?_;refine zge ?_;refine pN ?_;refine eA 6 (pb:=zYo) (sp:=[_,_,_,_,some (.agg (cW c)),some (.agg (dg (aE Z c)))]) (k:=?_);refine zRh ?_;have yn:=(bO.1 jQ).1;refine zLd ?_;refine CJ.chn 14 [3,8,9,10,13] [some (.agg (aY G)),_,some (.slice c.ca c.chs.length c.cc),none,_,_,_,some (.slice c.pa c.path.length c.pc),none,none,none,some (ab e),_,none] (λcv L' H'=>let xp:ae:=[(b4,oC (aY (⟨⟨G.g.folder,c.epoch,aE Z c,[],[]⟩,none,0,none,0⟩:Gv)) 86)];let dA:ae:=xp;let mN:List World:=[wm,ww,wn,w3,w2,w];match cv with| []=>L'=mN/\H'=dA| [v1]=>∃(ta:Option Addr) (tc:Nat) (wr:World),v1= .agg #[.slice ta T.length tc]/\L'=wr::mN/\H'=dA/\aj dJ 2 wr.heap.size wr ta T/\(∀b off,ta=some ⟨b,off,none⟩->T=[]\/b<N\/wm.heap.size<=b)/\wm.heap.size<=wr.heap.size| [v1,v2]=>∃(ta:Option Addr) (tc:Nat) (wr:World) (r8:Rw),v1= .agg #[.slice ta T.length tc]/\v2= .tuple #[.agg #[r8.val (aP T c.author c.path).length],ab e]/\L'=wr::mN/\H'=xp++(r8.hp dD 325 (aP T c.author c.path)++[])/\aj dJ 2 wr.heap.size wr ta T/\(∀b off,ta=some ⟨b,off,none⟩->T=[]\/b<N\/wm.heap.size<=b)/\wm.heap.size<=wr.heap.size/\Rw.Fr Gh.no [wr,wm,ww,wn,w3,w2,w] r8/\r8.Fit 2 (aP T c.author c.path)/\r8.ge wr.heap.size| [v1,v2,v3]=>∃(ta:Option Addr) (tc:Nat) (wr:World) (r8:Rw),v1= .agg #[.slice ta T.length tc]/\v2= .tuple #[.agg #[r8.val (aP T c.author c.path).length],ab e]/\v3= .tuple #[.agg #[r8.val (aP T c.author c.path).length],ab e]/\L'=wr::mN/\H'=xp++(r8.hp dD 325 (aP T c.author c.path)++[])/\aj dJ 2 wr.heap.size wr ta T/\(∀b off,ta=some ⟨b,off,none⟩->T=[]\/b<N\/wm.heap.size<=b)/\wm.heap.size<=wr.heap.size/\Rw.Fr Gh.no [wr,wm,ww,wn,w3,w2,w] r8/\r8.Fit 2 (aP T c.author c.path)/\r8.ge wr.heap.size| [v1,v2,v3,v4]=>∃(ta:Option Addr) (tc:Nat) (wr:World) (r8:Rw),v1= .agg #[.slice ta T.length tc]/\v2= .tuple #[.agg #[r8.val (aP T c.author c.path).length],ab e]/\v3= .tuple #[.agg #[r8.val (aP T c.author c.path).length],ab e]/\v4= .agg #[r8.val (aP T c.author c.path).length]/\L'=wr::mN/\H'=xp++(r8.hp dD 325 (aP T c.author c.path)++[])/\aj dJ 2 wr.heap.size wr ta T/\(∀b off,ta=some ⟨b,off,none⟩->T=[]\/b<N\/wm.heap.size<=b)/\wm.heap.size<=wr.heap.size/\Rw.Fr Gh.no [wr,wm,ww,wn,w3,w2,w] r8/\r8.Fit 2 (aP T c.author c.path)/\r8.ge wr.heap.size| [v1,v2,v3,v4,v5]=>∃(ta:Option Addr) (tc:Nat) (wr:World) (r8:Rw),v1= .agg #[.slice ta T.length tc]/\v2= .tuple #[.agg #[r8.val (aP T c.author c.path).length],ab e]/\v3= .tuple #[.agg #[r8.val (aP T c.author c.path).length],ab e]/\v4= .agg #[r8.val (aP T c.author c.path).length]/\v5= .tuple #[]/\L'=wr::mN/\H'=[(b4,oC (setCells (aY (⟨⟨G.g.folder,c.epoch,aE Z c,[],[]⟩,none,0,none,0⟩:Gv)) 35 [r8.val (aP T c.author c.path).length]) 86)]++(r8.hp dD 325 (aP T c.author c.path)++[])/\aj dJ 2 wr.heap.size wr ta T/\(∀b off,ta=some ⟨b,off,none⟩->T=[]\/b<N\/wm.heap.size<=b)/\wm.heap.size<=wr.heap.size/\Rw.Fr Gh.no [wr,wm,ww,wn,w3,w2,w] r8/\r8.Fit 2 (aP T c.author c.path)/\r8.ge wr.heap.size|_=>False) (pc Om (pc Z7 (pc Om (pk (pc z9 (pc Om (pc ZP (pc Om (pk (pk (pk (pc (λcv L' H' hd hP=>match cv,hd,hP with| [],hd,hP=>(absurd (show false=true from hd) zF)| [v1],hd,hP=>(absurd (show false=true from hd) zF)| [v1,v2],hd,hP=>(absurd (show false=true from hd) zF)| [v1,v2,v3],hd,hP=>zQc| [v1,v2,v3,v4],hd,hP=>zOc| [v1,v2,v3,v4,v5],hd,hP=>zNc|_::_::_::_::_::_::_,_,hP=>hP.elim) (pc VA (pk (pn))))))))))))))) ?_ ?_
 ·exact zKi
 intro cv L' H' hl hP;obtain⟨v1,v2,v3,v4,v5,rfl⟩:=RQ hl;obtain⟨ta,tc,wr,r8,rfl,rfl,rfl,rfl,rfl,rfl,rfl,rQ,fe,tH,dY,dw,eo⟩:=hP;refine B 6 ?_;refine NF ?_;refine bX (.agg (aY ov)) ?_;refine B 7 ?_;exact bH (.inl rfl) results258 aL λW hS=>⟨ov,rfl,(hS.links w A6).below (λk hk hx=>by rcases hx with hx|hx;(exact hx);simp only[eI,gU,fP,dG,iM,jv,kS,dQ,ft,jc,or_false]at hx;rcases hx with hx|hx;(omega);have:=Rw.mem_ge eo hx;omega),rfl,RJ _ _,λq h=>xn,λq h=>xn⟩
theorem On{ns:List Nd}(h:mE ns):∀(i:Nat) (x:Nd),ns[i]? =some x->(i:Int)+1<=x.at_
 |0,x,hx=>by have:=(h 0 x hx).1;omega
 |i+1,x,hx=>by
  obtain⟨y,hy⟩:=ng ns i cM;have h1:=On h i y hy;have h2:=(h (i+1) x hx).2.2.1 y aa cM;omega
theorem RR{ns:List Nd}(h:mE ns):ns.length<=1023:=by
 by_cases h0:ns.length=0
 ·omega
 obtain⟨x,hx⟩:=ng ns (ns.length-1) aa;have h1:=On h _ x hx;have h2:=(h _ x hx).2.1;omega
theorem nvl(h:cY g=true):g.ns.length<=1023/\g.ms.length<=1023:=by
 have h1:=tD.1 h;have h2:=RR (BB.1 h1.1.2.2.2);have h3:=congrArg List.length h1.2.2.1
 grind [nlo]
def BR (f e:Int) (id:Nat->Int) (a b:Value):Array Value:=(ab f::ab e::th id [a,b]).toArray
theorem nkq(f e:Int)(id:Nat->Int)(r J:Rw)(n m:Nat):rK (Value.agg (BR f e id (r.val n) (J.val m))).cells.toList=true:=by cases r<;>cases J<;>rfl
def kg (e:Int) (l:List Ch):List Mb:=(l.filter λx=> !decide (x.kind=2)).map λy=>⟨y.dev,e,y.ver⟩
theorem nlq{e:Int}{x:Ch}(hx:l[j]? =some x)(h:¬x.kind=2)(F:List Mb):F++kg e (l.take (j+1))=(F++kg e (l.take j))++[⟨x.dev,e,x.ver⟩]:=by rw[nk hx];simp[kg,h]
theorem Fk{e:Int}{x:Ch}(hx:l[j]? =some x)(h:x.kind=2)(F:List Mb):F++kg e (l.take (j+1))=F++kg e (l.take j):=by rw[nk hx];simp[kg,h]
theorem nQk(e:Int)(l:List Ch):(kg e l).length<=l.length:=by grind [kg]
theorem Z8(e:Int)(l:List Ch)(F:List Mb):F++kg e (l.take 0)=F:=by simp[kg]
noncomputable def qy (Z:Fx) (g:Gp) (c:Cm):Gp:=⟨g.folder,c.epoch,aE Z c,oS (g.ms.filter (λx=> !eF c.chs x)++kg c.epoch c.chs),aP (bC g.ns c.chs) c.author c.path⟩
theorem nFo{ns:List Nd}{d:Int}(hd:bM d)(l:List Int):(aP ns d l).length<=ns.length+10:=by grind [aP,nji,nDo,Vj]
theorem Rw.val_new{r:Rw}{cp:Nat}(h:r.ge k)(e:r.val n= .slice a n cp):∀q,a=some q->k<=q.block:=by
 intro q hq;cases r with
 |nil=>grind [Rw.val]
 |row b cap sp=>grind [Rw.val,Rw.ge]
theorem K7(hZ:FxOk Z)(G:Gv)(c:Cm)(cZ:ck c)(N:Nat)(w:World)(hN:N<=w.heap.size)(hG:aM N w G)(hC:dc N w c)(hg:Glb w)(hv:cY G.g=true)(kf:ou c=0)(hf:iw G.g c=true)(kq:gS G.g c.author c.chs=0)(hb:qa G.g c=true)(hw:qb c=true)(og:yC Z G.g c=true)(e:Int)(hre:oU (bC G.g.ns c.chs) c.author=e)(he:e=0):Calls prog 258 #[.agg (aY G),.agg (cW c)] w (BO w (qy Z G.g c) 0):=by
 have sa:=tD.1 hv;have RM:=sa.1.2.2.1;have sH:=sa.1.2.1;have eG:=CC.1 kf;have BP:=eG.e1;have BQ:=eG.e2;obtain⟨h1,h2,h3⟩:=Oj hf;have lT:=eG.au;have tr:=cZ.few.chs;have vM:=cZ.few.bxs;have KR:=cZ.few.wes;have gP:=hg.lt;obtain⟨IP,uT,Cy⟩:=nro hv kq;obtain⟨VD,rN⟩:=nIk IP;have JH:=hG.nn;have Ao:=VC c.chs G.g.ns;obtain⟨T,hT⟩:∃T,bC G.g.ns c.chs=T:=⟨_,rfl⟩;rw[hT]at hre Ao;have hpl:=eG.pl;have kG:∀y∈c.path,dr y:=λy hy=>by obtain⟨i,hi⟩:=iB.1 hy;exact eG.path i y hi
 have eD:=nvl hv;refine K2 ?_;refine yV ?_;intro b2 w2 bV bj dz cL cR;refine yX ?_;intro b3 w3 bQ aZ dK cP dt;refine bD 1 ?_;intro b4 dL dP;refine Z2 ?_;intro Wn an cn wn pZ wv sI tM;have wz:=pZ.sizes;replace wz:=yb wz;have Og:=wv.size;have tI:=pZ.under;replace tI:=yf tI;refine Z3 ?_;refine eS 15 13 [] (pb:=zYA) (sp:=(_::_::_::_::(some (aK))::(some aO)::_)) (h:=?_);intro _ _ hk;refine zRd ?_;intro W_ aw cw ww oV xm wB qY;have yD:=(oV.links wn A0).size;have Av:∀q,aw=some q->wn.heap.size<=q.block:=λq e=>dS yD (qY q e);refine zOd ?_;refine Je ?_;refine eS 10 7 [] (pb:=zYG) (sp:=[some (.agg (aY G)),_,_,_,some (.slice c.ca c.chs.length c.cc),some (ab (iv G.g c.author c.chs)),some (.agg (cW c)),_,_,some (.agg #[ab c.sr,ab c.ss])]) (h:=?_);intro _ _ hk;refine zTd ?_;rintro W_ bm wm oV xm ⟨yD,jQ⟩
 try dsimp only at yD jQ
 have Ol:=(oV.links wn A1).size;have Z5:wn.heap.size<=bm:=by omega
 refine zE ?_;refine zge ?_;refine pN ?_;refine eA 6 (pb:=zYo) (sp:=[_,_,_,_,some (.agg (cW c)),some (.agg (dg (aE Z c)))]) (k:=?_);refine zRh ?_;have yn:=(bO.1 jQ).1;refine zLd ?_;refine CJ.chn 14 [3,8,9,10,13] [some (.agg (aY G)),_,some (.slice c.ca c.chs.length c.cc),none,_,_,_,some (.slice c.pa c.path.length c.pc),none,none,none,some (ab e),_,none] (λcv L' H'=>let xp:ae:=[(b4,oC (aY (⟨⟨G.g.folder,c.epoch,aE Z c,[],[]⟩,none,0,none,0⟩:Gv)) 86)];let dA:ae:=xp;let mN:List World:=[wm,ww,wn,w3,w2,w];match cv with| []=>L'=mN/\H'=dA| [v1]=>∃(ta:Option Addr) (tc:Nat) (wr:World),v1= .agg #[.slice ta T.length tc]/\L'=wr::mN/\H'=dA/\aj dJ 2 wr.heap.size wr ta T/\(∀b off,ta=some ⟨b,off,none⟩->T=[]\/b<N\/wm.heap.size<=b)/\wm.heap.size<=wr.heap.size| [v1,v2]=>∃(ta:Option Addr) (tc:Nat) (wr:World) (r8:Rw),v1= .agg #[.slice ta T.length tc]/\v2= .tuple #[.agg #[r8.val (aP T c.author c.path).length],ab e]/\L'=wr::mN/\H'=xp++(r8.hp dD 325 (aP T c.author c.path)++[])/\aj dJ 2 wr.heap.size wr ta T/\(∀b off,ta=some ⟨b,off,none⟩->T=[]\/b<N\/wm.heap.size<=b)/\wm.heap.size<=wr.heap.size/\Rw.Fr Gh.no [wr,wm,ww,wn,w3,w2,w] r8/\r8.Fit 2 (aP T c.author c.path)/\r8.ge wr.heap.size| [v1,v2,v3]=>∃(ta:Option Addr) (tc:Nat) (wr:World) (r8:Rw),v1= .agg #[.slice ta T.length tc]/\v2= .tuple #[.agg #[r8.val (aP T c.author c.path).length],ab e]/\v3= .tuple #[.agg #[r8.val (aP T c.author c.path).length],ab e]/\L'=wr::mN/\H'=xp++(r8.hp dD 325 (aP T c.author c.path)++[])/\aj dJ 2 wr.heap.size wr ta T/\(∀b off,ta=some ⟨b,off,none⟩->T=[]\/b<N\/wm.heap.size<=b)/\wm.heap.size<=wr.heap.size/\Rw.Fr Gh.no [wr,wm,ww,wn,w3,w2,w] r8/\r8.Fit 2 (aP T c.author c.path)/\r8.ge wr.heap.size| [v1,v2,v3,v4]=>∃(ta:Option Addr) (tc:Nat) (wr:World) (r8:Rw),v1= .agg #[.slice ta T.length tc]/\v2= .tuple #[.agg #[r8.val (aP T c.author c.path).length],ab e]/\v3= .tuple #[.agg #[r8.val (aP T c.author c.path).length],ab e]/\v4= .agg #[r8.val (aP T c.author c.path).length]/\L'=wr::mN/\H'=xp++(r8.hp dD 325 (aP T c.author c.path)++[])/\aj dJ 2 wr.heap.size wr ta T/\(∀b off,ta=some ⟨b,off,none⟩->T=[]\/b<N\/wm.heap.size<=b)/\wm.heap.size<=wr.heap.size/\Rw.Fr Gh.no [wr,wm,ww,wn,w3,w2,w] r8/\r8.Fit 2 (aP T c.author c.path)/\r8.ge wr.heap.size| [v1,v2,v3,v4,v5]=>∃(ta:Option Addr) (tc:Nat) (wr:World) (r8:Rw),v1= .agg #[.slice ta T.length tc]/\v2= .tuple #[.agg #[r8.val (aP T c.author c.path).length],ab e]/\v3= .tuple #[.agg #[r8.val (aP T c.author c.path).length],ab e]/\v4= .agg #[r8.val (aP T c.author c.path).length]/\v5= .tuple #[]/\L'=wr::mN/\H'=[(b4,oC (setCells (aY (⟨⟨G.g.folder,c.epoch,aE Z c,[],[]⟩,none,0,none,0⟩:Gv)) 35 [r8.val (aP T c.author c.path).length]) 86)]++(r8.hp dD 325 (aP T c.author c.path)++[])/\aj dJ 2 wr.heap.size wr ta T/\(∀b off,ta=some ⟨b,off,none⟩->T=[]\/b<N\/wm.heap.size<=b)/\wm.heap.size<=wr.heap.size/\Rw.Fr Gh.no [wr,wm,ww,wn,w3,w2,w] r8/\r8.Fit 2 (aP T c.author c.path)/\r8.ge wr.heap.size|_=>False) (pc Om (pc Z7 (pc Om (pk (pc z9 (pc Om (pc ZP (pc Om (pk (pk (pk (pc (λcv L' H' hd hP=>match cv,hd,hP with| [],hd,hP=>(absurd (show false=true from hd) zF)| [v1],hd,hP=>(absurd (show false=true from hd) zF)| [v1,v2],hd,hP=>(absurd (show false=true from hd) zF)| [v1,v2,v3],hd,hP=>zQc| [v1,v2,v3,v4],hd,hP=>zOc| [v1,v2,v3,v4,v5],hd,hP=>zNc|_::_::_::_::_::_::_,_,hP=>hP.elim) (pc VA (pk (pn))))))))))))))) ?_ ?_
 ·exact zKi
 intro cv L' H' hl hP;obtain⟨v1,v2,v3,v4,v5,rfl⟩:=RQ hl;obtain⟨ta,tc,wr,r8,rfl,rfl,rfl,rfl,rfl,rfl,rfl,rQ,fe,tH,dY,dw,eo⟩:=hP;refine aV 6 aO ?_;refine B 14 ?_;refine VP ?_;refine IB (enc:=ly) (m:=3) (t:=156) (xs:=G.g.ms) (v:=id) (first:=[]) (cap:=[]) rfl call309 rfl rfl rfl (λW hS=>E2 G.g.ms aa N G.ma G.mc W aT (hG.ms.us (hS.same A6 hN zO (by simp only[Over,nl,gU,fP,dG,eI,and_true];(repeat' apply And.intro);all_goals first|omega|exact True.intro|exact Rw.over (Rw.ge_mono eo aa))))) ?_;intro r9 qd Fl;have Fm:=Rw.ge_of qd A0;refine B 1 ?_;refine ID (r:=r9) (enc:=ly) (m:=3) (t:=156) (xs:=G.g.ms) (ys:=(G.g.ms.filter λx=> !eF c.chs x)) (H0:=[]) (H1:=[(b4,oC (setCells (aY (⟨⟨G.g.folder,c.epoch,aE Z c,[],[]⟩,none,0,none,0⟩:Gv)) 35 [r8.val (aP T c.author c.path).length]) 86)]++(r8.hp dD 325 (aP T c.author c.path)++[])) (v:=λr=>r.val (G.g.ms.filter λx=> !eF c.chs x).length) rfl call308 rfl rfl rfl (λhr W hS=>?_) (λb cap sp hr W hS h=>?_) ?_
 ·subst hr;have h0:G.g.ms=[]:=Fl;rw[h0];exact(nJi 305 [ptr b3 0] call305 W).mono λe w2 h=>⟨h.1,rfl,h.2⟩
 ·subst hr;have ea:wr.heap.size<=b:=Fm;have cy:=(hS.links w A6).size;have ez:=(hS.links w3 A4).size;have e3:=(bO.1 bQ).1;exact nRm (eF c.chs) 305 [ptr b3 0] call305 G.g.ms aa b cap sp W h Fl (λj x hx W2 hK Z0=>RD c cZ.few N b3 x W2 (dS hN (dS cy hK.size)) (hC.us (λk hk=>(hK.block k aa aa).trans (hS.same A6 hN zO (by simp only[Over,nl,gU,fP,dG,eI,and_true];(repeat' apply And.intro);all_goals first|omega|exact True.intro|exact Rw.over (Rw.ge_mono eo aa)|exact Rw.over (Rw.ge_mono Fm aa)) k hk))) (by rw[hK.block b3 aa aa];exact hS.old A4 bQ aZ zD))
 intro J RT Z9 bI e4;have bw:=Z9 qd;have e6:=bI _ Fm;refine B 1 ?_;refine OJ.perm (H':=[(b4,oC (BR G.g.folder c.epoch (aE Z c) (bS) (r8.val (aP T c.author c.path).length)) 86)]++(r8.hp dD 325 (aP T c.author c.path)++(J.hp ly 156 (G.g.ms.filter λx=> !eF c.chs x)++[]))) (by simp only[fP,dG,gU];exact List.perm_append_comm) ?_;refine lG (i:=0) rfl sizeOf81 rfl rfl rfl (Rw.val_size _ _) (fy rfl) (Rw.val_one _ _) ?_;refine B 6 ?_;refine IL ?_;refine B 5 ?_;have qo:=Z8 c.epoch c.chs (G.g.ms.filter λx=> !eF c.chs x);refine CJ.reH (H':=[(b4,oC (BR G.g.folder c.epoch (aE Z c) (J.val ((G.g.ms.filter λx=> !eF c.chs x)++kg c.epoch (c.chs.take 0)).length) (r8.val (aP T c.author c.path).length)) 86)]++(r8.hp dD 325 (aP T c.author c.path)++(J.hp ly 156 ((G.g.ms.filter λx=> !eF c.chs x)++kg c.epoch (c.chs.take 0))++[]))) (by rw[qo,Rw.val_cells];rfl) ?_;refine CJ.lp (α:=Rw×Nat) [2,3,4,122] (λp=>[(121,.slice c.ca c.chs.length c.cc),(123,ab (p.2:Int))]) (λp=>[(b4,oC (BR G.g.folder c.epoch (aE Z c) (p.1.val ((G.g.ms.filter λx=> !eF c.chs x)++kg c.epoch (c.chs.take p.2)).length) (r8.val (aP T c.author c.path).length)) 86)]++(r8.hp dD 325 (aP T c.author c.path)++(p.1.hp ly 156 ((G.g.ms.filter λx=> !eF c.chs x)++kg c.epoch (c.chs.take p.2))++[]))) (λp=>p.2<=c.chs.length/\p.1.Fr Gh.no [wr,wm,ww,wn,w3,w2,w]/\p.1.Fit 3 ((G.g.ms.filter λx=> !eF c.chs x)++kg c.epoch (c.chs.take p.2))) (λp=>c.chs.length-p.2) (J,0) ⟨cd _,bw,by rw[qo];exact RT⟩ ?_
 rintro⟨r,j⟩ ⟨hj,aB,af⟩;dsimp only at hj aB af ⊢;have bW:r.ge wr.heap.size:=Rw.ge_of aB A0;have BN:=RI (λx=> !eF c.chs x) G.g.ms;have pO:=nQk c.epoch (c.chs.take j);rw[oK]at pO;refine av 6 ?_ ?_
 ·intro ai;refine B 5 ?_;obtain⟨bo,oo,cs0,to,dR,iq,dW,hcs,ay⟩:=hC.chs.get aa;obtain⟨x,hx⟩:=ng c.chs j aa;rw[iq];refine VB ?_;refine yW ?_;intro jw qM Bg;refine av 10 ?_ ?_
  ·intro ax;refine B 10 ?_;refine z7e ?_;refine yW ?_;intro bz eu eT;refine jf (r:=r) (xs:=((G.g.ms.filter λx=> !eF c.chs x)++kg c.epoch (c.chs.take j))) (zs:=[(⟨x.dev,c.epoch,x.ver⟩:Mb)]) (enc:=ly) (m:=3) (H0:=(bz,oC #[ab x.dev,ab c.epoch,ab x.ver] 156)::(jw,oC (ff x) 271)::(b4,oC (BR G.g.folder c.epoch (aE Z c) (r.val ((G.g.ms.filter λx=> !eF c.chs x)++kg c.epoch (c.chs.take j)).length) (r8.val (aP T c.author c.path).length)) 86)::r8.hp dD 325 (aP T c.author c.path)) (H1:=[]) IA nBk vr rfl rfl rfl rfl (bN.one (z:=(⟨x.dev,c.epoch,x.ver⟩:Mb)) vr Vs underlying81 (bL.own (i:=0) rfl)) af aB zP z4 ?_;intro b0 cx bg Fp K8;replace Fp:=yb Fp;refine B 1 ?_;refine lG (i:=2) rfl sizeOf81 rfl rfl rfl rfl (fy rfl) rfl ?_;refine RU ?_;refine PJ.again (Rw.row b0 cx bg,j+1) ⟨by dsimp only;omega,Fp.elim (λh=>Rw.Fr_at aB h) (λh=>.inr h),by rw[nlq hx ew];exact K8⟩ zZ zR (by rw[nlq hx ew];rfl) rfl zP
  intro ax;refine xY ?_;refine PJ.again (r,j+1) ⟨by dsimp only;omega,aB,by rw[Fk hx aa];exact af⟩ zZ zR (by rw[Fk hx aa];rfl) rfl zP
 intro ai;refine B 6 ?_;have cN:c.chs.take j=c.chs:=lE aa;rw[cN]at af ⊢;refine B 3 ?_;have fi:=nQk c.epoch c.chs;refine ID (r:=r) (enc:=ly) (m:=3) (t:=156) (xs:=((G.g.ms.filter λx=> !eF c.chs x)++kg c.epoch c.chs)) (ys:=oS ((G.g.ms.filter λx=> !eF c.chs x)++kg c.epoch c.chs)) (H0:=(b4,oC (BR G.g.folder c.epoch (aE Z c) (r.val ((G.g.ms.filter λx=> !eF c.chs x)++kg c.epoch c.chs).length) (r8.val (aP T c.author c.path).length)) 86)::r8.hp dD 325 (aP T c.author c.path)) (H1:=[]) (v:=λ_=>.tuple #[]) rfl call310 rfl rfl rfl (λhr W hS=>?_) (λb cap sp hr W hS h=>?_) ?_
 ·subst hr;have h0:((G.g.ms.filter λx=> !eF c.chs x)++kg c.epoch c.chs)=[]:=af;rw[h0];exact(nTo W).mono λe w2 h=>⟨h.1,Fc,h.2⟩
 ·subst hr;exact ZZ (by rw[eU];omega) af h
 intro aq yh e8 bx RW;have Fq:=bx _ bW;refine B 5 ?_;refine fE (i:=0) rfl sizeOf86 rfl rfl rfl rfl rfl (nkq _ _ _ _ _ _ _) ?_;refine B 4 ?_;refine bH (.inl rfl) results258 aL λW hS=>?_;have RX:r8.At dD 325 (aP T c.author c.path) W:=by
  cases r8 with
  |nil=>trivial
  |row b cap sp=>exact hS.own (b,_) qw
 have cq:aq.At ly 156 (oS ((G.g.ms.filter λx=> !eF c.chs x)++kg c.epoch c.chs)) W:=by
  cases aq with
  |nil=>trivial
  |row b cap sp=>exact hS.own (b,_) qw
 obtain⟨a,cp,lS,RY⟩:=Rw.sl (xs:=oS ((G.g.ms.filter λx=> !eF c.chs x)++kg c.epoch c.chs)) vr yh cq (aC W.heap.size);obtain⟨a8,Er,aR,pW⟩:=Rw.sl tB dw RX (aC W.heap.size);have h1:r.val ((G.g.ms.filter λx=> !eF c.chs x)++kg c.epoch c.chs).length= .slice a (oS ((G.g.ms.filter λx=> !eF c.chs x)++kg c.epoch c.chs)).length cp:=by rw[<-ZX ((G.g.ms.filter λx=> !eF c.chs x)++kg c.epoch c.chs),<-RW];exact lS
 have ej:=nvl hv;have dv:=nFo (ns:=T) lT c.path;have fw:=nQk c.epoch c.chs;refine⟨⟨qy Z G.g c,a,cp,a8,Er⟩,?_,?_,rfl,⟨RY,by rw[<-hT]at pW;exact pW,?_,?_⟩,Rw.val_new (Rw.ge_mono Fq aa) lS,Rw.val_new (Rw.ge_mono eo aa) aR⟩
 ·show Ending.returned (.tuple #[.agg (BR G.g.folder c.epoch (aE Z c) (r.val ((G.g.ms.filter λx=> !eF c.chs x)++kg c.epoch c.chs).length) (r8.val (aP T c.author c.path).length)),ab 0])=_;rw[h1,aR,<-hT];rfl
 ·exact(hS.links w A6).below (λk hk hx=>by rcases hx with hx|hx;(exact hx);simp only[eI,gU,fP,dG,iM,jv,kS,dQ,ft,jc,or_false]at hx;rcases hx with hx|hx|hx;(omega);(have:=Rw.mem_ge eo hx;omega);(have:=Rw.mem_ge Fq hx;omega))
 ·show(oS ((G.g.ms.filter λx=> !eF c.chs x)++kg c.epoch c.chs)).length<=10000;rw[ZX,eU];omega
 exact zJk
noncomputable def eH (Z:Fx) (g:Gp) (c:Cm):Int:=
 if cY g=true then(if ou c=0 then(if iw g c=true then(if gS g c.author c.chs=0 then(if qa g c=true then(if qb c=true then(if yC Z g c=true then oU (bC g.ns c.chs) c.author else 222)else 220)else 220)else 221)else 220)else 220)else 1
noncomputable def ra (Z:Fx) (g:Gp) (c:Cm):Gp:=if eH Z g c=0 then qy Z g c else yB
theorem Fs(hv:cY g=true):gS g au l=0\/gS g au l=221:=by
 grind [gS]
theorem nBf(hZ:FxOk Z)(G:Gv)(c:Cm)(cZ:ck c)(N:Nat)(w:World)(hN:N<=w.heap.size)(hG:aM N w G)(hC:dc N w c)(hg:Glb w):Calls prog 258 #[.agg (aY G),.agg (cW c)] w (BO w (ra Z G.g c) (eH Z G.g c)):=by
 have key:∀e:Int,eH Z G.g c=e->e≠0->Calls prog 258 #[.agg (aY G),.agg (cW c)] w (BO w yB e)->Calls prog 258 #[.agg (aY G),.agg (cW c)] w (BO w (ra Z G.g c) (eH Z G.g c)):=by
  intro e he h0 h;have:ra Z G.g c=yB:=by unfold ra;rw[he,if_neg h0]
  rw[this,he];exact h
 cases hv:cY G.g with
 |false=>grind [eH,Fe]
 |true=>
  rcases nRk c with kf|kf
  ·cases hf:iw G.g c with
   |false=>grind [eH,Fg]
   |true=>
    rcases Fs (au:=c.author) (l:=c.chs) hv with kq|kq
    ·cases hb:qa G.g c with
     |false=>grind [eH,K3]
     |true=>
      cases hw:qb c with
      |false=>grind [eH,K4]
      |true=>
       cases og:yC Z G.g c with
       |false=>grind [eH,Fi]
       |true=>
        have e1:eH Z G.g c=oU (bC G.g.ns c.chs) c.author:=by simp[eH,hv,kf,hf,kq,hb,hw,og]
        by_cases he:oU (bC G.g.ns c.chs) c.author=0
        ·have e2:eH Z G.g c=0:=e1.trans he;have J:ra Z G.g c=qy Z G.g c:=by unfold ra;rw[e2,if_pos rfl]
         rw[e2,J];exact K7 hZ G c cZ N w hN hG hC hg hv kf hf kq hb hw og 0 he rfl
        grind [Fj]
    grind [eH,Fh]
  grind [eH,Ff]
theorem Ft{l:List Value}(h:l.all (λu=>u.oneCell')=true):∀u∈l,u.oneCell'=true:=λu hu=>xk.1 h u hu
def kN (x:Gv):List Value:=(ab x.g.folder::ab x.g.epoch::th x.g.last [.slice x.ma x.g.ms.length x.mc,.slice x.na x.g.ns.length x.nc])
theorem VQ(x:Gv):(kN x).length=36:=rfl
theorem nJq(x:Gv):∀u∈kN x,u.oneCell'=true:=Ft rfl
def sJ (d:Cd):List Value:=(ab d.at_::ab d.c.folder::ab d.c.epoch::th d.c.par (ab d.c.author:: .slice d.c.ca d.c.chs.length d.c.cc:: .slice d.c.pa d.c.path.length d.c.pc:: .slice d.c.ba d.c.bxs.length d.c.bc:: .slice d.c.wa d.c.wes.length d.c.wc::th d.c.conf (ab d.c.sr::ab d.c.ss::th d.id (ab d.since::ab d.x.g.folder::ab d.x.g.epoch::th d.x.g.last [.slice d.x.ma d.x.g.ms.length d.x.mc,.slice d.x.na d.x.g.ns.length d.x.nc]))))
theorem IQ(d:Cd):(sJ d).length=143:=by rfl
theorem nFl(d:Cd):∀u∈sJ d,u.oneCell'=true:=Ft rfl
def kO (k:Dk):List Value:=k.1.map (Value.int .u8)
theorem nqf(k:Dk):(kO k).length=32:=by simp[kO,k.2]
theorem n4n(k:Dk):∀u∈kO k,u.oneCell'=true:=by
 intro u hu;obtain⟨x,_,rfl⟩:=dO.1 hu;rfl
def dk (f:Nat->Int):Dk:=⟨[f 0,f 1,f 2,f 3,f 4,f 5,f 6,f 7,f 8,f 9,f 10,f 11,f 12,f 13,f 14,f 15,f 16,f 17,f 18,f 19,f 20,f 21,f 22,f 23,f 24,f 25,f 26,f 27,f 28,f 29,f 30,f 31],rfl⟩
theorem K9(f:Nat->Int):(kO (dk f)).toArray=dg f:=rfl
theorem nwk(f g:Nat->Int):gV f g=decide (dk f=dk g):=by
 have h:=ndh (dk f).1 (dk g).1 pP;have e:decide (dk f=dk g)=decide ((dk f).1=(dk g).1):=by simp only[Subtype.ext_iff]
 rw[e,<-h];rfl
theorem La:prog.info? 86=some Tryz.t86:=by kernel_rfl
theorem Lb:prog.info? 232=some Tryz.t232:=by kernel_rfl
theorem Lc:prog.info? 34=some Tryz.t34:=by kernel_rfl
theorem Fu:mD prog 106 86 36:=⟨underlying106,Tryz.t86,.agg (ab 0::ab 0::r6 [bS,bS]).toArray,La,rfl,rfl,rfl,by decide⟩
theorem Fv:mD prog 347 232 143:=⟨underlying347,Tryz.t232,.agg (ab 0::ab 0::ab 0::r6 (ab 0::bS::bS::bS::bS::r6 (ab 0::ab 0::r6 (ab 0::ab 0::ab 0::r6 [bS,bS])))).toArray,Lb,rfl,rfl,rfl,by decide⟩
theorem Fw:mD prog 62 34 32:=⟨underlying62,Tryz.t34,.agg (r6 []).toArray,Lc,rfl,rfl,rfl,by decide⟩
theorem Ld:yE prog 34 yF:=aai underlying34 underlying5 sizeOf5 isAgg5
section
variable (p:Cd->Bool)(f:Nat)(cap:List Value)(aF:fh prog f)(xs:List Cd)(de:xs.length<=1000000)(N:Nat)(a:Option Addr)(cp:Nat)(w:World)(hN:N<=w.heap.size)(aA:aj fl 143 N w a xs)(hp:∀(j:Nat) (x:Cd),xs[j]? =some x->∀W,Below w.heap.size w W->Calls prog f (.agg (fl x)::cap).toArray W (ar W (.bool (p x))))
include p f cap aF de cp hN aA hp
theorem nWn:Calls prog 315 #[.slice a xs.length cp,.func (.func f) #[] cap.toArray] w (db w (λi:Int=>ab i) (λi _=>eE p xs i)):=by
 refine eN func315 ntmps315 ?_;refine Vv ?_;rintro j ⟨hj,bT⟩;refine av 6 ?_ ?_
 ·intro ai;refine B 11 ?_;obtain⟨bo,oo,cs0,to,dR,rfl,dW,hcs,ay⟩:=aA.get aa;obtain⟨x,hx⟩:=ng xs j aa;refine aV 5 (.agg (fl x)) ?_;refine Vw ?_;refine pd ?_ ?_
  ·intro ax;refine B 12 ?_;refine pe (j:Int) results315 rfl A0 rfl ?_;exact Vx
  exact Rb
 intro ai;refine B 11 ?_;refine pe (-1:Int) results315 rfl A0 rfl ?_;exact Rc
theorem nyk:Calls prog 260 #[.slice a xs.length cp,.func (.func f) #[] cap.toArray] w (ar w (.bool (xs.any p))):=by
 refine cH 9 func260 ntmps260 ?_;refine ny (α:=Int) (v:=λi:Int=>ab i) (Φ:=λ_ i _=>eE p xs i) call315 rfl rfl rfl (λW hS=>nWn p f cap aF xs de N a cp W aT (aA.us hS.sm) (λj x hx W2 hB=>hp j x hx W2 (((hS.links w A0).below Vk).trans (hB.mono (hS.links w A0).size)))) ?_;intro Wi i wi yw J hi;refine B 5 ?_;refine ao results260 rfl A1 ?_;exact vb hi.any
end
def oW (l:List Dk) (k:Dk):Int:=match l.findIdx? (λx=>decide (x=k))with|some i=>(i:Int)|none=> -1
theorem nLp{l:List Dk}{k x:Dk}(bT:cE (λy=>decide (y=k)) l j)(hx:l[j]? =some x)(h:decide (x=k)=true):(j:Int)=oW l k:=by
 have e:l.findIdx? (λy=>decide (y=k))=some j:=by
  rw[aMt];have hl:=aG hx;obtain⟨_,IS⟩:=qe.1 hx;refine⟨hl,by grind,λi hi=>?_⟩;have:=bT i l[i] hi (kC _);simp[this]
 grind [oW]
theorem RZ{l:List Dk}{k:Dk}(bT:cE (λy=>decide (y=k)) l j)(hj:¬j<l.length):(-1:Int)=oW l k:=by
 have e:l.findIdx? (λy=>decide (y=k))=none:=by
  rw[List.findIdx?_eq_none_iff];intro x hx;have:=List.any_eq_false.1 (Cu bT hj) x hx;simpa using this
 grind [oW]
def dkA (k:Dk):Array Value:=(kO k).toArray
theorem R0(f:Nat->Int)(k:Dk):tz (dg f).toList (dkA k).toList=decide (k=dk f):=by
 have h:=ndh (dk f).1 k.1 cM;have e:decide (k=dk f)=decide ((dk f).1=k.1):=by simp only[Subtype.ext_iff];exact decide_eq_decide.2 ⟨Eq.symm,Eq.symm⟩
 rw[e,<-h];rfl
theorem R1(f:Nat->Int)(k:Dk):mw (pQ 32 [.i]) (dg f).toList (dkA k).toList=true:=nbj 32 (dk f).1 k.1 (dk f).2 k.2
theorem Fy(xs:List Dk)(de:xs.length<=1000000)(N:Nat)(a:Option Addr)(cp:Nat)(w:World)(hN:N<=w.heap.size)(aA:aj dkA 32 N w a xs)(f:Nat->Int):Calls prog 257 #[.slice a xs.length cp,.agg (dg f)] w (ar w (ab (oW xs (dk f)))):=by
 refine eN func257 ntmps257 ?_;refine aU 2 ?_;intro b3 w3 bQ aZ J cP dt;refine B 12 ?_;refine CJ.lp (α:=Nat) [0,3,7] (λj=>[(8,ab (j:Int))]) (λj=>[]) (λj=>j<=xs.length/\cE (λy=>decide (y=dk f)) xs j) (λj=>xs.length-j) 0 ⟨cd _,λi x hi=>absurd hi aa⟩ ?_;rintro j ⟨hj,bT⟩;refine av 6 ?_ ?_
 ·intro ai;refine B 11 ?_;obtain⟨bo,oo,cs0,to,dR,rfl,dW,hcs,ay⟩:=aA.get aa;obtain⟨x,hx⟩:=ng xs j aa;refine eA 5 (sp:=[_,_,_,_,some (.agg (dkA x))]) (k:=?_);refine rq (.bool (decide (x=dk f))) (lR wZ zF nT rfl rfl (R1 f x)) (vb (R0 f x)) ?_;refine av 2 ?_ ?_
  ·intro ax;refine B 12 ?_;exact zqk
  intro ax;refine B 7 ?_;refine ag (j+1) ⟨by omega,bT.next hx (decide_eq_false ew)⟩
 intro ai;refine B 11 ?_;exact zqk
theorem Fz(d x:Cd)(de:x.c.chs.length<=1000)(N:Nat)(b:Nat)(w:World)(hN:N<=w.heap.size)(aA:aj ff 5 N w x.c.ca x.c.chs)(aW:w.heap[b]? =some (oC (fl d) 232)):Calls prog 261 #[.agg (fl x),ptr b 0] w (ar w (.bool (decide (x.c.author≠d.c.author)&&x.c.chs.any (lY d.c.author)))):=by
 have bJ:¬Gh.no.X b:=λh=>h;have J:=(bO.1 aW).1;refine eN func261 ntmps261 ?_;refine aU 2 ?_;intro b2 w2 bV bj dz cL cR;refine aV 7 (ab x.c.author) ?_;refine aV 2 (ab d.c.author) ?_;refine B 2 ?_;refine nf (t:=11) rfl (λai=>?_) (λai=>?_)
 ·replace ai:=ya ai;refine bX (.agg (fl x)) ?_;refine aV 2 (ab d.c.author) ?_;refine cl call262 rfl (λW hS=>n0q x de N W aT (aA.us hS.sm) d.c.author) ?_;refine B 5 ?_;refine ao results261 rfl A1 ?_;exact vb z2
 replace ai:=ya ai;refine B 10 ?_;refine ao results261 rfl A1 ?_;exact vb z2
noncomputable def bG (Z:Fx) (cs:List Cm):Nat->List (Dk×Int)
 |0=>[]
 |j+1=>match cs[j]? with
  |none=>bG Z cs j
  |some c=>if dk (aE Z c)∈(bG Z cs j).map (·.1)then bG Z cs j else bG Z cs j++[(dk (aE Z c),(j:Int))]
theorem R3(hc:cs[j]? =some c)(h:dk (aE Z c)∈(bG Z cs j).map (·.1)):bG Z cs (j+1)=bG Z cs j:=by simp_all[bG]
theorem R4(hc:cs[j]? =some c)(h:¬dk (aE Z c)∈(bG Z cs j).map (·.1)):bG Z cs (j+1)=bG Z cs j++[(dk (aE Z c),(j:Int))]:=by simp_all[bG]
theorem nBg(Z:Fx)(cs:List Cm):∀j,(bG Z cs j).length<=j:=
 by intro x;induction x<;>(grind [bG])
theorem nms(Z:Fx)(cs:List Cm):∀j,((bG Z cs j).map (·.1)).Nodup:=
 by intro x;induction x<;>(grind [bG])
theorem nnn(Z:Fx)(cs:List Cm):∀(j:Nat) (p:Dk×Int),p∈bG Z cs j->∃(i:Nat) (c:Cm),p.2=(i:Int)/\i<j/\cs[i]? =some c/\p.1=dk (aE Z c):=
 by intro x;induction x<;>(grind [bG])
def qz (l:List (Dk×Int)):List (Dk×Bool):=l.map λp=>(p.1,true)
theorem nhh(l:List (Dk×Int)):(qz l).map (·.1)=l.map (·.1):=by simp[qz]
theorem noq(l:List (Dk×Int))(k:Dk):(rf (qz l) k).getD false=decide (k∈l.map (·.1)):=by
 by_cases h:k∈l.map (·.1)
 ·cases e:rf (qz l) k with
  |none=>grind [n2l,nhh]
  |some v=>
   obtain⟨q,hq,rfl⟩:=R5.1 e;have h2:=VR hq;obtain⟨p,_,hp⟩:=dO.1 (cF h2)
   grind
 grind [n2l,nhh]
theorem nyp{l:List (Dk×Int)}{k:Dk}(h:k∈l.map (·.1)):kP (qz l) k true=qz l:=by
 unfold kP;cases hi:ix k (qz l) 0 with
 |none=>grind [nKh,nhh]
 |some q=>
  have h2:=VR hi;obtain⟨p,_,hp⟩:=dO.1 (cF h2);apply xL
  grind
theorem nhq{l:List (Dk×Int)}{k:Dk}{j:Int}(h:¬k∈l.map (·.1)):kP (qz l) k true=qz (l++[(k,j)]):=by
 unfold kP;cases hi:ix k (qz l) 0 with
 |none=>simp[qz]
 |some q=>
  have h2:=VR (l:=qz l) (i:=q.1) (v:=q.2) hi
  grind [nhh]
theorem nuq(o:Option Bool):(o.map Value.bool).getD (aO)= .bool (o.getD false):=by simp
theorem njm{l:List (Dk×Int)}{p:Dk×Int}:(l++[p]).map (·.1)=l.map (·.1)++[p.1]:=by simp
theorem n0l{l:List (Dk×Int)}{p:Dk×Int}:(l++[p]).map (·.2)=l.map (·.2)++[p.2]:=by simp
structure Pv where
 ia:Option Addr
 ic:Nat
 ta:Option Addr
 tc:Nat
noncomputable def IT (Z:Fx) (cs:List Cm) (la:Option Addr) (lc:Nat) (p:Pv):Array Value:=#[.slice la cs.length lc,.slice p.ia ((bG Z cs cs.length).map (·.1)).length p.ic,.slice p.ta ((bG Z cs cs.length).map (·.2)).length p.tc]
structure rh (Z:Fx) (cs:List Cm) (N:Nat) (w:World) (p:Pv):Prop where
 ids:aj dkA 32 N w p.ia ((bG Z cs cs.length).map (·.1))
 at_:aj (λx=>(ak x).toArray) 1 N w p.ta ((bG Z cs cs.length).map (·.2))
theorem rh.up{J:Nat}{w':World}{p:Pv}(h:rh Z cs N w p)(hN:N<=J)(hw:∀k,k<N->w'.heap[k]? =w.heap[k]?):rh Z cs J w' p:=⟨h.ids.up hN hw,h.at_.up hN hw⟩
theorem newPool(hZ:FxOk Z)(cs:List Cm)(hcs:cs.length<=1000)(cZ:∀c∈cs,ck c)(N:Nat)(la:Option Addr)(lc:Nat)(w:World)(hN:N<=w.heap.size)(aA:aj cW 73 N w la cs)(hC:∀c∈cs,dc N w c)(hg:Glb w):Calls prog 145 #[.slice la cs.length lc] w (db w (λp:Pv=>.agg (IT Z cs la lc p)) (λp w1=>rh Z cs w1.heap.size w1 p/\(∀q,p.ia=some q->w.heap.size<=q.block)/\∀q,p.ta=some q->w.heap.size<=q.block)):=by
 have gP:=hg.lt;refine eN func145 ntmps145 ?_;refine bD 3 ?_;intro b2 cL cR;refine B 6 ?_;refine lG (i:=0) rfl sizeOf24 rfl rfl rfl rfl (fy rfl) rfl ?_;refine B 4 ?_;refine akw yF Value.bool rfl rfl ?_;intro b3 cP dt;replace cP:=yb cP;try simp only[cu,and_true,ne_eq]at dt
 refine B 12 ?_;refine CJ.lp (α:=((Rw×Rw)×Mq)×Nat) [2,3,10,11] (λp=>[(12,ab (p.2:Int))]) (λp=>[(b3,p.1.2.obj yF Value.bool (qz (bG Z cs p.2))),(b2,oC #[.slice la cs.length lc,p.1.1.1.val ((bG Z cs p.2).map (·.1)).length,p.1.1.2.val ((bG Z cs p.2).map (·.2)).length] 228)]++(p.1.1.1.hp kO 34 ((bG Z cs p.2).map (·.1))++(p.1.1.2.hp ak 3 ((bG Z cs p.2).map (·.2))++[]))) (λp=>p.2<=cs.length/\p.1.1.1.Fr Gh.no [w]/\p.1.1.1.Fit 32 ((bG Z cs p.2).map (·.1))/\p.1.1.2.Fr Gh.no [w]/\p.1.1.2.Fit 1 ((bG Z cs p.2).map (·.2))/\p.1.2.Ok (qz (bG Z cs p.2))) (λp=>cs.length-p.2) (((.nil,.nil),Mq.mk [] 0),0) ⟨cd _,True.intro,rfl,True.intro,rfl,Mq.nil⟩ ?_;rintro⟨⟨⟨r1,J⟩,m⟩,j⟩ ⟨hj,jH,iX,ei,eT,hm⟩;dsimp only at hj jH iX ei eT hm ⊢;have ri:r1.ge w.heap.size:=Rw.ge_of jH A0;have eX:J.ge w.heap.size:=Rw.ge_of ei A0;refine av 6 ?_ ?_
 ·intro ai;refine B 5 ?_;obtain⟨bo,oo,cs0,to,dR,iq,dW,hcs,ay⟩:=aA.get aa;obtain⟨c,hc⟩:=ng cs j aa;have hcm:=cF hc;have hpl:=nBg Z cs j;refine B 2 ?_;refine rx (oE underlying24 sizeOf100 (congrArg (λq=>some (Value.slice q cs.length lc)) iq) rfl aa aa) ?_;refine bX (.agg (cW c)) ?_;refine bD 1 ?_;intro b5 fK gf;refine B 7 ?_;refine cl call208 rfl (λW hS=>nPg hZ c (cZ c hcm) N W aT ((hC c hcm).us (hS.same A0 hN zO z4b)) (hg.old hS A0 zO z4b)) ?_;refine bD 1 ?_;intro b6 jb od;refine B 5 ?_;by_cases tO:(dk (aE Z c))∈((bG Z cs j).map (·.1))
  ·refine B 3 ?_;refine rq aK (Ax (m:=m) (k:=(dk (aE Z c))) underlying302 Ld zeroValue4 hm (bL.own (i:=2) rfl) rfl rfl) ((nuq _).trans (vb ((noq _ _).trans (decide_eq_true tO)))) ?_;refine B 9 ?_;refine Oo (i:=2) (k:=(dk (aE Z c))) (v:=true) rfl hm underlying302 Ld rfl rfl rfl rfl ?_;intro m2 bj;refine RU ?_;refine PJ.again (((r1,J),m2),j+1) ⟨by dsimp only;omega,jH,by rw[R3 hc tO];exact iX,ei,by rw[R3 hc tO];exact eT,by rw[R3 hc tO];rw[nyp tO]at bj;exact bj⟩ zZ zR (by rw[R3 hc tO,nyp tO];rfl) rfl zP
  refine B 3 ?_;refine rq aO (Ax (m:=m) (k:=(dk (aE Z c))) underlying302 Ld zeroValue4 hm (bL.own (i:=2) rfl) rfl rfl) ((nuq _).trans (vb ((noq _ _).trans (decide_eq_false tO)))) ?_;refine B 4 ?_;refine nE (E':=[(2,_),(3,_),(4,_),(5,_),(6,_),(10,_),(11,_),(12,_),(13,_),(14,_),(15,_),(16,_),(17,_),(18,_),(19,_),(20,_),(21,_),(22,_)]) zR ?_;refine dN 11 [3,4,8,9] [[],[0],[],[0,1,2]] (λcv L' H'=>let dA:Nat×Obj:=(b6,oC (dg (aE Z c)) 34);match cv with| [none,none,none,none]=>L'=[w]/\H'=[dA,(b5,oC (cW c) 100),(b3,m.obj yF Value.bool (qz (bG Z cs j))),(b2,oC #[.slice la cs.length lc,r1.val ((bG Z cs j).map (·.1)).length,J.val ((bG Z cs j).map (·.2)).length] 228)]++(r1.hp kO 34 ((bG Z cs j).map (·.1))++(J.hp ak 3 ((bG Z cs j).map (·.2))++[]))| [none,none,some v8,none]=>∃(jD:Nat),v8= .slice (aH jD) 1 1/\L'=[w]/\H'=[(jD,oC #[ab (j:Int)] 3),dA,(b5,oC (cW c) 100),(b3,m.obj yF Value.bool (qz (bG Z cs j))),(b2,oC #[.slice la cs.length lc,r1.val ((bG Z cs j).map (·.1)).length,J.val ((bG Z cs j).map (·.2)).length] 228)]++(r1.hp kO 34 ((bG Z cs j).map (·.1))++(J.hp ak 3 ((bG Z cs j).map (·.2))++[]))/\ah [w] jD| [some v3,none,none,none]=>∃(fO:Nat),v3= .slice (aH fO) 1 1/\L'=[w]/\H'=[(fO,oC (dg (aE Z c)) 34),dA,(b5,oC (cW c) 100),(b3,m.obj yF Value.bool (qz (bG Z cs j))),(b2,oC #[.slice la cs.length lc,r1.val ((bG Z cs j).map (·.1)).length,J.val ((bG Z cs j).map (·.2)).length] 228)]++(r1.hp kO 34 ((bG Z cs j).map (·.1))++(J.hp ak 3 ((bG Z cs j).map (·.2))++[]))/\ah [w] fO| [some v3,none,some v8,none]=>∃(fO:Nat) (jD:Nat),v3= .slice (aH fO) 1 1/\v8= .slice (aH jD) 1 1/\L'=[w]/\H'=[(jD,oC #[ab (j:Int)] 3),(fO,oC (dg (aE Z c)) 34),dA,(b5,oC (cW c) 100),(b3,m.obj yF Value.bool (qz (bG Z cs j))),(b2,oC #[.slice la cs.length lc,r1.val ((bG Z cs j).map (·.1)).length,J.val ((bG Z cs j).map (·.2)).length] 228)]++(r1.hp kO 34 ((bG Z cs j).map (·.1))++(J.hp ak 3 ((bG Z cs j).map (·.2))++[]))/\ah [w] fO/\ah [w] jD| [some v3,some v4,none,none]=>∃(fO:Nat) (kZ:Nat) (gF:Nat) (iG:List Value),v3= .slice (aH fO) 1 1/\v4= .slice (aH kZ) (((bG Z cs j).map (·.1))++[(dk (aE Z c))]).length gF/\L'=[w]/\H'=[(fO,oC (dg (aE Z c)) 34),dA,(b5,oC (cW c) 100),(b3,m.obj yF Value.bool (qz (bG Z cs j))),(b2,oC #[.slice la cs.length lc,r1.val ((bG Z cs j).map (·.1)).length,J.val ((bG Z cs j).map (·.2)).length] 228)]++((Rw.row kZ gF iG).hp kO 34 (((bG Z cs j).map (·.1))++[(dk (aE Z c))])++(J.hp ak 3 ((bG Z cs j).map (·.2))++[]))/\ah [w] fO/\(r1.isAt kZ\/ah [w] kZ)/\(Rw.row kZ gF iG).Fit 32 (((bG Z cs j).map (·.1))++[(dk (aE Z c))])| [some v3,some v4,some v8,none]=>∃(fO:Nat) (kZ:Nat) (gF:Nat) (iG:List Value) (jD:Nat),v3= .slice (aH fO) 1 1/\v4= .slice (aH kZ) (((bG Z cs j).map (·.1))++[(dk (aE Z c))]).length gF/\v8= .slice (aH jD) 1 1/\L'=[w]/\H'=[(jD,oC #[ab (j:Int)] 3),(fO,oC (dg (aE Z c)) 34),dA,(b5,oC (cW c) 100),(b3,m.obj yF Value.bool (qz (bG Z cs j))),(b2,oC #[.slice la cs.length lc,r1.val ((bG Z cs j).map (·.1)).length,J.val ((bG Z cs j).map (·.2)).length] 228)]++((Rw.row kZ gF iG).hp kO 34 (((bG Z cs j).map (·.1))++[(dk (aE Z c))])++(J.hp ak 3 ((bG Z cs j).map (·.2))++[]))/\ah [w] fO/\(r1.isAt kZ\/ah [w] kZ)/\(Rw.row kZ gF iG).Fit 32 (((bG Z cs j).map (·.1))++[(dk (aE Z c))])/\ah [w] jD| [some v3,some v4,some v8,some v9]=>∃(fO:Nat) (kZ:Nat) (gF:Nat) (iG:List Value) (jD:Nat) (wX:Nat) (wC:Nat) (yG:List Value),v3= .slice (aH fO) 1 1/\v4= .slice (aH kZ) (((bG Z cs j).map (·.1))++[(dk (aE Z c))]).length gF/\v8= .slice (aH jD) 1 1/\v9= .slice (aH wX) (((bG Z cs j).map (·.2))++[(j:Int)]).length wC/\L'=[w]/\H'=[(jD,oC #[ab (j:Int)] 3),(fO,oC (dg (aE Z c)) 34),dA,(b5,oC (cW c) 100),(b3,m.obj yF Value.bool (qz (bG Z cs j))),(b2,oC #[.slice la cs.length lc,r1.val ((bG Z cs j).map (·.1)).length,J.val ((bG Z cs j).map (·.2)).length] 228)]++((Rw.row kZ gF iG).hp kO 34 (((bG Z cs j).map (·.1))++[(dk (aE Z c))])++((Rw.row wX wC yG).hp ak 3 (((bG Z cs j).map (·.2))++[(j:Int)])++[]))/\ah [w] fO/\(r1.isAt kZ\/ah [w] kZ)/\(Rw.row kZ gF iG).Fit 32 (((bG Z cs j).map (·.1))++[(dk (aE Z c))])/\ah [w] jD/\(J.isAt wX\/ah [w] wX)/\(Rw.row wX wC yG).Fit 1 (((bG Z cs j).map (·.2))++[(j:Int)])|_=>False) ⟨rfl,rfl⟩ (Aa 1 (k:=by exact ph zcs (ph zcs (Aa 3 (k:=by exact ph zcs zTq))))) ?_ ?_
  ·refine nc rfl rfl ?_ ?_
   ·intro cv L' H' hl hr hP F Q' hk;obtain⟨x3,x4,x8,x9,rfl⟩:=uQ hl;rcases x3 with _|v3<;>rcases x4 with _|v4<;>rcases x8 with _|v8<;>rcases x9 with _|v9<;>try exact False.elim hP
    ·obtain⟨rfl,rfl⟩:=hP;refine iW underlying62 sizeOf34 zeroValue34 rfl rfl rfl rfl rfl rfl rfl ?_;intro fO ha ho;exact OJ.done (hk _ _ _ ⟨fO,rfl,rfl,rfl,ha⟩)
    ·obtain⟨jD,rfl,rfl,rfl,mB⟩:=hP;refine iW underlying62 sizeOf34 zeroValue34 rfl rfl rfl rfl rfl rfl rfl ?_;intro fO ha ho;refine OJ.perm (List.Perm.swap _ _ _) ?_;exact OJ.done (hk _ _ _ ⟨fO,jD,rfl,rfl,rfl,rfl,ha,mB⟩)
    ·exact kh
    ·exact kh
    ·exact kh
    ·exact kh
    exact kh
   refine nc rfl rfl ?_ ?_
   ·intro cv L' H' hl hr hP F Q' hk;obtain⟨x3,x4,x8,x9,rfl⟩:=uQ hl;rcases x3 with _|v3<;>rcases x4 with _|v4<;>rcases x8 with _|v8<;>rcases x9 with _|v9<;>try exact False.elim hP
    ·exact kh
    ·exact kh
    ·obtain⟨fO,rfl,rfl,rfl,kD⟩:=hP;refine jf (r:=r1) (xs:=((bG Z cs j).map (·.1))) (zs:=[(dk (aE Z c))]) (enc:=kO) (m:=32) (H0:=[(fO,oC (dg (aE Z c)) 34),(b6,oC (dg (aE Z c)) 34),(b5,oC (cW c) 100),(b3,m.obj yF Value.bool (qz (bG Z cs j))),(b2,oC #[.slice la cs.length lc,r1.val ((bG Z cs j).map (·.1)).length,J.val ((bG Z cs j).map (·.2)).length] 228)]) (H1:=J.hp ak 3 ((bG Z cs j).map (·.2))++[]) rfl Fw nqf rfl rfl rfl rfl (bN.one (z:=(dk (aE Z c))) nqf n4n underlying62 (bL.own (i:=0) rfl)) iX jH zP Cq ?_;intro kZ gF iG qf gG;exact OJ.done (hk _ _ _ ⟨fO,kZ,gF,iG,rfl,rfl,rfl,rfl,kD,qf,gG⟩)
    ·obtain⟨fO,jD,rfl,rfl,rfl,rfl,kD,mB⟩:=hP;refine jf (r:=r1) (xs:=((bG Z cs j).map (·.1))) (zs:=[(dk (aE Z c))]) (enc:=kO) (m:=32) (H0:=[(jD,oC #[ab (j:Int)] 3),(fO,oC (dg (aE Z c)) 34),(b6,oC (dg (aE Z c)) 34),(b5,oC (cW c) 100),(b3,m.obj yF Value.bool (qz (bG Z cs j))),(b2,oC #[.slice la cs.length lc,r1.val ((bG Z cs j).map (·.1)).length,J.val ((bG Z cs j).map (·.2)).length] 228)]) (H1:=J.hp ak 3 ((bG Z cs j).map (·.2))++[]) rfl Fw nqf rfl rfl rfl rfl (bN.one (z:=(dk (aE Z c))) nqf n4n underlying62 (bL.own (i:=1) rfl)) iX jH zP Cq ?_;intro kZ gF iG qf gG;exact OJ.done (hk _ _ _ ⟨fO,kZ,gF,iG,jD,rfl,rfl,rfl,rfl,rfl,kD,qf,gG,mB⟩)
    ·exact kh
    ·exact kh
    exact kh
   refine nc rfl rfl ?_ ?_
   ·intro cv L' H' hl hr hP F Q' hk;obtain⟨x3,x4,x8,x9,rfl⟩:=uQ hl;rcases x3 with _|v3<;>rcases x4 with _|v4<;>rcases x8 with _|v8<;>rcases x9 with _|v9<;>try exact False.elim hP
    ·obtain⟨rfl,rfl⟩:=hP;refine uC ?_;intro jD ha ho;exact OJ.done (hk _ _ _ ⟨jD,rfl,rfl,rfl,ha⟩)
    ·exact kh
    ·obtain⟨fO,rfl,rfl,rfl,kD⟩:=hP;refine uC ?_;intro jD ha ho;exact OJ.done (hk _ _ _ ⟨fO,jD,rfl,rfl,rfl,rfl,kD,ha⟩)
    ·exact kh
    ·obtain⟨fO,kZ,gF,iG,rfl,rfl,rfl,rfl,kD,qf,gG⟩:=hP;refine uC ?_;intro jD ha ho;exact OJ.done (hk _ _ _ ⟨fO,kZ,gF,iG,jD,rfl,rfl,rfl,rfl,rfl,kD,qf,gG,ha⟩)
    ·exact kh
    exact kh
   refine nc rfl rfl ?_ ?_
   ·intro cv L' H' hl hr hP F Q' hk;obtain⟨x3,x4,x8,x9,rfl⟩:=uQ hl;rcases x3 with _|v3<;>rcases x4 with _|v4<;>rcases x8 with _|v8<;>rcases x9 with _|v9<;>try exact False.elim hP
    ·exact kh
    ·exact kh
    ·exact kh
    ·exact kh
    ·exact kh
    ·obtain⟨fO,kZ,gF,iG,jD,rfl,rfl,rfl,rfl,rfl,kD,qf,gG,mB⟩:=hP;refine jf (r:=J) (xs:=((bG Z cs j).map (·.2))) (zs:=[(j:Int)]) (enc:=ak) (m:=1) (H0:=[(jD,oC #[ab (j:Int)] 3),(fO,oC (dg (aE Z c)) 34),(b6,oC (dg (aE Z c)) 34),(b5,oC (cW c) 100),(b3,m.obj yF Value.bool (qz (bG Z cs j))),(b2,oC #[.slice la cs.length lc,r1.val ((bG Z cs j).map (·.1)).length,J.val ((bG Z cs j).map (·.2)).length] 228)]++(Rw.row kZ gF iG).hp kO 34 (((bG Z cs j).map (·.1))++[(dk (aE Z c))])) (H1:=[]) rfl vY nh rfl rfl rfl rfl (bN.one (z:=(j:Int)) nh v7 underlying96 (bL.own (i:=0) rfl)) eT ei zP Cq ?_;intro wX wC yG yH uU;exact OJ.done (hk _ _ _ ⟨fO,kZ,gF,iG,jD,wX,wC,yG,rfl,rfl,rfl,rfl,rfl,rfl,kD,qf,gG,mB,yH,uU⟩)
    exact kh
   exact nn
  intro cv L' H' hl hr hP;obtain⟨x3,x4,x8,x9,rfl⟩:=uQ hl;rcases x3 with _|v3<;>rcases x4 with _|v4<;>rcases x8 with _|v8<;>rcases x9 with _|v9
  ·exact fN
  ·exact fN
  ·exact fN
  ·exact fN
  ·exact fN
  ·exact fN
  ·exact fN
  ·exact fN
  ·exact fN
  ·exact fN
  ·exact fN
  ·exact fN
  ·exact fN
  ·exact fN
  ·exact fN
  obtain⟨fO,kZ,gF,iG,jD,wX,wC,yG,rfl,rfl,rfl,rfl,rfl,rfl,kD,qf,gG,mB,yH,uU⟩:=hP;simp only[ah]at kD mB;refine lG (i:=5) rfl sizeOf62 rfl rfl rfl rfl (fy rfl) rfl ?_;refine B 1 ?_;refine lG (i:=5) rfl sizeOf96 rfl rfl rfl rfl (fy rfl) rfl ?_;refine B 5 ?_;refine Oo (i:=4) (k:=(dk (aE Z c))) (v:=true) rfl hm underlying302 Ld rfl rfl rfl rfl ?_;intro m2 bj;refine RU ?_;refine vo ?_;refine PJ.again (((Rw.row kZ gF iG,Rw.row wX wC yG),m2),j+1) ⟨by dsimp only;omega,qf.elim (λh=>Rw.Fr_at jH h) (λh=>.inr h),by rw[R4 hc tO,njm];exact gG,yH.elim (λh=>Rw.Fr_at ei h) (λh=>.inr h),by rw[R4 hc tO,n0l];exact uU,by rw[R4 hc tO,<-nhq tO];exact bj⟩ zZ zR (by rw[R4 hc tO,njm,n0l,<-nhq tO];rfl) rfl zP
 intro ai;refine B 6 ?_;have hpl:=nBg Z cs j;have bg:j=cs.length:=by omega
 subst bg;refine B 2 ?_;refine fE (i:=1) rfl sizeOf228 rfl rfl rfl rfl rfl (by cases r1<;>cases J<;>rfl) ?_;refine B 3 ?_;refine bH (.inl rfl) results145 aL λW hS=>?_;have FA:r1.At kO 34 ((bG Z cs cs.length).map (·.1)) W:=by
  cases r1 with
  |nil=>trivial
  |row b cap sp=>exact hS.own (b,_) qw
 have FB:J.At ak 3 ((bG Z cs cs.length).map (·.2)) W:=by
  cases J with
  |nil=>trivial
  |row b cap sp=>exact hS.own (b,_) qw
 obtain⟨a1,c1,lS,Le⟩:=Rw.sl nqf iX FA (aC W.heap.size);obtain⟨a2,c2,pR,bu⟩:=Rw.sl nh eT FB (aC W.heap.size);refine⟨⟨a1,c1,a2,c2⟩,?_,?_,⟨Le,bu⟩,Rw.val_new ri lS,Rw.val_new eX pR⟩
 ·show Ending.returned (.agg #[.slice la cs.length lc,r1.val _,J.val _])=_;rw[lS,pR];rfl
 exact(hS.links w A0).below (λk hk hx=>by rcases hx with hx|hx;(exact hx);simp only[eI,gB,gU,fP,dG,iM,jv,kS,dQ,ft,jc,or_false]at hx;rcases hx with hx|hx|hx|hx;(omega);(omega);(have:=Rw.mem_ge ri hx;omega);(have:=Rw.mem_ge eX hx;omega))
structure CO {α:Type} (cf:α->α->Int):Prop where
 anti:∀x y,cf x y= -cf y x
 trans:∀x y z,cf x y<=0->cf y z<=0->cf x z<=0
theorem CO.swo{α:Type}{cf:α->α->Int}(h:CO cf):Go.Sort.SWO (Go.Proofs.ltOf cf):=by
 refine⟨λx=>?_,λx y z h1 h2=>?_,λx y z h1 h2=>?_⟩<;>simp only[Go.Proofs.ltOf,decide_eq_true_eq,decide_eq_false_iff_not]at*
 ·have:=h.anti x x;omega
 ·have a1:=h.anti x z;have a2:=h.anti y z;have t1:=h.trans x y z aa aa
  by_cases e:cf x z=0
  ·have t2:=h.trans z x y aa aa;omega
  omega
 have a1:=h.anti x y;have a2:=h.anti y z;have a3:=h.anti x z
 have:=h.trans z y x aa aa;omega
def ki {α:Type} (f g:α->α->Int) (x y:α):Int:=if f x y=0 then g x y else f x y
theorem CO.lt{α:Type}{cf:α->α->Int}(h:CO cf){x y z:α}(h1:cf x y<=0)(h2:cf y z<=0)(h3:cf x y≠0\/cf y z≠0):cf x z≠0:=by
 intro e;have a1:=h.anti x z;have a2:=h.anti y z;have a3:=h.anti x y
 rcases h3 with h3|h3
 ·have:=h.trans y z x h2 aa;omega
 have:=h.trans z x y aa h1;omega
theorem CO.lex{α:Type}{f g:α->α->Int}(hf:CO f)(hg:CO g):CO (ki f g):=by
 refine⟨λx y=>?_,λx y z h1 h2=>?_⟩
 ·have a:=hf.anti x y;have b:=hg.anti x y
  grind [ki]
 have a:=hf.lt (x:=x) (y:=y) (z:=z);have t:=hf.trans x y z;have u:=hg.trans x y z
 grind [ki]
theorem CO.key{α β:Type}{cf:β->β->Int}(h:CO cf)(k:α->β):CO λx y=>cf (k x) (k y):=⟨λx y=>h.anti _ _,λx y z=>h.trans _ _ _⟩
theorem CO.int:CO cj:=by
 (constructor<;>grind [cj])
theorem Oq:∀(a b:List UInt8),Go.Lib.compareBytes a b=0->a=b
 | [],[],_=>rfl
 | [],_::_,h=>by simp[Go.Lib.compareBytes]at h
 |_::_,[],h=>by simp[Go.Lib.compareBytes]at h
 |x::a,y::b,h=>by
  unfold Go.Lib.compareBytes at h;by_cases h1:x<y
  ·grind
  by_cases h2:y<x
  ·grind
  simp[h1,h2]at h;have e:x=y:=UInt8.le_antisymm (UInt8.not_lt.1 h2) (UInt8.not_lt.1 h1);rw[e,Oq a b h]
theorem nAj(x y:UInt8):x<y\/x=y\/y<x:=by grind
theorem VS{x y:UInt8}(a b:List UInt8)(h:x<y):Go.Lib.compareBytes (x::a) (y::b)= -1:=by unfold Go.Lib.compareBytes;grind
theorem R6{x y:UInt8}(a b:List UInt8)(h:y<x):Go.Lib.compareBytes (x::a) (y::b)=1:=by unfold Go.Lib.compareBytes;grind
theorem nug(x:UInt8)(a b:List UInt8):Go.Lib.compareBytes (x::a) (x::b)=Go.Lib.compareBytes a b:=by simp_all[Go.Lib.compareBytes]
theorem npl:∀a b:List UInt8,Go.Lib.compareBytes a b= -Go.Lib.compareBytes b a
 | [],[]=>rfl
 | [],_::_=>rfl
 |_::_,[]=>rfl
 |x::a,y::b=>by
  rcases nAj x y with h|rfl|h
  ·grind [VS,R6]
  ·rw[nug,nug];exact npl a b
  grind [R6,VS]
theorem n2n:∀a b c:List UInt8,Go.Lib.compareBytes a b<=0->Go.Lib.compareBytes b c<=0->Go.Lib.compareBytes a c<=0
 | [],_,[],_,_=>by decide
 | [],_,_::_,_,_=>by show(-1:Int)<=0;decide
 |_::_,[],_,h1,_=>absurd (show(1:Int)<=0 from h1) zF
 |_::_,_::_,[],_,h2=>absurd (show(1:Int)<=0 from h2) zF
 |x::a,y::b,z::c,h1,h2=>by
  rcases nAj x y with h|rfl|h
  ·grind [VS,R6]
  ·rcases nAj x z with k|rfl|k
   ·grind [VS]
   ·rw[nug]at h1 h2 ⊢;exact n2n a b c h1 h2
   grind [R6]
  grind [R6]
theorem CO.bytes:CO Go.Lib.compareBytes:=⟨npl,n2n⟩
def ky3 (x y:Int×Int×List UInt8):Int:=ki (λx y=>cj x.1 y.1) (ki (λx y=>cj x.2.1 y.2.1) (λx y=>Go.Lib.compareBytes x.2.2 y.2.2)) x y
theorem CO.ky3:CO ky3:=(CO.int.key (λx:Int×Int×List UInt8=>x.1)).lex ((CO.int.key (λx:Int×Int×List UInt8=>x.2.1)).lex (CO.bytes.key (λx:Int×Int×List UInt8=>x.2.2)))
theorem R7{x y:Int×Int×List UInt8}(h:ky3 x y=0):x.2.2=y.2.2:=by grind [ky3,ki,Oq]
theorem nOh{le:Nat->Nat->Bool}:∀{l J:List Nat},(∀a∈l,∀b∈l,le a b=true->le b a=true->a=b)->l.Pairwise (λa b=>le a b=true)->J.Pairwise (λa b=>le a b=true)->l.Perm J->l=J
 | [],J,_,_,_,hp=>(List.nil_perm.1 hp).symm▸rfl
 |a::l,[],_,_,_,hp=>absurd hp.length_eq zP
 |a::l,b::J,ha,h1,h2,hp=>by
  have BS:a=b:=by
   have m1:a∈b::J:=hp.mem_iff.1 A0;have m2:b∈a::l:=hp.mem_iff.2 A0;rcases ft.1 m1 with e|m1
   ·exact e
   grind [List.pairwise_cons]
  subst BS;have Lf:=hp.cons_inv;rw[nOh (λx hx y hy=>ha x (.tail _ hx) y (.tail _ hy)) (List.pairwise_cons.1 h1).2 (List.pairwise_cons.1 h2).2 Lf]
section
open Go.Proofs Go.Shelf Go.Lib Go.Sort
theorem aam(x y:Cd)(W:World):Calls prog 352 #[.agg (sJ x).toArray,.agg (sJ y).toArray] W λe w'=>e= .returned (ab (cj x.since y.since))/\∃q E9,w'=grow (W.drewN q) E9:=by
 have J:=λW'=>As x.since y.since W';generalize cj x.since y.since=r at J ⊢;unfold sJ
 go_enter func352,ntmps352
 go_wp2_with (go_at_call 220;refine(J _).mono ?_;rintro e w' ⟨rfl,rfl⟩)
 go_ret
 exact zMj
theorem aan(x y:Cd)(W:World):Calls prog 353 #[.agg (sJ x).toArray,.agg (sJ y).toArray] W λe w'=>e= .returned (ab (cj x.c.author y.c.author))/\∃q E9,w'=grow (W.drewN q) E9:=by
 have J:=λW'=>As x.c.author y.c.author W';generalize cj x.c.author y.c.author=r at J ⊢;unfold sJ
 go_enter func353,ntmps353
 go_wp2_with (go_at_call 220;refine(J _).mono ?_;rintro e w' ⟨rfl,rfl⟩)
 go_ret
 exact zMj
end
theorem nPh{P:Program}{W:World}{b:Nat}:∀(zs:List Int) (off:Nat) (acc:List UInt8),(∀(i:Nat) (h:i<zs.length),W.cell? ⟨b,off+i,none⟩=some (.int .u8 zs[i]))->(Extern.Bytes.loadBytes ⟨b,off,none⟩ zs.length ⟨acc.toArray⟩).run P W= .ok ⟨(acc++zs.map λz=>z.toNat.toUInt8).toArray⟩ W
 | [],off,acc,_=>by simp[Extern.Bytes.loadBytes]
 |z::zs,off,acc,h=>by
  have h0:W.cell? ⟨b,off,none⟩=some (.int .u8 z):=h 0 zP;have ih:=nPh (P:=P) (W:=W) (b:=b) zs (off+1) (acc++[z.toNat.toUInt8]) (λi hi=>by
   have:=h (i+1) cM
   grind)
  have e:(ByteArray.mk acc.toArray).push z.toNat.toUInt8=⟨(acc++[z.toNat.toUInt8]).toArray⟩:=by simp[ByteArray.push]
  have ha:(⟨b,off,none⟩:Addr).add 1=⟨b,off+1,none⟩:=rfl
  grind [Extern.Bytes.loadBytes,Sem.run_bind,load,Sem.run,Result.andThen]
section
open Go.Lib Go.Sort
theorem FC{P:Program}{b1 o1 c1 b2 o2 c2:Nat}{ys:List Int}(h1:∀(i:Nat) (h:i<xs.length),W.cell? ⟨b1,o1+i,none⟩=some (.int .u8 xs[i]))(h2:∀(i:Nat) (h:i<ys.length),W.cell? ⟨b2,o2+i,none⟩=some (.int .u8 ys[i])):(Extern.BytealgCompare.compare #[.slice (some ⟨b1,o1,none⟩) xs.length c1,.slice (some ⟨b2,o2,none⟩) ys.length c2]).run P W= .ok (ab (compareBytes (xs.map λz=>z.toNat.toUInt8) (ys.map λz=>z.toNat.toUInt8))) W:=by
 change Sem.run P (do pure (goInt (Extern.BytealgCompare.cmp (<-Extern.Bytes.bytesOf (.slice (some ⟨b1,o1,none⟩) xs.length c1)) (<-Extern.Bytes.bytesOf (.slice (some ⟨b2,o2,none⟩) ys.length c2))))) W=_;have e1:=nPh (P:=P) (W:=W) xs o1 [] h1;have e2:=nPh (P:=P) (W:=W) ys o2 [] h2;simp[Extern.Bytes.bytesOf];rw[show ByteArray.empty=⟨(#[]:Array UInt8)⟩from rfl,e1];simp;rw[e2];simp;rw[cmp_eq];rfl
theorem nzl{b1 o1 c1 b2 o2 c2:Nat}{ys:List Int}(h1:∀(i:Nat) (h:i<xs.length),W.cell? ⟨b1,o1+i,none⟩=some (.int .u8 xs[i]))(h2:∀(i:Nat) (h:i<ys.length),W.cell? ⟨b2,o2+i,none⟩=some (.int .u8 ys[i])):Calls prog 355 #[.slice (some ⟨b1,o1,none⟩) xs.length c1,.slice (some ⟨b2,o2,none⟩) ys.length c2] W λe w'=>e= .returned (ab (compareBytes (xs.map λz=>z.toNat.toUInt8) (ys.map λz=>z.toNat.toUInt8)))/\w'=W:=by
 have hr:=FC (P:=prog) (c1:=c1) (c2:=c2) h1 h2;clear h1 h2
 go_enter func355,ntmps355
 go_wp2
 rw[run_callFunc_extern func387 xw xw xw (e:=Extern.BytealgCompare.compare) xw,hr];simp only[Result.andThen];rw[Oper.upon_value]
 go_wp2
 go_ret
 exact⟨rfl,rfl⟩
theorem aao{o2:Obj}{X:Array Value}{v:Value}(q:Nat)(h:X[k]? =some v):(((W.alloc (.cells X t)).alloc o2).drewN q).cell? ⟨W.heap.size,k,none⟩=some v:=by
 simp_all
theorem aap{o1:Obj}{Y:Array Value}{v:Value}(q:Nat)(h:Y[k]? =some v):(((W.alloc o1).alloc (.cells Y t)).drewN q).cell? ⟨W.heap.size+1,k,none⟩=some v:=by simp_all
theorem aaq(X Y:Array Value)(xs ys:List Int)(hx:xs.length=32)(hy:ys.length=32)(J:∀(i:Nat) (h:i<xs.length),X[74+i]? =some (.int .u8 xs[i]))(hY:∀(i:Nat) (h:i<ys.length),Y[74+i]? =some (.int .u8 ys[i]))(W:World):Calls prog 354 #[.agg X,.agg Y] W λe w'=>e= .returned (ab (compareBytes (xs.map λz=>z.toNat.toUInt8) (ys.map λz=>z.toNat.toUInt8)))/\∃q E9,w'=grow (W.drewN q) E9:=by
 have mM:∀q,Calls prog 355 #[.slice (some ⟨W.heap.size,74,none⟩) 32 32,.slice (some ⟨W.heap.size+1,74,none⟩) 32 32] (((W.alloc (.cells X 232)).alloc (.cells Y 232)).drewN q) λe w'=>e= .returned (ab (compareBytes (xs.map λz=>z.toNat.toUInt8) (ys.map λz=>z.toNat.toUInt8)))/\w'=((W.alloc (.cells X 232)).alloc (.cells Y 232)).drewN q:=by
  intro q;have:=nzl (W:=((W.alloc (.cells X 232)).alloc (.cells Y 232)).drewN q) (b1:=W.heap.size) (o1:=74) (c1:=32) (b2:=W.heap.size+1) (o2:=74) (c2:=32) (xs:=xs) (ys:=ys) (λi h=>aao _ (by simp[J i h])) (λi h=>aap _ (by simp[hY i h]));rw[hx,hy]at this;exact this
 generalize compareBytes (xs.map λz=>z.toNat.toUInt8) (ys.map λz=>z.toNat.toUInt8)=c at mM ⊢;clear J hY
 go_enter func354,ntmps354
 go_wp2
 go_region_with (go_at_call 355;refine(mM _).mono ?_;rintro e w' ⟨rfl,rfl⟩)
 go_wp2
 go_ret
 exact⟨rfl,_,_,by rw[alloc_eq_grow,alloc_eq_grow,grow_grow];rfl⟩
end
theorem aar(x y:Cd)(W:World):Calls prog 354 #[.agg (fl x),.agg (fl y)] W λe w'=>e= .returned (ab (Go.Lib.compareBytes (dy x.id) (dy y.id)))/\Gz W w':=by
 have key:∀(z:Cd) (i:Nat) (h:i<(dk z.id).1.length),(fl z)[74+i]? =some (.int .u8 (dk z.id).1[i]):=by
  intro z i h;have h2:i<32:=by rw[(dk z.id).2]at h;exact h
  have e1:((dk z.id).1.map (Value.int .u8))[i]? =some (.int .u8 ((dk z.id).1[i]'h)):=by rw[alt,kC h];rfl
  have e2:(dg z.id)[i]? =((dk z.id).1.map (Value.int .u8))[i]? :=by rw[<-K9,Qg];rfl
  exact(yI (k:=74) (n:=32) (r:=dg z.id) rfl i h2).trans (e2.trans e1)
 exact aaq (fl x) (fl y) (dk x.id).1 (dk y.id).1 (dk x.id).2 (dk y.id).2 (key x) (key y) W
def rkF:Nat->Nat
 |0=>352
 |1=>353
 |_=>354
def R8 (w:World) (b:Nat):Prop:=∃b',w.heap[b]? =some (oC #[.slice (aH b') 3 3] 425)/\w.heap[b']? =some (oC #[.func (.func 352) #[] #[],.func (.func 353) #[] #[],.func (.func 354) #[] #[]] 382)
theorem R9(j:Nat)(h:j<3):(#[Value.func (.func 352) #[] #[],.func (.func 353) #[] #[],.func (.func 354) #[] #[]]:Array Value)[0+((j:Int)).toNat*1]? =some (.func (.func (rkF j)) #[] #[]):=by
 (simp[rkF];grind)
theorem Lg(j:Nat)(h:j<3):fh prog (rkF j):=by
 match j,h with
 |0,_=>exact call352
 |1,_=>exact call353
 |2,_=>exact call354
def IU (x y:Cd):Nat->Int
 |0=>cj x.since y.since
 |1=>cj x.c.author y.c.author
 |_=>Go.Lib.compareBytes (dy x.id) (dy y.id)
theorem aau(x y:Cd)(j:Nat)(h:j<3)(W:World):Calls prog (rkF j) #[.agg (fl x),.agg (fl y)] W λe w'=>e= .returned (ab (IU x y j))/\Gz W w':=by
 match j,h with
 |0,_=>exact aam x y W
 |1,_=>exact aan x y W
 |2,_=>exact aar x y W
def kyD (d:Cd):Int×Int×List UInt8:=(d.since,d.c.author,dy d.id)
def rkI (x y:Cd):Int:=if cj x.since y.since=0 then(if cj x.c.author y.c.author=0 then Go.Lib.compareBytes (dy x.id) (dy y.id)else cj x.c.author y.c.author)else cj x.since y.since
theorem Sa{x y:Cd}(h:∀i,i<j->IU x y i=0)(hj:j<3)(hn:¬IU x y j=0):IU x y j=rkI x y:=by
 have h0:=h 0;have h1:=h 1
 unfold rkI
 grind [IU]
theorem Lh{x y:Cd}(h:∀i,i<3->IU x y i=0):0=rkI x y:=by
 have h0:=h 0 aa;have h1:=h 1 aa;have h2:=h 2 aa
 grind [IU,rkI]
theorem akD(x y:Cd)(b:Nat)(w:World)(hr:R8 w b):Calls prog 386 #[.agg (fl x),.agg (fl y),ptr b 0] w λe w'=>e= .returned (ab (rkI x y))/\Gz w w':=by
 obtain⟨b2,hb,bV⟩:=hr;refine Sb (vs:=[_,_,_]) func386 rfl ntmps386 rfl ?_;refine Ot ?_;refine aav rfl rfl rfl (λW0 h0=>?_);refine aav rfl rfl rfl (λW1 h1=>?_);obtain⟨W2,h2⟩:∃W2,W2=W1.alloc (oC (fl y) 232):=⟨_,rfl⟩;have eO:Gz w W1:=by rw[h1,h0];exact Gz.alloc _ _
 have dz:Gz w W2:=by rw[h2];exact eO.trans (Gz.alloc _ _)
 have p6:W2.heap[W1.heap.size]? =some (oC (fl y) 232):=by rw[h2];exact heap_alloc_new _ _
 have aD:W2.heap[W0.heap.size]? =some (oC (fl x) 232):=by
  have e:W1.heap[W0.heap.size]? =some (oC (fl x) 232):=by rw[h1];exact heap_alloc_new _ _
  rw[h2,(nrd W1 _).block _ (bO.1 e).1];exact e
 have cB:∀{W:World},Gz W2 W->St Gh.no [W2,w] [] W:=λ{W} h=>aax (by
  intro v hv;simp only[ft,jc,or_false]at hv;rcases hv with rfl|rfl
  ·exact h.below
  exact(dz.trans h).below)
 refine sK (L:=[W2,w]) (λW e=>zYW) rfl rfl rfl (po rfl) ?_;refine IV ?_;refine CX.seq ?_;refine Ot ?_;refine sK (L:=[W2,w]) (λW e=>zYW) rfl rfl rfl (ad (v:=.slice (aH b2) 3 3) isAgg425 rfl A1 hb zL trivial rfl) ?_;refine sK (L:=[W2,w]) (λW e=>zYW) rfl rfl rfl (lQ underlying425 rfl) ?_;refine sK (L:=[W2,w]) (λW e=>zYW) rfl rfl rfl (dp rfl) ?_;refine IV ?_;refine CX.block ?_;refine CX.loop (α:=Nat×World) (λp=>[(2,ptr b 0),(3,ptr W0.heap.size 0),(4,ptr W1.heap.size 0),(9,.slice (aH b2) 3 3),(10,ab 3),(11,ab (p.1:Int))]) (λp=>(· =p.2)) (λp=>p.1<=3/\(∀i,i<p.1->IU x y i=0)/\Gz W2 p.2) (λp=>3-p.1) (0,W2) ⟨by omega,λi h=>absurd h aa,Gz.refl _⟩ zR (λW e=>e.trans h2.symm) ?_;rintro⟨j,W⟩ ⟨hj,hz,hg⟩;dsimp only at hj hz hg ⊢;have hT:∀W',W'=W->St Gh.no [W2,w] [] W':=λW' e=>by rw[e];exact cB hg
 refine Ot ?_;by_cases ai:j<3
 ·refine sK hT rfl rfl rfl (RV.re (v':=aK) (FD rfl rfl) (vb (decide_eq_true aa))) ?_;refine IV ?_;refine CX.seq ?_;refine CX.condT rfl ?_;refine CX.skip ?_;refine PX.next ?_;refine CX.seq ?_;refine CX.block ?_;refine Ot ?_;refine sK hT rfl rfl rfl (oE underlying425 sizeOf382 rfl rfl aa aa) ?_;refine sK hT rfl rfl rfl (ad (v:=.func (.func (rkF j)) #[] #[]) isAgg382 rfl A1 bV zL trivial (R9 j ai)) ?_;refine sK hT rfl rfl rfl (po rfl) ?_;refine IV ?_;refine Ot ?_;refine sK hT rfl rfl rfl (dp rfl) ?_;refine sK hT rfl rfl rfl (bZ isAgg232 sizeOf232 rfl A0 aD zL trivial rfl) ?_;refine sK hT rfl rfl rfl (bZ isAgg232 sizeOf232 rfl A0 p6 zL trivial rfl) ?_;refine Sd (first:=[]) (cap:=[]) (v:=ab (IU x y j)) (T':=Gz W) rfl (Lg j ai) rfl rfl rfl (λW' e=>by rw[e];exact aau x y j ai W) ?_;refine OX.fix (λW3 aq=>?_);have gP:=hg.trans aq;have J:∀W',W'=W3->St Gh.no [W2,w] [] W':=λW' e=>by rw[e];exact cB gP
  refine sK J rfl rfl rfl (po rfl) ?_;refine IV ?_;refine Ot ?_;refine sK J rfl rfl rfl (dp rfl) ?_;by_cases ax:IU x y j=0
  ·refine sK J rfl rfl rfl (RV.re (v':=aO) (aN rfl rfl) (vb (by simp[ax]))) ?_;refine IV ?_;refine CX.condF rfl ?_;refine CX.skip ?_;refine PX.norBlock ?_;refine PX.next ?_;refine CX.region ?_;refine sK J rfl rfl rfl (FE rfl rfl aa aa) ?_;refine sK J rfl rfl rfl (dp rfl) ?_;refine OX.done ?_;exact PX.again (j+1,W3) ⟨by dsimp only;omega,λi hi=>by dsimp only at hi;by_cases e:i=j;(rw[e];exact ax);exact hz i aa,gP⟩ zZ zR (λW' e=>e)
  refine sK J rfl rfl rfl (RV.re (v':=aK) (aN rfl rfl) (vb (by simp[ax]))) ?_;refine IV ?_;refine CX.condT rfl ?_;refine Ot ?_;refine sK J rfl rfl rfl (dp rfl) ?_;refine sK J rfl rfl rfl (po rfl) ?_;refine IV ?_;refine CX.ret ?_;refine PX.retBlock ?_;refine PX.retThen ?_;refine PX.retThen ?_;refine PX.retBlock ?_;refine PX.retThen ?_;exact Ov (.inl rfl) results386 rfl (λW' e=>⟨congrArg (λn=>Ending.returned (ab n)) (Sa hz ai ax),by rw[e];exact dz.trans gP⟩)
 refine sK hT rfl rfl rfl (RV.re (v':=aO) (FD rfl rfl) (vb (decide_eq_false aa))) ?_;refine IV ?_;refine CX.seq ?_;refine CX.condF rfl ?_;refine CX.exit ?_;refine PX.exThen ?_;refine PX.exThen ?_;refine PX.exHit ?_;refine PX.next ?_;refine Ot ?_;refine sK hT rfl rfl rfl (po rfl) ?_;refine IV ?_;refine CX.ret ?_;exact Ov (.inl rfl) results386 rfl (λW' e=>⟨congrArg (λn=>Ending.returned (ab n)) (Lh (λi hi=>hz i aa)),by rw[e];exact dz.trans hg⟩)
theorem CO.rkI:CO rkI:=CO.ky3.key kyD
def sL (d:Cd):Nat:=d.at_.toNat
structure rj (Z:Fx) (cs:List Cm) (g:Gp) (d:Cd):Prop where
 nn:0<=d.at_
 at_:cs[sL d]? =some d.c
 id:d.id=aE Z d.c
 since:d.since=pz g.ms d.c.author
 x:d.x.g=qy Z g d.c
 ok:eH Z g d.c=0
noncomputable def BT (Z:Fx) (cs:List Cm) (g:Gp) (i:Nat):Bool:=match cs[i]? with|some c=>gV c.par g.last&&decide (eH Z g c=0)|none=>false
noncomputable def vx (Z:Fx) (cs:List Cm) (g:Gp) (k:Nat):List Nat:=(((bG Z cs cs.length).take k).map λp=>p.2.toNat).filter (BT Z cs g)
section
variable {q:Dk×Int}(hq:(bG Z cs cs.length)[k]? =some q)(hi:q.2=(i:Int))
include q hq hi
theorem Lj(h:BT Z cs g i=true):vx Z cs g (k+1)=vx Z cs g k++[i]:=by simp_all[vx,nk]
theorem FF(h:BT Z cs g i=false):vx Z cs g (k+1)=vx Z cs g k:=by simp_all[vx,nk]
end
theorem Ll(hc:cs[i]? =some c)(h:¬gV c.par g.last=true):BT Z cs g i=false:=by simp[BT,hc,h]
theorem n0p(hc:cs[i]? =some c)(h:¬eH Z g c=0):BT Z cs g i=false:=by simp[BT,hc,h]
theorem nfq(hc:cs[i]? =some c)(h:gV c.par g.last=true)(h2:eH Z g c=0):BT Z cs g i=true:=by grind [BT]
theorem nkl(h:i∈vx Z cs g k):∃c,cs[i]? =some c/\(dk (aE Z c),(i:Int))∈(bG Z cs cs.length):=by
 obtain⟨h1,_⟩:=vy.1 h
 grind [nnn]
noncomputable def Ay (Z:Fx) (cs:List Cm) (g:Gp) (i:Nat):Int×Int×List UInt8:=match cs[i]? with|some c=>(pz g.ms c.author,c.author,dy (aE Z c))|none=>(0,0,[])
variable {d:Cd}
theorem rj.key(h:rj Z cs g d):kyD d=Ay Z cs g (sL d):=by simp[kyD,Ay,h.at_,h.since,h.id]
noncomputable def rR (Z:Fx) (cs:List Cm) (g:Gp) (i j:Nat):Bool:=decide (ky3 (Ay Z cs g i) (Ay Z cs g j)<=0)
noncomputable def IW (Z:Fx) (cs:List Cm) (g:Gp):List Nat:=(vx Z cs g (bG Z cs cs.length).length).mergeSort (rR Z cs g)
theorem Lm{f g:Nat->Int}(hf:gY f)(hg:gY g)(h:dy f=dy g):dk f=dk g:=by
 have key:∀i,i<32->f i=g i:=by
  intro i hi;have h1:=U4 f hf i hi;have h2:=U4 g hg i hi;rw[<-h1,<-h2,h]
 grind [dk]
theorem nxp(hZ:FxOk Z):∀a∈vx Z cs g k,∀b∈vx Z cs g k,rR Z cs g a b=true->rR Z cs g b a=true->a=b:=by
 intro a ha b hb h1 h2;obtain⟨c,hc,hm⟩:=nkl ha;obtain⟨c2,ax,bj⟩:=nkl hb;simp[rR]at h1 h2;have h3:=CO.ky3.anti (Ay Z cs g a) (Ay Z cs g b);have h4:=R7 (x:=Ay Z cs g a) (y:=Ay Z cs g b) aa;simp[Ay,hc,ax]at h4;have h5:dk (aE Z c)=dk (aE Z c2):=Lm (hZ.byt _ _) (hZ.byt _ _) h4;have nd:=nms Z cs cs.length;obtain⟨i,hi⟩:=iB.1 hm;obtain⟨j,hj⟩:=iB.1 bj;have wD:=aG hi;have J:i=j:=by
  have e1:((bG Z cs cs.length).map (·.1))[i]? =some (dk (aE Z c)):=by rw[alt,hi];rfl
  have e2:((bG Z cs cs.length).map (·.1))[j]? =some (dk (aE Z c)):=by rw[alt,hj,h5];rfl
  exact(List.getElem?_inj z2 nd).1 (e1.trans e2.symm)
 (congr;grind)
instance:Inhabited Cd:=⟨⟨0,⟨0,0,λ_=>0,0,[],none,0,[],none,0,[],none,0,[],none,0,λ_=>0,0,0⟩,λ_=>0,0,ov⟩⟩
theorem nJh{α:Type}[Inhabited α]{cf:α->α->Int}(h:CO cf)(xs:List α):(iF cf xs).Pairwise (λa b=>cf a b<=0):=by
 have hs:=(Go.Sort.pdq_sorts (Go.Proofs.ltOf cf) h.swo xs.toArray 0 xs.toArray.size (Go.Lib.bitLen xs.toArray.size) true true (cd _) (aC _) (Or.inl rfl)).2;have hl:(iF cf xs).length=xs.toArray.size:=by rw[RH h.swo];simp
 rw[List.pairwise_iff_getElem];intro i j hi hj J;have h2:=hs i j (cd _) J aa;simp only[Go.Proofs.ltOf,decide_eq_false_iff_not]at h2;have e:∀k (hk:k<(iF cf xs).length),(Go.Sort.pdq (Go.Proofs.ltOf cf) xs.toArray 0 xs.toArray.size (Go.Lib.bitLen xs.toArray.size) true true)[k]! =(iF cf xs)[k]:=by
  intro k hk;unfold iF at hk ⊢;rw[P5]at hk;rw[Array.getElem_toList];exact getElem!_pos (Go.Sort.pdq (Go.Proofs.ltOf cf) xs.toArray 0 xs.toArray.size (Go.Lib.bitLen xs.toArray.size) true true) k hk
 rw[e i hi,e j hj]at h2;have:=h.anti ((iF cf xs)[i]) ((iF cf xs)[j]);omega
theorem Ln(hZ:FxOk Z){ds:List Cd}(hm:ds.map sL=vx Z cs g (bG Z cs cs.length).length)(hd:∀d∈ds,rj Z cs g d):(iF rkI ds).map sL=IW Z cs g:=by
 have hp:(iF rkI ds).Perm ds:=VN CO.rkI.swo ds;have J:((iF rkI ds).map sL).Perm (vx Z cs g (bG Z cs cs.length).length):=hm▸hp.map sL;have Lf:(IW Z cs g).Perm (vx Z cs g (bG Z cs cs.length).length):=List.mergeSort_perm _ _;refine nOh (le:=rR Z cs g) (λa ha b hb=>nxp hZ a (J.mem_iff.1 ha) b (J.mem_iff.1 hb)) ?_ ?_ (J.trans Lf.symm)
 ·rw[List.pairwise_map];refine(nJh CO.rkI ds).imp_of_mem ?_;intro a b ha hb h;have h1:=(hd a (hp.mem_iff.1 ha)).key;have h2:=(hd b (hp.mem_iff.1 hb)).key;simp[rR,<-h1,<-h2];exact h
 refine List.pairwise_mergeSort (λa b c h1 h2=>?_) (λa b=>?_) _
 ·simp[rR]at *;exact CO.ky3.trans _ _ _ h1 h2
 have:=CO.ky3.anti (Ay Z cs g a) (Ay Z cs g b)
 grind [rR]
structure vz (F:ae) (x:Gv):Prop where
 ms:CH jx 3 F x.ma x.g.ms
 ns:CH dJ 2 F x.na x.g.ns
 mn:x.g.ms.length<=10000
 nn:x.g.ns.length<=80000
theorem vz.mono{J:ae}(h:vz F x)(hF:∀p∈F,p∈J):vz J x:=⟨h.ms.mono hF,h.ns.mono hF,h.mn,h.nn⟩
theorem vz.lies(h:vz F x)(hW:∀p∈F,p.1<N/\W.heap[p.1]? =some p.2):aM N W x:=⟨h.ms.at hW,h.ns.at hW,h.mn,h.nn⟩
def bU (K:Nat) (x:Gv):Prop:=(∀q,x.ma=some q->x.g.ms=[]\/K<=q.block)/\(∀q,x.na=some q->x.g.ns=[]\/K<=q.block)
theorem vz.new(h:vz F x)(hF:∀p∈F,K<=p.1):bU K x:=⟨h.ms.ge hF,h.ns.ge hF⟩
theorem nAm(hZ:FxOk Z)(G:Gv)(c:Cm)(cZ:ck c)(N:Nat)(w:World)(hN:N<=w.heap.size)(hG:aM N w G)(hC:dc N w c)(hg:Glb w):Calls prog 258 #[.agg (aY G),.agg (cW c)] w (λe w'=>∃(X:Gv) (F':ae),e= .returned (.tuple #[.agg (aY X),ab (eH Z G.g c)])/\Below w.heap.size w w'/\(∀p∈F',w.heap.size<=p.1/\w'.heap[p.1]? =some p.2)/\X.g=ra Z G.g c/\vz F' X):=by
 refine(nBf hZ G c cZ N w hN hG hC hg).mono ?_;rintro e w' ⟨X,rfl,hb,aD,J,xG,uk⟩;obtain⟨F1,aR,Le⟩:=J.ms.fs xG;obtain⟨F2,VT,aq⟩:=J.ns.fs uk;refine⟨X,F1++F2,rfl,hb,λp hp=>(dQ.1 hp).elim (aR p) (VT p),aD,Le.mono (λp hp=>dQ.2 (.inl hp)),aq.mono (λp hp=>dQ.2 (.inr hp)),J.mn,J.nn⟩
theorem Sf{xs:List Cd}(hl:xs.length<=1000000){cap:Nat}(cQ:(Rw.row b cap sp).Fit 143 xs)(h:W.heap[b]? =some (cT sJ 232 xs sp))(bk:Nat)(yJ:∀w:World,aQ (· =b) W w->R8 w bk):Calls prog 313 #[.slice (aH b) xs.length cap,.func (.func 386) #[] #[ptr bk 0]] W (λe w'=>∃J,e= .returned ((λ_=>.tuple #[]) (Rw.row b cap J))/\aQ (· =b) W w'/\(Rw.row b cap J).Fit 143 (iF rkI xs)/\w'.heap[b]? =some (cT sJ 232 (iF rkI xs) J)):=by
 have KA:∀ys:List Cd,ys.length=xs.length->∀(m:Nat) (os:Array Obj),aQ (· =b) W (Go.Proofs.sortWorldK sJ 143 W b 0 m ys.toArray os):=λys hy m os=>(Au (n:=m) (os:=os) IQ h (ys:=ys) hy).1;have hc:=Go.Proofs.AnyQ.slices_SortFunc_eq Go.Proofs.Tryz.laySC 143 isAgg232 sizeOf232 sJ IQ nFl rkI CO.rkI.swo 386 #[ptr bk 0] b 0 cap xs.toArray W (Go.Proofs.enters_of func386 xw rfl) (λm os dk hd x y=>akD x y bk _ (yJ _ (by have:=KA dk.toList (by rw[P5,hd];simp) m os;simpa using this))) (nio IQ h) (bO.1 h).1 mZ;change Calls prog 313 _ _ _ at hc;refine hc.mono ?_;rintro e w' ⟨rfl,n,os,rfl⟩;have hp:=Au (n:=n) (os:=os) IQ h (ys:=iF rkI xs) (RH CO.rkI.swo xs);exact⟨sp,rfl,hp.1,by simp only[Rw.Fit,RH CO.rkI.swo];exact cQ,hp.2⟩
def yK (w:World) (b N:Nat):Prop:=N<=b/\∃b',N<=b'/\w.heap[b]? =some (oC #[.slice (aH b') 3 3] 425)/\w.heap[b']? =some (oC #[.func (.func 352) #[] #[],.func (.func 353) #[] #[],.func (.func 354) #[] #[]] 382)
theorem yK.keep{X:Nat->Prop}(h:yK w b N)(hk:aQ X w W)(hX:∀k,X k->k<N):yK W b N:=by
 obtain⟨h0,b',gp,h1,h2⟩:=h;have J:=(bO.1 h1).1;have l2:=(bO.1 h2).1;refine⟨h0,b',gp,?_,?_⟩
 ·rw[hk.block b J (λhx=>by grind)];exact h1
 rw[hk.block b' l2 (λhx=>by grind)];exact h2
theorem yK.at(h:yK w b N):R8 w b:=⟨h.2.choose,h.2.choose_spec.2⟩
theorem n9q(b:Nat)(w:World):Calls prog 351 #[.slice (aH b) 3 3] w (db w (λb1:Nat=>.func (.func 386) #[] #[ptr b1 0]) (λb1 w1=>w.heap.size<=b1/\w1.heap[b1]? =some (oC #[.slice (aH b) 3 3] 425))):=by
 refine eN func351 ntmps351 ?_;refine aU 2 ?_;intro b1 w1 aW bJ eO dC fg;refine B 10 ?_;refine pe b1 results351 rfl A1 rfl ?_;exact λW hS=>⟨by omega,hS.old A0 aW bJ trivial⟩
theorem nKo(w:World):Calls prog 314 #[] w (db w (λb1:Nat=>.func (.func 386) #[] #[ptr b1 0]) (λb1 w1=>yK w1 b1 w.heap.size)):=by
 refine cH 7 func314 ntmps314 ?_;refine Dg underlying425 sizeOf382 zeroValue382 rfl rfl rfl rfl rfl rfl rfl ?_;refine yV ?_;intro b1 w1 aW bJ eO dC fg;refine ny (α:=Nat) (v:=λb9:Nat=>.func (.func 386) #[] #[ptr b9 0]) (Φ:=λW b9 J=>W.heap.size<=b9/\J.heap[b9]? =some (oC #[.slice (aH b1) 3 3] 425)) call351 rfl rfl rfl (λW hS=>n9q b1 W) ?_;rintro W9 b9 J jS uK ⟨oi,mr⟩;have tG:=(jS.links w1 A0).size;have aD:=(jS.links w A1).size;refine B 4 ?_;refine pe b9 results314 rfl A2 rfl ?_;exact λW hS=>⟨by omega,b1,by omega,hS.old A0 mr zL trivial,hS.old A1 aW bJ trivial⟩
theorem nQm(bk:Nat)(w:World):Calls prog 378 #[bS,ab 0,ab 0,.func (.func 386) #[] #[ptr bk 0]] w (ar w (.tuple #[])):=by
 refine cH 8 func378 ntmps378 ?_;refine zre ?_;rintro j _;refine B 5 ?_;refine xf ?_;exact aS (.inr rfl) results378 aL A0 trivial rfl
theorem npr(bk:Nat)(l:Int)(w:World):Calls prog 350 #[bS,ab 0,ab 0,ab l,.func (.func 386) #[] #[ptr bk 0]] w (ar w (.tuple #[])):=by
 refine cH 11 func350 ntmps350 ?_;refine zse ?_;rintro j _;refine X2 ?_;refine B 9 ?_;refine cl call378 rfl (λW hS=>nQm bk W) ?_;refine B 7 ?_;exact aS (.inl rfl) results350 aL A0 trivial rfl
theorem nfp(bk:Nat)(w:World):Calls prog 313 #[bS,.func (.func 386) #[] #[ptr bk 0]] w (ar w (.tuple #[])):=by
 refine eN func313 ntmps313 ?_;refine zri ?_;refine cl call350 rfl (λW hS=>npr bk _ W) ?_;refine B 1 ?_;exact aS (.inr rfl) results313 aL A0 trivial rfl
theorem nzj(hZ:FxOk Z)(cs:List Cm)(hcs:cs.length<=1000)(cZ:∀c∈cs,ck c)(N:Nat)(la:Option Addr)(lc:Nat)(w:World)(hN:N<=w.heap.size)(aA:aj cW 73 N w la cs)(hC:∀c∈cs,dc N w c)(ia:Option Addr)(ic:Nat)(ta:Option Addr)(tc:Nat)(hp:rh Z cs N w ⟨ia,ic,ta,tc⟩)(G:Gv)(hG:aM N w G)(hg:Glb w):Calls prog 259 #[.agg (IT Z cs la lc ⟨ia,ic,ta,tc⟩),.agg (aY G)] w (λe w'=>∃ds:List Cd,(ds.map sL=IW Z cs G.g/\∀d∈ds,rj Z cs G.g d/\aM w'.heap.size w' d.x/\bU w.heap.size d.x)/\nv w sJ 143 232 ds id e w'):=by
 have gP:=hg.lt;have hpl:=nBg Z cs cs.length;have qJ:((bG Z cs cs.length).map (·.1)).length=(bG Z cs cs.length).length:=jg ..;have KA:((bG Z cs cs.length).map (·.2)).length=(bG Z cs cs.length).length:=jg ..;have FG:=hp.ids;have FH:=hp.at_;dsimp only at FG FH;refine nP (iu []) [] (vs:=[_,_]) func259 rfl ntmps259 rfl (Ap w) ?_;refine aU 2 ?_;intro b2 w2 bV bj dz cL cR;refine yX ?_;intro b3 w3 bQ aZ dK cP dt;refine aV 7 (.slice ta ((bG Z cs cs.length).map (·.2)).length tc) ?_;refine B 5 ?_;refine CJ.loop (α:=((Rw×List Cd)×ae)×Nat) (λJ=>[(2,ptr b2 0),(3,ptr b3 0),(4,J.1.1.1.val J.1.1.2.length),(11,.slice ta ((bG Z cs cs.length).map (·.2)).length tc),(12,ab (((bG Z cs cs.length).map (·.2)).length:Int)),(13,ab (J.2:Int))]) (λJ=>J.1.1.1.hp sJ 232 J.1.1.2++[]) (λJ=>[w3,w2,w]) (λJ=>iu J.1.2) (λJ=>J.2<=((bG Z cs cs.length).map (·.2)).length/\J.1.1.1.Fr (iu J.1.2) [w3,w2,w]/\J.1.1.1.Fit 143 J.1.1.2/\J.1.1.2.map sL=vx Z cs G.g J.2/\(∀d∈J.1.1.2,rj Z cs G.g d/\vz J.1.2 d.x)/\J.1.1.2.length<=J.2/\∀q∈J.1.2,w.heap.size<=q.1) (λJ=>((bG Z cs cs.length).map (·.2)).length-J.2) (((.nil,[]),[]),0) ⟨cd _,True.intro,rfl,rfl,by simp,aC _,by simp⟩ zR rfl rfl zP ?_;rintro⟨⟨⟨r,ds⟩,F⟩,k⟩ ⟨hk,aB,af,di,tP,PF,FI⟩
 dsimp only at hk aB af di tP PF FI ⊢;have bW:r.ge w3.heap.size:=Rw.ge_fz aB A0;refine av 6 ?_ ?_
 ·intro ai;refine B 5 ?_;obtain⟨q,hq⟩:=ng (bG Z cs cs.length) k aa;obtain⟨i,c,Sg,wD,hc,bw⟩:=nnn Z cs _ q (cF hq);have IS:((bG Z cs cs.length).map (·.2))[k]? =some ((i:Nat):Int):=by rw[alt,hq,VU,Sg]
  have Py:((bG Z cs cs.length).map (·.1))[k]? =some (dk (aE Z c)):=by rw[alt,hq,VU,bw]
  have hcm:=cF hc;obtain⟨ba,oa,ep,ta,cz,rfl,c0,FJ,aaz⟩:=FH.get aa;obtain⟨bq,oq,Q2,tq,Q3,rfl,hbq,pU,pV⟩:=FG.get aa;obtain⟨bl,ol,eu,tl,en,rfl,kx,c4,ea⟩:=aA.get aa;refine B 3 ?_;refine rx (ad (v:=ab (i:Int)) isAgg3 rfl A2 FJ zL zD zkd) ?_;refine aV 7 (.slice (some ⟨bl,ol,none⟩) cs.length lc) ?_;refine aV 2 (.agg (cW c)) ?_;refine bD 1 ?_;intro b7 ie lu;refine B 5 ?_;by_cases IX:gV c.par G.g.last=true
  ·refine aV 2 (.agg (dg c.par)) ?_;refine aV 1 (.agg (dg G.g.last)) ?_;refine rq aO (iV wZ zF nT rfl rfl rfl) (congrArg (λq=>Value.bool (!q)) IX) ?_;refine B 7 ?_;refine znh ?_;refine FK (γ:=Gv) (v:=λX=>.tuple #[.agg (aY X),ab (eH Z G.g c)]) (Φ:=λF X=>X.g=ra Z G.g c/\vz F X) call258 rfl rfl rfl (λW hS=>nAm hZ G c (cZ c hcm) N W aT (hG.us (hS.same A2 hN zO zS)) ((hC c hcm).us (hS.same A2 hN zO zS)) (hg.old hS A2 zO zS)) ?_;rintro Xn F2 ⟨oc,wF⟩ VT;obtain⟨e,he⟩:∃e,eH Z G.g c=e:=⟨_,rfl⟩;rw[he];refine bD 4 ?_;intro b8 lI r4;refine av 10 ?_ ?_
   ·intro ax;refine eS 15 14 [] (pb:=by exact zU 11 (k:=by exact dh (X.cv call312 rfl (λW hS _=>K6 G N W aT (hG.us (hS.same A2 hN zO zS)) c.author)) zT)) (sp:=[_,_,some (.agg (cW c)),_,some (.slice (some ⟨bq,oq,none⟩) ((bG Z cs cs.length).map (·.1)).length ic),_,_,some (.agg (dg (aE Z c))),some (.agg (aY G)),_,some (ab c.author),some (ab (pz G.g.ms c.author)),some (.agg (aY Xn)),some (.agg (fl (⟨(i:Int),c,aE Z c,pz G.g.ms c.author,Xn⟩:Cd))),_]) (h:=?_);intro _ _ hk;refine iW underlying347 sizeOf232 zeroValue232 rfl rfl rfl rfl rfl rfl rfl ?_;intro a6 KU KV;have ed:w3.heap.size<=a6:=KU.1;refine zE ?_;refine jf (r:=r) (xs:=ds) (zs:=[(⟨(i:Int),c,aE Z c,pz G.g.ms c.author,Xn⟩:Cd)]) (enc:=sJ) (m:=143) (H0:=[(a6,oC (fl (⟨(i:Int),c,aE Z c,pz G.g.ms c.author,Xn⟩:Cd)) 232),(b8,oC (aY Xn) 86),(b7,oC (cW c) 100)]) (H1:=[]) IA Fv IQ rfl rfl rfl rfl (bN.one (z:=(⟨(i:Int),c,aE Z c,pz G.g.ms c.author,Xn⟩:Cd)) IQ nFl underlying347 (bL.own (i:=0) rfl)) af aB zP vn ?_;intro Lo BU BV FL yL;replace FL:=yb FL;refine B 8 ?_;refine vo ?_;refine lx ?_;refine ag (((Rw.row Lo BU BV,ds++[(⟨(i:Int),c,aE Z c,pz G.g.ms c.author,Xn⟩:Cd)]),F2++F),k+1) ⟨by dsimp only;omega,FL.elim (λh=>Rw.Fr_at aB h) (λh=>.inr h),yL,by dsimp only;rw[Lj hq Sg (nfq hc IX (by rw[he];assumption)),iM,di];rfl,λd hd=>(dQ.1 hd).elim (λh=>⟨(tP d h).1,(tP d h).2.mono (λp hp=>dQ.2 (.inr hp))⟩) (λh=>by rw[xB.1 h];exact⟨⟨Int.natCast_nonneg _,hc,rfl,rfl,oc.trans (if_pos (by rw[he];assumption)),by rw[he];assumption⟩,wF.mono (λp hp=>dQ.2 (.inl hp))⟩),by dsimp only;rw[eU,VV];omega,λq hq=>(dQ.1 hq).elim (λh=>(VT q h).not A2) (FI q)⟩
   intro ax;refine RU ?_;refine ag (((r,ds),F2++F),k+1) ⟨by dsimp only;omega,aB,af,by dsimp only;rw[FF hq Sg (n0p hc (by rw[he];assumption))];exact di,λd hd=>⟨(tP d hd).1,(tP d hd).2.mono (λp hp=>dQ.2 (.inr hp))⟩,by dsimp only;omega,λq hq=>(dQ.1 hq).elim (λh=>(VT q h).not A2) (FI q)⟩
  refine aV 2 (.agg (dg c.par)) ?_;refine aV 1 (.agg (dg G.g.last)) ?_;refine rq aK (iV wZ zF nT rfl rfl rfl) (congrArg (λq=>Value.bool (!q)) (Bool.eq_false_iff.2 IX)) ?_;refine B 11 ?_;refine lx ?_;refine ag (((r,ds),F),k+1) ⟨by dsimp only;omega,aB,af,by dsimp only;rw[FF hq Sg (Ll hc IX)];exact di,tP,by dsimp only;omega,FI⟩
 intro ai;refine B 6 ?_;have bz:k=(bG Z cs cs.length).length:=by omega
 rw[bz]at di;refine B 2 ?_;refine ny (α:=Nat) (v:=λb:Nat=>.func (.func 386) #[] #[ptr b 0]) (Φ:=λW b w1=>yK w1 b W.heap.size) call314 rfl rfl rfl (λW hS=>nKo W) ?_;intro Wk bk wk Ak Kr yJ;have ej:=Kr.size;refine ID (r:=r) (enc:=sJ) (m:=143) (t:=232) (xs:=ds) (ys:=iF rkI ds) (H0:=[]) (H1:=[]) (v:=λ_=>.tuple #[]) rfl call313 rfl rfl rfl (λhr W hS=>?_) (λb cap sp hr W hS h=>?_) ?_
 ·subst hr;have h0:ds=[]:=af;subst h0;exact(nfp bk W).mono λe w2 h=>⟨h.1,oJ (RH CO.rkI.swo []),h.2⟩
 ·subst hr;have kx:b<Wk.heap.size:=Ak.lt (b,_) A0;exact Sf aa af h bk (λw9 bx=>((yJ.keep (X:=λk=>k=b) ((hS.links wk A0).mono (λk _ hx=>by rcases hx with hx|hx;(exact hx.elim);simpa[Rw.hp]using hx)) (λk hk=>by omega)).keep bx (λk hk=>by omega)).at)
 intro r2 dE uz pT pr;have eX:=pT _ bW;refine B 9 ?_;refine bH (.inl rfl) results259 aL λW hS=>?_;have tA:(iF rkI ds).Perm ds:=VN CO.rkI.swo ds;refine⟨iF rkI ds,⟨Ln hZ di (λd hd=>(tP d hd).1),λd hd=>⟨(tP d (tA.mem_iff.1 hd)).1,(tP d (tA.mem_iff.1 hd)).2.lies hS.fzLies,(tP d (tA.mem_iff.1 hd)).2.new FI⟩⟩,r2,?_,?_,Rw.ge_mono eX aa,dE,?_⟩
 ·show Ending.returned (r.val ds.length)=Ending.returned (r2.val (iF rkI ds).length);rw[pr,RH CO.rkI.swo]
 ·exact(hS.links w A3).below (λk hk hx=>by rcases hx with hx|hx;(exact hx);simp only[fP,dG]at hx;have:=Rw.mem_ge eX hx;omega)
 cases r2 with
  |nil=>trivial
  |row b cap sp=>exact hS.own (b,_) qw
instance:Inhabited Cm:=⟨⟨0,0,λ_=>0,0,[],none,0,[],none,0,[],none,0,[],none,0,λ_=>0,0,0⟩⟩
def zCd:Cd:=default
def rk {α:Type} (cf:α->Cm) (l:List α) (d:α):Bool:=l.any λx=>decide ((cf x).author≠(cf d).author)&&(cf x).chs.any (lY (cf d).author)
def oX {α:Type} (cf:α->Cm) (b:Option α) (d:α):Option α:=match b with|none=>some d|some w=>if qZ (cf w).chs<qZ (cf d).chs then some d else some w
def Sh {α:Type} (cf:α->Cm) (s:List α×Option α) (d:α):List α×Option α:=if rk cf s.1 d=true then s else(s.1++[d],oX cf s.2 d)
def iH {α:Type} (cf:α->Cm) (l:List α) (k:Nat):List α×Option α:=(l.take k).foldl (Sh cf) ([],none)
theorem VW{α:Type}{cf:α->Cm}{l:List α}{d:α}(h:l[k]? =some d):iH cf l (k+1)=Sh cf (iH cf l k) d:=by simp_all[iH,nk]
theorem VX{α:Type}(cf:α->Cm)(l:List α):∀k,(∀x∈(iH cf l k).1,x∈l)/\∀x,(iH cf l k).2=some x->x∈l
 |0=>⟨λx hx=>by simp[iH]at hx,λx hx=>by simp[iH]at hx⟩
 |k+1=>by
  have ih:=VX cf l k;by_cases hk:k<l.length
  ·obtain⟨d,hd⟩:=ng l k hk;rw[VW hd]
   (simp[Sh,oX];grind)
  grind [iH,List.take_of_length_le]
theorem n7k{α:Type}(cf:α->Cm)(l:List α):∀k,(iH cf l k).1.length<=k
 |0=>by simp[iH]
 |k+1=>by
  have ih:=n7k cf l k;by_cases hk:k<l.length
  ·obtain⟨d,hd⟩:=ng l k hk;rw[VW hd]
   grind [Sh]
  grind [iH,List.take_of_length_le]
theorem any_map'{α β:Type}{f:α->β}{p:β->Bool}{q:α->Bool}:∀{l:List α},(∀x∈l,p (f x)=q x)->(l.map f).any p=l.any q
 | [],_=>rfl
 |x::l,h=>by grind
theorem nLq{α β:Type}{cf:α->Cm}{cg:β->Cm}(f:α->β){l:List α}(h:∀d∈l,cg (f d)=cf d):∀k,iH cg (l.map f) k=((iH cf l k).1.map f,(iH cf l k).2.map f)
 |0=>rfl
 |k+1=>by
  have ih:=nLq f h k;have Si:=VX cf l k;by_cases hk:k<l.length
  ·obtain⟨d,hd⟩:=ng l k hk;have hm:=cF hd;have J:(l.map f)[k]? =some (f d):=by rw[alt,hd];rfl
   rw[VW J,VW hd];have e1:rk cg ((iH cf l k).1.map f) (f d)=rk cf (iH cf l k).1 d:=by
    unfold rk;rw[h d hm];exact any_map' λx hx=>by grind
   have e2:oX cg ((iH cf l k).2.map f) (f d)=(oX cf (iH cf l k).2 d).map f:=by
    cases hw:(iH cf l k).2 with
    |none=>rfl
    |some w=>
     grind [oX]
   grind [Sh]
  grind [iH,List.take_of_length_le]
def iI (cs:List Cm) (i:Nat):Cm:=(cs[i]?).getD default
noncomputable def rS (Z:Fx) (cs:List Cm) (g:Gp):Option Nat:=(iH (iI cs) (IW Z cs g) (IW Z cs g).length).2
theorem akJ{ds:List Cd}(hm:ds.map sL=IW Z cs g)(hd:∀d∈ds,rj Z cs g d):rS Z cs g=(iH (·.c) ds ds.length).2.map sL:=by
 unfold rS;rw[<-hm,jg,nLq (cf:=(·.c)) sL (λd h=>by unfold iI;rw[(hd d h).at_];rfl)]
theorem aM.toG{G:Gh}(h:aM N w x)(hn:bU K x)(hS:St G L H W)(hw:w∈L)(hN:N<=w.heap.size)(ho:∀b,K<=b->b<N->¬G.X b/\cu H b):aM W.heap.size W x:=
 ⟨h.ms.toG hS hw hN (λb off e=>(hn.1 _ e).imp id (λh=>ho b h)),h.ns.toG hS hw hN (λb off e=>(hn.2 _ e).imp id (λh=>ho b h)),h.mn,h.nn⟩
theorem bU.mono{J:Nat}(h:bU K x)(hk:J<=K):bU J x:=⟨λq e=>(h.1 q e).imp id (dS hk),λq e=>(h.2 q e).imp id (dS hk)⟩
theorem VY{α:Type}{cf:α->Cm}{l:List α}{d:α}(h:l[k]? =some d)(hs:rk cf (iH cf l k).1 d=true):iH cf l (k+1)=iH cf l k:=by simp_all[VW,Sh]
theorem Az{α:Type}{cf:α->Cm}{l:List α}{d:α}(h:l[k]? =some d)(hs:rk cf (iH cf l k).1 d=false):iH cf l (k+1)=((iH cf l k).1++[d],oX cf (iH cf l k).2 d):=by simp_all[VW,Sh]
theorem n6o(hZ:FxOk Z)(cs:List Cm)(hcs:cs.length<=1000)(cZ:∀c∈cs,ck c)(N:Nat)(la:Option Addr)(lc:Nat)(w:World)(hN:N<=w.heap.size)(aA:aj cW 73 N w la cs)(hC:∀c∈cs,dc N w c)(ia:Option Addr)(ic:Nat)(ta:Option Addr)(tc:Nat)(hp:rh Z cs N w ⟨ia,ic,ta,tc⟩)(G:Gv)(hG:aM N w G)(hg:Glb w):Calls prog 211 #[.agg (IT Z cs la lc ⟨ia,ic,ta,tc⟩),.agg (aY G)] w (db w (λq:Cd×Bool=>.tuple #[.agg (fl q.1),.bool q.2]) (λq w'=>(q.2=true/\rS Z cs G.g=some (sL q.1)/\rj Z cs G.g q.1/\aM w'.heap.size w' q.1.x/\bU w.heap.size q.1.x)\/(q.2=false/\rS Z cs G.g=none))):=by
 have gP:=hg.lt;have hpl:=nBg Z cs cs.length;refine eN func211 ntmps211 ?_;refine aU 2 ?_;intro b2 w2 bV bj dz cL cR;refine yX ?_;intro b3 w3 bQ aZ dK cP dt;refine bD 1 ?_;intro b4 dL dP;refine B 11 ?_;refine z9g ?_;refine bX (.agg (aY G)) ?_;refine Lp (enc:=sJ) (m:=143) (t:=232) (v:=id) (Φ:=λW w9 ds=>ds.map sL=IW Z cs G.g/\∀d∈ds,rj Z cs G.g d/\aM w9.heap.size w9 d.x/\bU W.heap.size d.x) call259 rfl rfl rfl IQ (λW hS=>nzj hZ cs hcs cZ N la lc W aT (aA.us hS.sm) (λc hc=>(hC c hc).us hS.sm) ia ic ta tc (hp.up (aC _) hS.sm) G (hG.us hS.sm) (hg.old hS A2 zO zJ)) ?_;rintro W9 ds a9 c9 w9 jS uK ⟨di,tP⟩ oP cy;have tG:=uK.size;have eD:=(jS.links w3 A0).size;have PF:ds.length<=cs.length:=by
  have h1:=congrArg List.length di;rw[jg]at h1;unfold IW at h1;rw[List.length_mergeSort]at h1;unfold vx at h1;have h2:=RI (BT Z cs G.g) (((bG Z cs cs.length).take (bG Z cs cs.length).length).map λp=>p.2.toNat);rw[jg,oK]at h2;omega
 have c0:aj fl 143 w9.heap.size w9 a9 ds:=oP;have Sj:=(jS.lt (b4,_) A0);try dsimp only at Sj
 refine B 5 ?_;refine CJ.loop (α:=((Rw×Cd)×Bool)×Nat) (λJ=>[(2,ptr b2 0),(3,ptr b3 0),(4,ptr b4 0),(5,.bool J.1.2),(6,J.1.1.1.val (iH (λd:Cd=>d.c) ds J.2).1.length),(12,.slice a9 ds.length c9),(13,ab (ds.length:Int)),(14,ab (J.2:Int))]) (λJ=>[(b4,oC (fl J.1.1.2) 232)]++(J.1.1.1.hp sJ 232 (iH (λd:Cd=>d.c) ds J.2).1++[])) (λJ=>[w9,w3,w2,w]) (λJ=>Gh.no) (λJ=>J.2<=ds.length/\J.1.1.1.Fr Gh.no [w9,w3,w2,w]/\J.1.1.1.Fit 143 (iH (λd:Cd=>d.c) ds J.2).1/\((J.1.2=false/\(iH (λd:Cd=>d.c) ds J.2).2=none/\J.1.1.2=zCd)\/(J.1.2=true/\(iH (λd:Cd=>d.c) ds J.2).2=some J.1.1.2))) (λJ=>ds.length-J.2) (((.nil,zCd),false),0) ⟨cd _,True.intro,rfl,.inl ⟨rfl,rfl,rfl⟩⟩ zR rfl rfl zP ?_;rintro⟨⟨⟨r,xq⟩,bg⟩,k⟩ ⟨hk,aB,af,FM⟩;dsimp only at hk aB af FM ⊢;have bW:r.ge w9.heap.size:=Rw.ge_of aB A0;have Si:=VX (λd:Cd=>d.c) ds k;have ez:=n7k (λd:Cd=>d.c) ds k;refine av 6 ?_ ?_
 ·intro ai;refine B 5 ?_;obtain⟨b9,o9,eG,t9,et,rfl,ep,ej,ea⟩:=c0.get aa;obtain⟨d,hd⟩:=ng ds k aa;have IY:=cy _ rfl;try dsimp only at IY
  refine aV 2 (.agg (fl d)) ?_;refine bD 1 ?_;intro b8 lI r4;refine B 7 ?_;have c4:∀W,St Gh.no [w9,w3,w2,w] ([(b8,oC (fl d) 232),(b4,oC (fl xq) 232)]++(r.hp sJ 232 (iH (λd:Cd=>d.c) ds k).1++[])) W->r.At sJ 232 (iH (λd:Cd=>d.c) ds k).1 W:=λW hS=>by
   cases r with
   |nil=>trivial
   |row b cap sp=>exact hS.own (b,_) qw
  refine cl call260 rfl (λW hS=>by
   obtain⟨a5,c5,cO,cz⟩:=Rw.sl IQ af (c4 W hS) (aC W.heap.size);rw[cO];exact nyk (λx=>decide (x.c.author≠d.c.author)&&x.c.chs.any (lY d.c.author)) 261 [ptr b8 0] call261 (iH (λd:Cd=>d.c) ds k).1 aa W.heap.size a5 c5 W (aC _) cz (λj x hx W2 hB=>by
    have c6:=(Si.1 x (cF hx));have bI:x.c∈cs:=cF (tP x c6).1.at_;have de:=(cZ x.c bI).few.chs;have cx:=(hS.links w A3).size;exact Fz d x aa N b8 W2 (dS hN (dS cx hB.size)) (((hC x.c bI).chs.up (aC _) (hS.same A3 hN zO zS)).up (aC _) (λq hq=>hB.block q aa)) (by rw[hB.block b8 (hS.lt (b8,_) A0)];exact hS.own (b8,_) A0))) (v:=.bool (rk (λd:Cd=>d.c) (iH (λd:Cd=>d.c) ds k).1 d)) ?_
  refine B 5 ?_;have hx:=hd;refine av 4 ?_ ?_
  ·intro ax;refine KT ?_;refine PJ.again (((r,xq),bg),k+1) ⟨by dsimp only;omega,aB,by dsimp only;rw[VY hd ew];exact af,by dsimp only;rw[VY hd ew];exact FM⟩ zZ ⟨rfl,rfl,rfl,rfl,by rw[VY hd ew];rfl,rfl,rfl,rfl,trivial⟩ (by rw[VY hd ew];rfl) rfl zP
  intro ax;refine B 3 ?_;have cB:rk (λd:Cd=>d.c) (iH (λd:Cd=>d.c) ds k).1 d=false:=by assumption
  refine aV 2 (.agg (fl d)) ?_;refine iW underlying347 sizeOf232 zeroValue232 rfl rfl rfl rfl rfl rfl rfl ?_;refine yW ?_;intro Ki YZ Y0;refine jf (r:=r) (xs:=(iH (λd:Cd=>d.c) ds k).1) (zs:=[d]) (enc:=sJ) (m:=143) (H0:=[(Ki,oC (fl d) 232),(b8,oC (fl d) 232),(b4,oC (fl xq) 232)]) (H1:=[]) IA Fv IQ rfl rfl rfl rfl (bN.one (z:=d) IQ nFl underlying347 (bL.own (i:=0) rfl)) af aB zP vn ?_;intro xd sx sy pS lU;replace pS:=yb pS;refine B 4 ?_;have cI:=cF hd;have bu:d.c∈cs:=cF (tP d cI).1.at_;have eT:=(cZ d.c bu).few.chs;have jX:(Rw.row xd sx sy).ge w.heap.size:=by rcases pS with h|h;(have:=Rw.ge_at bW h;show w.heap.size<=xd;omega);(show w.heap.size<=xd;omega)
  have en:w.heap.size<=xd:=jX;refine CJ.dropAt (i:=0) rfl zI ?_;rcases FM with⟨rfl,aW,rfl⟩|⟨rfl,aW⟩
  ·refine eA 6 (k:=?_);refine aV 7 (.agg (fl d)) ?_;refine Sk ?_;refine PJ.again (((Rw.row xd sx sy,d),true),k+1) ⟨by dsimp only;omega,pS.elim (λh=>Rw.Fr_at aB h) (λh=>.inr h),zYBE,.inr ⟨rfl,by dsimp only;rw[Az hd cB];dsimp only;rw[aW];rfl⟩⟩ zZ ⟨rfl,rfl,rfl,rfl,by rw[Az hd cB];rfl,rfl,rfl,rfl,trivial⟩ (by rw[Az hd cB];rfl) rfl zP
  have jQ:=(Si.2 xq aW);have a8:xq.c∈cs:=cF (tP xq jQ).1.at_;have kx:=(cZ xq.c a8).few.chs;refine eA 6 (pb:=by exact zU 4 (k:=by exact dh (X.cv call263 rfl (λW hS _=>nMi d aa N W aT ((hC d.c bu).chs.up (aC _) (hS.same A3 hN zO zeb)))) zT)) (sp:=[_,_,_,some (.agg (fl d)),some (ab (qZ d.c.chs:Int)),some (.agg (fl xq))]) (k:=?_);refine cl call263 rfl (λW hS=>nMi xq aa N W aT ((hC xq.c a8).chs.up (aC _) (hS.same A3 hN zO zeb))) (v:=ab (qZ xq.c.chs:Int)) ?_;refine av 4 ?_ ?_
  ·intro bY;refine aV 1 (.agg (fl d)) ?_;refine Sk ?_;refine PJ.again (((Rw.row xd sx sy,d),true),k+1) ⟨by dsimp only;omega,pS.elim (λh=>Rw.Fr_at aB h) (λh=>.inr h),zYBE,.inr ⟨rfl,by dsimp only;rw[Az hd cB];dsimp only;rw[aW];exact if_pos zZ⟩⟩ zZ ⟨rfl,rfl,rfl,rfl,by rw[Az hd cB];rfl,rfl,rfl,rfl,trivial⟩ (by rw[Az hd cB];rfl) rfl zP
  intro bY;refine xY ?_;refine PJ.again (((Rw.row xd sx sy,xq),true),k+1) ⟨by dsimp only;omega,pS.elim (λh=>Rw.Fr_at aB h) (λh=>.inr h),zYBE,.inr ⟨rfl,by dsimp only;rw[Az hd cB];dsimp only;rw[aW];exact if_neg zZ⟩⟩ zZ ⟨rfl,rfl,rfl,rfl,by rw[Az hd cB];rfl,rfl,rfl,rfl,trivial⟩ (by rw[Az hd cB];rfl) rfl zP
 intro ai;refine aV 7 (.agg (fl xq)) ?_;refine B 6 ?_;have cQ:k=ds.length:=by omega
 rw[cQ]at FM;have bx:=akJ di (λd hd=>(tP d hd).1);refine bH (.inl rfl) results211 aL λW hS=>⟨(xq,bg),rfl,?_,?_⟩
 ·exact(hS.links w A3).below (λk hk hx=>by rcases hx with hx|hx;(exact hx);simp only[eI,gU,fP,dG,iM,jv,kS,dQ,ft,jc,or_false]at hx;rcases hx with hx|hx;(omega);(have:=Rw.mem_ge bW hx;omega))
 rcases FM with⟨h1,h2,_⟩|⟨h1,h2⟩
 ·exact .inr ⟨h1,by rw[bx,h2];rfl⟩
 have jQ:=(VX (λd:Cd=>d.c) ds ds.length).2 xq h2;have VZ:=tP xq jQ;exact .inl ⟨h1,by rw[bx,h2];rfl,VZ.1,VZ.2.1.toG VZ.2.2 hS A0 (aC _) (λb hb bV=>⟨λh=>h,zD⟩),VZ.2.2.mono aa⟩
structure Fo where
 id:Int
 first:Nat->Int
def sM (f:Fo):Array Value:=(ab f.id::th f.first []).toArray
def g0 (f:Fo):Gp:=⟨f.id,0,λ_=>0,[],[]⟩
def Lq (f:Fo):Gv:=⟨g0 f,none,0,none,0⟩
theorem nSj(f:Fo)(N:Nat)(w:World):aM N w (Lq f):=⟨.inl rfl,.inl rfl,by simp[Lq,g0],by simp[Lq,g0]⟩
theorem n8r(l:List Dk)(k:Dk):oW l k= -1\/∃j:Nat,oW l k=(j:Int)/\l[j]? =some k:=by
 (intros;grind [oW,decide,List.findIdx?_eq_some_iff_getElem])
noncomputable def V3 (Z:Fx) (cs:List Cm) (f:Fo):Option Nat:=if oW ((bG Z cs cs.length).map (·.1)) (dk f.first)<0 then none else((bG Z cs cs.length)[(oW ((bG Z cs cs.length).map (·.1)) (dk f.first)).toNat]?).map λp=>p.2.toNat
noncomputable def qg (Z:Fx) (cs:List Cm) (f:Fo):Option Nat:=(V3 Z cs f).bind λi=>if eH Z (g0 f) (iI cs i)=0 then some i else none
structure yM (Z:Fx) (cs:List Cm) (g:Gp) (d:Cd):Prop where
 nn:0<=d.at_
 at_:cs[sL d]? =some d.c
 x:d.x.g=qy Z g d.c
 ok:eH Z g d.c=0
theorem rj.le(h:rj Z cs g d):yM Z cs g d:=⟨h.nn,h.at_,h.x,h.ok⟩
def yN (b:Nat) (x:Gv):Prop:=(∀q,x.ma=some q->x.g.ms=[]\/q.block≠b)/\(∀q,x.na=some q->x.g.ns=[]\/q.block≠b)
theorem bU.off(h:(∀q,x.ma=some q->K<=q.block)/\(∀q,x.na=some q->K<=q.block))(hb:b<K):yN b x:=⟨λq e=>.inr cM,λq e=>.inr cM⟩
theorem aj.ltq{α:Type}{enc:α->Array Value}{xs:List α}(h:aj enc n N w a xs):∀q,a=some q->xs=[]\/q.block<N:=by
 grind [aj]
theorem aM.off(h:aM N w x)(hb:N<=b):yN b x:=⟨λq e=>(h.ms.ltq q e).imp id (λh=>by omega),λq e=>(h.ns.ltq q e).imp id (λh=>by omega)⟩
theorem aM.toO(h:aM N w x)(hS:St Gh.no L H W)(hw:w∈L)(hN:N<=w.heap.size)(ho:∀p∈H,yN p.1 x):aM W.heap.size W x:=by
 have key:∀b,(∀p∈H,p.1≠b)->cu H b:=λb hb=>cu.of_mem (λhm=>by grind);refine⟨h.ms.toG hS hw hN (λb off e=>?_),h.ns.toG hS hw hN (λb off e=>?_),h.mn,h.nn⟩
 ·by_cases h0:x.g.ms=[]
  ·grind
  exact .inr (λ_=>⟨λh=>h,key b (λp hp e2=>((ho p hp).1 _ e).resolve_left h0 e2.symm)⟩)
 by_cases h0:x.g.ns=[]
 ·grind
 exact .inr (λ_=>⟨λh=>h,key b (λp hp e2=>((ho p hp).2 _ e).resolve_left h0 e2.symm)⟩)
theorem ah.sub{L':List World}(h:ah L b)(hs:∀w∈L',w∈L):ah L' b:=ah.of_mem λw hw=>h.mem w (hs w hw)
theorem nmr(hZ:FxOk Z)(cs:List Cm)(hcs:cs.length<=1000)(cZ:∀c∈cs,ck c)(N:Nat)(la:Option Addr)(lc:Nat)(w:World)(hN:N<=w.heap.size)(aA:aj cW 73 N w la cs)(hC:∀c∈cs,dc N w c)(ia:Option Addr)(ic:Nat)(ta:Option Addr)(tc:Nat)(hp:rh Z cs N w ⟨ia,ic,ta,tc⟩)(fo:Fo)(hg:Glb w):Calls prog 210 #[.agg (IT Z cs la lc ⟨ia,ic,ta,tc⟩),.agg (sM fo)] w (db w (λq:Cd×Bool=>.tuple #[.agg (fl q.1),.bool q.2]) (λq w'=>(q.2=true/\qg Z cs fo=some (sL q.1)/\yM Z cs (g0 fo) q.1/\aM w'.heap.size w' q.1.x/\bU w.heap.size q.1.x)\/(q.2=false/\qg Z cs fo=none))):=by
 have gP:=hg.lt;have hpl:=nBg Z cs cs.length;have qJ:((bG Z cs cs.length).map (·.1)).length=(bG Z cs cs.length).length:=jg ..;have KA:((bG Z cs cs.length).map (·.2)).length=(bG Z cs cs.length).length:=jg ..;have FG:=hp.ids;have FH:=hp.at_;dsimp only at FG FH;obtain⟨k,Sl⟩:∃k,oW ((bG Z cs cs.length).map (·.1)) (dk fo.first)=k:=⟨_,rfl⟩;refine eN func210 ntmps210 ?_;refine aU 2 ?_;intro b2 w2 bV bj dz cL cR;refine yX ?_;intro b3 w3 bQ aZ dK cP dt;refine bD 1 ?_;intro b4 dL dP;refine aV 6 (.slice ia ((bG Z cs cs.length).map (·.1)).length ic) ?_;refine aV 1 (.agg (dg fo.first)) ?_;refine cl call257 rfl (λW hS=>by rw[<-Sl];exact Fy ((bG Z cs cs.length).map (·.1)) aa N ia ic W aT (FG.up (aC _) hS.sm) fo.first) (v:=ab k) ?_;refine B 5 ?_;rcases n8r ((bG Z cs cs.length).map (·.1)) (dk fo.first)with aq|⟨j,aq,vZ⟩
 ·have hk:k= -1:=by rw[<-Sl];exact aq
  refine B 2 ?_;refine NF ?_;refine bX (.agg (fl zCd)) ?_;refine B 6 ?_;refine bH (.inl rfl) results210 aL λW hS=>⟨(zCd,false),rfl,hS.base A2 zJ,.inr ⟨rfl,?_⟩⟩;show qg Z cs fo=none;unfold qg V3;rw[aq,if_pos aa];rfl
 have hk:k=(j:Int):=by rw[<-Sl];exact aq
 refine B 2 ?_;refine pN ?_;obtain⟨q,hq⟩:=ng (bG Z cs cs.length) j (by have:=aG vZ;omega);obtain⟨i,c,Sg,wD,hc,cy⟩:=nnn Z cs _ q (cF hq);have IS:((bG Z cs cs.length).map (·.2))[j]? =some ((i:Nat):Int):=by rw[alt,hq,VU,Sg]
 have UL:=aG IS;have hcm:=cF hc;obtain⟨e,he⟩:∃e,eH Z (g0 fo) c=e:=⟨_,rfl⟩;subst hk;obtain⟨ba,oa,c5,ta,cz,rfl,cI,FJ,aaz⟩:=FH.get aa;obtain⟨bl,ol,dd,tl,c6,rfl,kx,cO,c4⟩:=aA.get aa;have hk:oW ((bG Z cs cs.length).map (·.1)) (dk fo.first)=(j:Int):=aq;refine tS 18 [12,13,14,15,16,17] [[],[0],[0,1],[0,1],[],[0,1,2,4]] (λcv L' H'=>let dA:ae:=[(b4,oC (fl zCd) 232)];∃(J:Gv) (FN:World) (b7:Nat),cv=[some (.tuple #[.agg (aY J),ab e]),some (.tuple #[.agg (aY J),ab e]),some (.agg (aY J)),some (ab e),some (ptr b7 0),some (.tuple #[])]/\L'=[FN,w3,w2,w]/\H'=(b7,oC (aY J) 86)::dA/\J.g=ra Z (g0 fo) c/\aM FN.heap.size FN J/\yN b4 J/\bU w.heap.size J/\w3.heap.size<=b7/\yN b7 J) (pb:=by exact zU 9 (k:=zY9)) (sp:=[_,some (ab fo.id),some (.agg (aY (Lq fo))),_,some (.slice (some ⟨bl,ol,none⟩) cs.length lc),_,some (.slice (some ⟨ba,oa,none⟩) ((bG Z cs cs.length).map (·.2)).length tc),_,_,some (ab (i:Int)),_,some (.agg (cW c)),_,_,_,none,_,_]) (t:=?_) (k:=?_)
 ·repeat' first|exact tZ|(refine tU rfl ?_)|(refine tR rfl ?_ ?_)|(refine tN jI ?_)|(exact tE jI vA ⟨J,FN,b7,rfl,rfl,rfl,oc,wF,Ow,Lr,ie,Ox⟩)|(intro _ _ hk;(first|(refine B 1 ?_;refine OJ.done (hk _ _ _ ?_))|(have:=gK 5 hk;refine B 1 ?_;refine OJ.done (hk (.tuple #[]) _ _ ?_))|(have:=gK 4 hk;refine B 1 ?_;intro b7 ha ho;have Ox:yN b7 J:=wF.off (by have:=ha.not (w:=FN) A0;omega);have ie:w3.heap.size<=b7:=(ha.mem w3 zP);refine OJ.done (hk _ _ _ ?_))|(refine ny (α:=Gv) (v:=λJ=>.tuple #[.agg (aY J),ab e]) (Φ:=λW J w1=>J.g=ra Z (g0 fo) c/\aM w1.heap.size w1 J/\(∀q,J.ma=some q->W.heap.size<=q.block)/\(∀q,J.na=some q->W.heap.size<=q.block)) call258 rfl rfl rfl (λW hS=>zYr) ?_;rintro W9 J FN jS uK ⟨oc,wF,sN⟩;(try dsimp only at oc wF sN);have mP:=jS.lt (b4,_) A1;(try dsimp only at mP);have FO:=jS.lt (b7,_) A0;(try dsimp only at FO);have rl:=(jS.links w A2).size;have Ow:=bU.off sN mP;have Lr:bU w.heap.size J:=⟨λq e=>.inr (dS rl (sN.1 q e)),λq e=>.inr (dS rl (sN.2 q e))⟩;have Ox:=bU.off sN FO;refine OJ.done (hk _ _ _ ?_))|(refine ny (α:=Gv) (v:=λJ=>.tuple #[.agg (aY J),ab e]) (Φ:=λW J w1=>J.g=ra Z (g0 fo) c/\aM w1.heap.size w1 J/\(∀q,J.ma=some q->W.heap.size<=q.block)/\(∀q,J.na=some q->W.heap.size<=q.block)) call258 rfl rfl rfl (λW hS=>zYr) ?_;rintro W9 J FN jS uK ⟨oc,wF,sN⟩;(try dsimp only at oc wF sN);have mP:=jS.lt (b4,_) A0;(try dsimp only at mP);have rl:=(jS.links w A2).size;have Ow:=bU.off sN mP;have Lr:bU w.heap.size J:=⟨λq e=>.inr (dS rl (sN.1 q e)),λq e=>.inr (dS rl (sN.2 q e))⟩;refine OJ.done (hk _ _ _ ?_))|(have:=gK 4 hk;refine B 1 ?_;intro b7 ha ho;have ie:w3.heap.size<=b7:=(ha.mem w3 zP);refine OJ.done (hk _ _ _ ?_))))
 rintro _ _ _ ⟨J,FN,b7,rfl,rfl,rfl,oc,wF,Ow,Lr,ie,Ox⟩;refine B 4 ?_;refine tS 21 [20] [[]] (λcv L' H'=>cv=[some (.tuple #[])]/\L'=[FN,w3,w2,w]/\H'=[(b7,oC (aY J) 86),(b4,oC (fl (⟨(i:Int),c,fo.first,0,J⟩:Cd)) 232)]) (L0:=[w3,w2,w]) (H0:=[(b7,oC (aY J) 86)]) (pb:=by exact zU 4 (k:=by exact qv (RV.re (ad (v:=ab (i:Int)) isAgg3 rfl A2 FJ zL zcc zkd) rfl) (zU 6 (k:=zY9)))) (sp:=[_,some (.slice (some ⟨ba,oa,none⟩) ((bG Z cs cs.length).map (·.2)).length tc),_,_,some (ab (i:Int)),_,some (.slice (some ⟨bl,ol,none⟩) cs.length lc),_,some (.slice (some ⟨ba,oa,none⟩) ((bG Z cs cs.length).map (·.2)).length tc),_,_,some (ab (i:Int)),_,some (.agg (cW c)),_,some (.agg (dg fo.first)),some (.agg (aY J)),some (.agg (fl (⟨(i:Int),c,fo.first,0,J⟩:Cd))),_,_,_]) (t:=?_) (k:=?_)
 ·repeat' first|exact tZ|(refine tU rfl ?_)|(refine tR rfl ?_ ?_)|(refine tN jI ?_)|(exact tE jI vA ⟨rfl,rfl,rfl⟩)|(intro _ _ hk;(first|(refine B 1 ?_;refine OJ.done (hk (.tuple #[]) _ _ ?_))))
 rintro _ _ _ ⟨rfl,rfl,rfl⟩;refine B 4 ?_;have hfo:V3 Z cs fo=some i:=by unfold V3;rw[hk,if_neg aa,QS,hq,VU,Sg,QS]
 have Sm:iI cs i=c:=by unfold iI;rw[hc];rfl
 refine bH (.inl rfl) results210 aL λW hS=>⟨((⟨(i:Int),c,fo.first,0,J⟩:Cd),decide (e=0)),rfl,hS.base A3 zJ,?_⟩;by_cases oY:e=0
 ·refine .inl ⟨decide_eq_true oY,by unfold qg;rw[hfo,Option.bind_some,Sm,he,if_pos oY];rfl,⟨Int.natCast_nonneg _,hc,oc.trans (if_pos (by rw[he];exact oY)),by rw[<-oY];exact he⟩,wF.toO hS A0 (aC _) (λp hp=>?_),Lr⟩;exact zBk
 exact .inr ⟨decide_eq_false oY,by unfold qg;rw[hfo,Option.bind_some,Sm,he,if_neg oY]⟩
def xr (cs:List Cm) (e:Int):Nat:=(cs.filter λc=>decide (e<c.epoch)).length
theorem Sn(cs:List Cm)(e:Int):xr cs e<=cs.length:=RI _ _
theorem nfo(e:Int):∀cs:List Cm,xr cs (e+1)<=xr cs e
 | []=>aC _
 |c::cs=>by
  have ih:=nfo e cs
  grind [xr]
theorem nIh{e:Int}{c:Cm}(he:c.epoch=e+1):∀{cs:List Cm},c∈cs->xr cs (e+1)<xr cs e
 | [],h=>by cases h
 |b::cs,h=>by
  rcases ft.1 h with rfl|h
  ·have ih:=nfo e cs
   grind [xr]
  have ih:=nIh he h
  grind [xr]
theorem nen(h:c∈cs):1+xr cs c.epoch<=cs.length:=by
 have h1:=nIh (e:=c.epoch-1) (c:=c) aa h
 grind [Sn]
theorem nqs(h:eH Z g c=0):c.epoch=g.epoch+1:=by grind [eH,iw]
def Ls (Z:Fx) (cs:List Cm):Gp->List (Nat×Gp)->Prop
 |g,[]=>rS Z cs g=none
 |g,p::l=>rS Z cs g=some p.1/\p.2=qy Z g (iI cs p.1)/\Ls Z cs p.2 l
def pA (Z:Fx) (cs:List Cm) (fo:Fo):List (Nat×Gp)->Prop
 | []=>qg Z cs fo=none
 |p::l=>qg Z cs fo=some p.1/\p.2=qy Z (g0 fo) (iI cs p.1)/\Ls Z cs p.2 l
theorem Ls.uniq{Z:Fx}{cs:List Cm}:∀{l l':List (Nat×Gp)} {g:Gp},Ls Z cs g l->Ls Z cs g l'->l=l'
 | [],[],_,_,_=>rfl
 | [],p::l,_,h,J=>by have:=h.symm.trans J.1;cases this
 |p::l,[],_,h,J=>by have:=J.symm.trans h.1;cases this
 |p::l,q::l',g,h,J=>by
  have e1:p.1=q.1:=Option.some.inj (h.1.symm.trans J.1);have e2:p.2=q.2:=by rw[h.2.1,J.2.1,e1]
  have e3:=Ls.uniq h.2.2 (e2▸J.2.2);rw[show p=q from Prod.ext e1 e2,e3]
theorem pA.uniq{fo:Fo}:∀{l J:List (Nat×Gp)},pA Z cs fo l->pA Z cs fo J->l=J
 | [],[],_,_=>rfl
 | [],p::l,h,h'=>by grind [pA]
 |p::l,[],h,h'=>by grind [pA]
 |p::l,q::J,h,h'=>by
  grind [Ls.uniq,pA]
def BW (d:Cd):Nat×Gp:=(sL d,d.x.g)
def eP (Y:aJ) (x:Gv):Prop:=(∀q,x.ma=some q->x.g.ms=[]\/¬Y q.block)/\(∀q,x.na=some q->x.g.ns=[]\/¬Y q.block)
theorem bU.out{Y:aJ}(h:bU K x)(hy:∀k,Y k->k<K):eP Y x:=⟨λq e=>(h.1 q e).imp id (λh h2=>by grind),λq e=>(h.2 q e).imp id (λh h2=>by grind)⟩
theorem bU.offb(h:bU K x)(hb:b<K):yN b x:=⟨λq e=>(h.1 q e).imp id (λh=>by omega),λq e=>(h.2 q e).imp id (λh=>by omega)⟩
theorem eP.up{Y J:aJ}(h:eP Y x)(ha:aM N w x)(hy:∀k,J k->Y k\/N<=k):eP J x:=
 ⟨λq e=>by
  rcases h.1 q e with h1|h1
  ·grind
  rcases ha.ms.ltq q e with h2|h2;all_goals grind,
  λq e=>by
   rcases h.2 q e with h1|h1
   ·grind
   rcases ha.ns.ltq q e with h2|h2;all_goals grind⟩
theorem aM.toZ{G:Gh}(h:aM N w x)(hS:St G L H W)(hw:w∈L)(hN:N<=w.heap.size)(hx:eP G.X x)(ho:∀p∈H,yN p.1 x):aM W.heap.size W x:=by
 have key:∀b,(∀p∈H,p.1≠b)->cu H b:=λb hb=>cu.of_mem (λhm=>by grind);refine⟨h.ms.toG hS hw hN (λb off e=>?_),h.ns.toG hS hw hN (λb off e=>?_),h.mn,h.nn⟩
 ·by_cases h0:x.g.ms=[]
  ·grind
  exact .inr (λ_=>⟨(hx.1 _ e).resolve_left h0,key b (λp hp e2=>((ho p hp).1 _ e).resolve_left h0 e2.symm)⟩)
 by_cases h0:x.g.ns=[]
 ·grind
 exact .inr (λ_=>⟨(hx.2 _ e).resolve_left h0,key b (λp hp e2=>((ho p hp).2 _ e).resolve_left h0 e2.symm)⟩)
structure Lt (Z:Fx) (cs:List Cm) (fo:Fo) (M:aJ) (pre:List Cd) (d:Cd) (V:aJ) (wk:World) (b4:Nat):Prop where
 next:∀l,Ls Z cs d.x.g l->pA Z cs fo (pre.map BW++BW d::l)
 lies:aM wk.heap.size wk d.x
 out:eP (λk=>M k\/V k) d.x
 off:yN b4 d.x
 mu:pre.length+1+xr cs d.x.g.epoch<=cs.length
theorem yM.nx(h:yM Z cs g d):d.x.g=qy Z g (iI cs (sL d)):=by rw[h.x];unfold iI;rw[h.at_];rfl
theorem Lt.first{fo:Fo}{M:aJ}{J:World}{b4:Nat}(h:qg Z cs fo=some (sL d))(hd:yM Z cs (g0 fo) d)(ha:aM J.heap.size J d.x)(hn:bU K d.x)(hM:∀k,M k->k<K)(hb:J.heap.size<=b4):Lt Z cs fo M [] d (λ_=>False) J b4 where
 next:=λl hl=>⟨h,hd.nx,hl⟩
 lies:=ha
 out:=hn.out (λk hk=>hk.elim (hM k) (λh=>h.elim))
 off:=ha.off hb
 mu:=by
  have h1:=nen (cF hd.at_);rw[hd.x];grind [qy]
theorem Lt.step{fo:Fo}{M V V2:aJ}{pre:List Cd}{d2:Cd}{wk J:World}{b4 b5:Nat}(hc:Lt Z cs fo M pre d V wk b4)(h:rS Z cs d.x.g=some (sL d2))(hd:yM Z cs d.x.g d2)(ha:aM J.heap.size J d2.x)(hn:bU K d2.x)(hM:∀k,M k->k<K)(hV:∀k,V2 k->k<K)(hb:b5<K):Lt Z cs fo M (pre++[d]) d2 V2 J b5 where
 next:=λl hl=>by
  have h1:=hc.next (BW d2::l) ⟨h,hd.nx,hl⟩
  grind
 lies:=ha
 out:=hn.out (λk hk=>hk.elim (hM k) (hV k))
 off:=hn.offb hb
 mu:=by
  have h1:=hc.mu;have h2:=nqs hd.ok;have h3:=nIh h2 (cF hd.at_);rw[hd.x];grind [qy]
theorem Lt.stop{fo:Fo}{M V:aJ}{pre:List Cd}{wk:World}{b4:Nat}(hc:Lt Z cs fo M pre d V wk b4)(h:rS Z cs d.x.g=none):pA Z cs fo ((pre++[d]).map BW):=by
 rw[iM];exact hc.next [] h
def FP (NQ NR NX:Nat):aJ:=λk=>k<NX/\(k<NQ\/NR<=k)
structure Oy (Z:Fx) (cs:List Cm) (la ia ta:Option Addr) (ic tc NQ NR NX:Nat) (W:World):Prop where
 q:NQ<=NX
 x:NX<=W.heap.size
 n3:4<=NQ
 sl:aj cW 73 NQ W la cs
 C:∀c∈cs,dc NQ W c
 p:rh Z cs NX W ⟨ia,ic,ta,tc⟩
 pi:∀q,ia=some q->NR<=q.block
 pt:∀q,ta=some q->NR<=q.block
 g:Glb W
theorem Oy.args{la ia ta:Option Addr}{ic tc J NR NX:Nat}{W':World}(h:Oy Z cs la ia ta ic tc J NR NX W)(hs:W.heap.size<=W'.heap.size)(same:∀k,FP J NR NX k->W'.heap[k]? =W.heap[k]?):aj cW 73 W'.heap.size W' la cs/\(∀c∈cs,dc W'.heap.size W' c)/\rh Z cs W'.heap.size W' ⟨ia,ic,ta,tc⟩/\Glb W':=by
 have hq:=h.q;have hx:=h.x;have h3:=h.n3
 have s2:∀k,k<J->W'.heap[k]? =W.heap[k]? :=λk hk=>same k ⟨by omega,.inl hk⟩;refine⟨h.sl.up aa s2,λc hc=>(h.C c hc).up aa s2,⟨h.p.ids.blk λb off e hb=>⟨by omega,same b ⟨hb,.inr (h.pi _ e)⟩⟩,h.p.at_.blk λb off e hb=>⟨by omega,same b ⟨hb,.inr (h.pt _ e)⟩⟩⟩,?_⟩;obtain⟨⟨t,fr,h0⟩,t2,zq,h2⟩:=h.g
 (constructor<;>grind [trans])
theorem Oy.same{la ia ta:Option Addr}{ic tc NQ NR J:Nat}{W':World}{M V:aJ}{I:World->Prop}{hM:∀k,M k->k<W.heap.size/\¬(λ_=>False) k/\¬FP NQ NR J k}{hI:fG (λk=>(k<W.heap.size/\¬(λ_=>False) k)\/V k) I}(h:Oy Z cs la ia ta ic tc NQ NR J W)(hS:St (dI hM V hI) L H W')(hw:W∈L)(hV:∀k,V k->W.heap.size<=k)(ho:Over W.heap.size H):∀k,FP NQ NR J k->W'.heap[k]? =W.heap[k]? :=λk hk=>by
 have hx:=h.x;have PH:=hk.1
 refine(hS.links W hw).block k aa ?_;rintro((h1|h1)|h1)
 ·grind
 ·grind
 obtain⟨p,hp,rfl⟩:=dO.1 h1;have:=ho.mem p hp;omega
theorem nAs{C:Cx}{c:Code}{Q:bA}{E:Env}{D:List Deferred}{G:Gh}{L':List World}{o:Obj}(hi:H[i]? =some (b,o))(hb:ah L' b)(hs:∀w∈L',w∈L)(k:∀W,St G L H W->CJ C c Q E D G (W::L') (H.eraseIdx i)):CJ C c Q E D G L H:=
 λa W hN hD hF hS=>k W hS a W hN hD hF ((hS.lessL hs).dropAt hi hb).snap
theorem nes{α β:Type}{J:α->List Value}{EN:β->List Value}{A A':ae}(hA:A'.map (·.1)=A.map (·.1)){r1 r2:Rw}{b1 c1 t1 b2 c2 t2:Nat}{a8 RF:List Value}{a6 aR:List α}{aD aq:List β}(tr:r1.isAt b1\/n<=b1)(vM:r2.isAt b2\/n<=b2):∀p∈(A'++((Rw.row b1 c1 a8).hp J t1 aR++((Rw.row b2 c2 RF).hp EN t2 aq++[])):ae),p.1∈(A++(r1.hp J t1 a6++(r2.hp EN t2 aD++[])):ae).map (·.1)\/n<=p.1:=by
 grind [Rw.hp,Rw.mem_at]
theorem aaK{C:Cx}{fn:Func}{R:Ending->World->Prop}{E:Env}{G:Gh}{Dk t4 t5 T4 T5 b4 b5 bu aR:Nat}{J aq:Array Value}{a8 aD:Nat×Nat}{v4 v5:Value}{e:Exit}(he:e= .ret\/e= .normal)(hr:fn.results=#[.cell t4 T4,.cell t5 T5])(U8:fp C.P T4 false)(uA:fp C.P T5 false)(bw:look E t4=some (ptr b4 0))(a6:look E t5=some (ptr b5 0))(hm:(Dk,.deferred (some []))∈H)(gI:(b4,.cells J bu a8)∈H)(gQ:(b5,.cells aq aR aD)∈H)(n4:b4≠Dk)(n5:b5≠Dk)(bg:J[0]? =some v4)(KW:aq[0]? =some v5)(h:∀W H',St G L H' W->H'.map (·.1)=H.map (·.1)->(∀p∈H,p.1≠Dk->p∈H')->R (.returned (.tuple #[v4,v5])) W):PJ C (bodyPostM (FW none) 0 C.P fn R) e E [jo Dk] G L H:=
 Bu he hm λa W H' hF hS cB di=>by
  obtain⟨i,hi⟩:=iB.1 (cB _ gI n4);obtain⟨j,hj⟩:=iB.1 (cB _ gQ n5);exact⟨_,(RS.w (C:=C) hi U8 bw bg (RS.w (C:=C) hj uA a6 KW RS.n)).res hr hF hS,h W H' hS di cB⟩
theorem Oy.mk2{la ia ta:Option Addr}{ic tc J:Nat}{wp wn W2:World}(hN:N<=w.heap.size)(aA:aj cW 73 N w la cs)(hC:∀c∈cs,dc N w c)(hg:Glb w)(hp:rh Z cs wp.heap.size wp ⟨ia,ic,ta,tc⟩)(hi:∀q,ia=some q->J<=q.block)(ht:∀q,ta=some q->J<=q.block)(hS:St Gh.no L H W)(hw:w∈L)(aq:wp∈L)(IZ:wn∈L)(hB:Below W.heap.size W W2)(h1:w.heap.size<=wn.heap.size)(h2:wp.heap.size<=wn.heap.size)(ho:∀p∈H,w.heap.size<=p.1/\p.1<J):Oy Z cs la ia ta ic tc w.heap.size J wn.heap.size W2:=by
 have l3:=(hS.links wn IZ).size;have s1:∀k,k<w.heap.size->W2.heap[k]? =w.heap[k]? :=λk hk=>(hB.block k aa).trans ((hS.links w hw).block k hk (λhx=>hx.elim zL (λh=>by grind)));have s2:∀k,k<wp.heap.size->J<=k->W2.heap[k]? =wp.heap[k]? :=λk hk BX=>(hB.block k aa).trans ((hS.links wp aq).block k hk (λhx=>hx.elim zL (λh=>by grind)));refine⟨h1,dS l3 hB.size,hg.lt,aA.up hN (λk hk=>s1 k aa),λc hc=>(hC c hc).up hN (λk hk=>s1 k aa),⟨hp.ids.blk λb off e hb=>⟨by omega,s2 b hb (hi _ e)⟩,hp.at_.blk λb off e hb=>⟨by omega,s2 b hb (ht _ e)⟩⟩,hi,ht,?_⟩;have h3:=hg.lt;obtain⟨⟨t,fr,h0⟩,t2,zq,h2⟩:=hg
 (constructor<;>grind [trans])
theorem ncr(Z:Fx)(cs:List Cm)(la:Option Addr)(lc:Nat)(ia:Option Addr)(ic:Nat)(ta:Option Addr)(tc:Nat)(fo:Fo)(w:World):Calls prog 146 #[.agg (IT Z cs la lc ⟨ia,ic,ta,tc⟩),.agg (sM fo)] w (db w (λq:Nat×Nat=>.func (.func 209) #[] #[ptr q.1 0,ptr q.2 0]) (λq w1=>w.heap.size<=q.1/\w.heap.size<=q.2/\w1.heap[q.1]? =some (oC (IT Z cs la lc ⟨ia,ic,ta,tc⟩) 228)/\w1.heap[q.2]? =some (oC (sM fo) 152))):=by
 refine eN func146 ntmps146 ?_;refine aU 2 ?_;intro b2 w2 bV bj dz cL cR;refine yX ?_;intro b3 w3 bQ aZ J cP dt;refine B 10 ?_;refine pe (b2,b3) results146 rfl A2 rfl ?_;exact λW hS=>⟨by have:=cL.1;omega,by have:=cP.2.1;omega,hS.old A1 bV bj trivial,hS.old A0 bQ aZ trivial⟩
end Px
