/- Contracts of functions of the program. No condition beyond those stated. -/
import Derived.Test.YtpgobjebhigaoaaGreatDoorKe
import Derived.Test.YtpgobjebhigaoaaGreatDoorProg
import Derived.Shelf.SlSortCmp.WholeK
import Derived.Deep.RegionWith
import Derived.Handy
import Derived.Lib.Bytealg
import Derived.Laws.Externs
import Derived.Test.YtpgobjebhigaoaaGreatDoorLa
set_option linter.unusedSimpArgs false
set_option linter.unusedVariables false
set_option linter.unusedSectionVars false
set_option linter.unnecessarySimpa false
set_option maxRecDepth 20000
set_option maxHeartbeats 8000000
namespace Px
open Go Go.RowKit Go.Proofs Go.Proofs.Tryz
theorem Jo{ns:List Nd}(h:Ao ns):∀(i:Nat) (x:Nd),ns[i]? =some x->(i:Int)+1<=x.at_
 |0,x,hx=>by have:=(h 0 x hx).1;omega
 |i+1,x,hx=>by
  obtain⟨y,hy⟩:=nk ns i (by have:=nE hx;omega);have h1:=Jo h i y hy;have h2:=(h (i+1) x hx).2.2.1 y zM (by simpa using hy);omega
variable {Z:Fx} {G:Gh} {g:Gp} {F H:ae} {au d:Int} {ns:List Nd} {sp:List Value} {L:List World} {N N' b i j k:Nat} {a:Option Addr} {r:Rw} {v:Value} {W w':World}
theorem Mm(h:Ao ns):ns.length<=1023:=by
 by_cases h0:ns.length=0
 ·omega
 obtain⟨x,hx⟩:=nk ns (ns.length-1) zM;have h1:=Jo h _ x hx;have h2:=(h _ x hx).2.1;omega
theorem n0m(h:eG g=true):g.ns.length<=1023/\g.ms.length<=1023:=by
 have h1:=AG.1 h;have h2:=Mm (FQ.1 h1.1.2.2.2);refine⟨h2,?_⟩;have h3:=congrArg List.length h1.2.2.1;rw[fl]at h3;have:=nXl g.ns;omega
def Mn (f e:Int) (id:Nat->Int) (a b:Value):Array Value:=#[.int .i64 f,.int .i64 e,.int .u8 (id 0),.int .u8 (id 1),.int .u8 (id 2),.int .u8 (id 3),.int .u8 (id 4),.int .u8 (id 5),.int .u8 (id 6),.int .u8 (id 7),.int .u8 (id 8),.int .u8 (id 9),.int .u8 (id 10),.int .u8 (id 11),.int .u8 (id 12),.int .u8 (id 13),.int .u8 (id 14),.int .u8 (id 15),.int .u8 (id 16),.int .u8 (id 17),.int .u8 (id 18),.int .u8 (id 19),.int .u8 (id 20),.int .u8 (id 21),.int .u8 (id 22),.int .u8 (id 23),.int .u8 (id 24),.int .u8 (id 25),.int .u8 (id 26),.int .u8 (id 27),.int .u8 (id 28),.int .u8 (id 29),.int .u8 (id 30),.int .u8 (id 31),a,b]
theorem GA(f e:Int)(id:Nat->Int)(r r':Rw)(n m:Nat):nV (Value.agg (Mn f e id (r.val n) (r'.val m))).cells.toList=true:=by cases r<;>cases r'<;>rfl
def kC (e:Int) (l:List Ch):List Mb:=(l.filter λx=> !decide (x.kind=2)).map λy=>⟨y.dev,e,y.ver⟩
theorem nMn{e:Int}{l:List Ch}{x:Ch}(hx:l[j]? =some x)(h:¬x.kind=2)(F:List Mb):F++kC e (l.take (j+1))=(F++kC e (l.take j))++[⟨x.dev,e,x.ver⟩]:=by rw[nz hx];simp[kC,h]
theorem Bu{e:Int}{l:List Ch}{x:Ch}(hx:l[j]? =some x)(h:x.kind=2)(F:List Mb):F++kC e (l.take (j+1))=F++kC e (l.take j):=by rw[nz hx];simp[kC,h]
theorem ngj(e:Int)(l:List Ch):(kC e l).length<=l.length:=by unfold kC;rw[fl];exact Ad _ _
theorem Tj(e:Int)(l:List Ch)(F:List Mb):F++kC e (l.take 0)=F:=by simp[kC]
noncomputable def Bv (Z:Fx) (g:Gp) (c:Cm):Gp:=⟨g.folder,c.epoch,aQ Z c,mY (g.ms.filter (λx=> !eS c.chs x)++kC c.epoch c.chs),bF (di g.ns c.chs) c.author c.path⟩
theorem Bw(hd:dM d)(l:List Int):(bF ns d l).length<=ns.length+10:=by
 unfold bF;split
 ·rw[nSg];have h1:=n9k (kv:=cY ns) hd l;have h2:=O4 ns;omega
 simp
theorem Rw.val_new{n cp:Nat}(h:r.ge k)(e:r.val n= .slice a n cp):∀q,a=some q->k<=q.block:=by
 intro q hq;cases r with
 |nil=>simp only[Rw.val,Value.slice.injEq]at e;rw[<-e.1]at hq;cases hq
 |row b cap sp=>simp only[Rw.val,Value.slice.injEq]at e;rw[<-e.1]at hq;cases hq;exact h
theorem GB(hZ:FxOk Z)(G:Gv)(c:Cm)(dD:cI c)(N:Nat)(w:World)(hN:N<=w.heap.size)(hG:aL N w G)(hC:dJ N w c)(hg:Glb w)(hv:eG G.g=true)(je:qD c=0)(hf:kA G.g c=true)(dc:gr G.g c.author c.chs=0)(hb:uG G.g c=true)(hw:xp c=true)(oV:Bq Z G.g c=true)(e:Int)(XH:me (di G.g.ns c.chs) c.author=e)(he:e=0):Calls prog 101 #[.agg (aX G),.agg (dY c)] w (ym w (Bv Z G.g c) 0):=by
 have oQ:=AG.1 hv;have Pp:=oQ.1.2.2.1;have sA:=oQ.1.2.1;have eh:=L0.1 je;have xk:=eh.e1;have xm:=eh.e2;obtain⟨h1,h2,h3⟩:=Po hf;have pF:=eh.au;have ue:=dD.few.chs;have wB:=dD.few.bxs;have Pc:=dD.few.wes;have eC:=hg.lt;obtain⟨XF,pT,LW⟩:=nVl hv dc;obtain⟨O9,ua⟩:=n8l XF;have OM:=hG.nn;have lE:=Xg c.chs G.g.ns;obtain⟨T,hT⟩:∃T,di G.g.ns c.chs=T:=⟨_,rfl⟩;rw[hT]at XH lE;have hpl:=eh.pl;have ku:∀y∈c.path,dG y:=λy hy=>by obtain⟨i,hi⟩:=jL.1 hy;exact eh.path i y hi
 have ahn:=n0m hv;refine Gt ?_;refine yV ?_;intro b2 w2 aH aF dS cE cX;refine yX ?_;intro b3 w3 aC ay cS bV cL;refine rj ?_;refine yW ?_;intro b4 dQ dV;refine Tf ?_;intro Wn an cn wn jc o7 sC pQ;have sD:=jc.sizes;replace sD:=yb sD;have DW:=o7.size;have pL:=jc.under;replace pL:=yg pL;refine Tg ?_;refine nJ 15 [13] [([],some _),([0],some _),([],some _),([],some _),([1,2,3],some (.bool true)),([4],some _),([5],some _),([6],some _),([6,7],some _),([6],some _),([6,9],some _),([6],some _),([6,11],some _),([6,10,12],none),([6],some _)] (λcv L' H'=>match cv with| []=>L'=[wn,w3,w2,w]/\H'=[(b4,.cells (aX kL) 57 (0,0))]| [v1]=>∃(aw:Option Addr) (cw:Nat) (ww:World),v1= .slice aw (ig c.author c.chs).length cw/\L'=[ww,wn,w3,w2,w]/\H'=[(b4,.cells (aX kL) 57 (0,0))]/\ah eR 5 ww.heap.size ww aw (ig c.author c.chs)/\∀q,aw=some q->wn.heap.size<=q.block|_=>False) zT ⟨rfl,rfl⟩ zT zT zT zT zT zT (pc XB (pc pR (pc zW (pc zW (pc pR (pc XC (pc zW (pc XD (pc pR (pc xh (pc pR (pc Gx (pc pR (pk (pc zW (pn)))))))))))))))) ?_ ?_
 ·exact XE
 intro cv L' H' hl hP;obtain⟨v1,rfl⟩:=dd hl;obtain⟨aw,cw,ww,rfl,rfl,rfl,pS,sE⟩:=hP;refine zGi ?_;refine nJ 10 [7] [([],some (.agg (aX G))),([],some _),([1],some _),([],some _),([3],some (.slice c.ca c.chs.length c.cc)),([0,2,4],some (.int .i64 (lh G.g c.author c.chs))),([],some (.agg (dY c))),([6],none),([],some _),([8],some (.agg #[.int .i64 c.sr,.int .i64 c.ss]))] (λcv L' H'=>match cv with| []=>L'=[ww,wn,w3,w2,w]/\H'=[(b4,.cells (aX kL) 57 (0,0))]| [v1]=>∃(bm:Nat) (wm:World),v1= .slice (some ⟨bm,0,none⟩) 32 32/\L'=[wm,ww,wn,w3,w2,w]/\H'=[(b4,.cells (aX kL) 57 (0,0))]/\wm.heap[bm]? =some (.cells (dg (mX Z c)) 34 (0,0))/\wn.heap.size<=bm|_=>False) zT ⟨rfl,rfl⟩ zT zT zT zT zT zT (pc rk (pc xh (pc rk (pc Gx (pc rk (pc rk (pc rk (pk (pc SZ (pc rk (pn))))))))))) ?_ ?_
 ·exact zoj
 intro cv L' H' hl hP;obtain⟨v1,rfl⟩:=dd hl;obtain⟨bm,wm,rfl,rfl,rfl,jb,hgm⟩:=hP;refine zTf ?_;refine SI ?_;refine B 6 ?_;refine zWe ?_;refine nl 6 [.det [] _,.det [0] _,.det [] _,.det [2] _,.det [] _,.det [4] (.agg (dg (aQ Z c)))] zT (xc yj (xc (by exact λab=>X.val rfl rfl (aa isAgg3 rfl A4 aH aF zL rfl) (λ_ _=>rfl)) (xc (by exact λab=>X.val rfl rfl (ak underlying99 rfl sizeOf3 rfl) (λ_ _=>rfl)) (xc (by exact λab=>X.val rfl rfl (aa isAgg3 rfl A3 aC ay zL rfl) (λ_ _=>rfl)) (xc z0d (xc zOd (xn))))))) zT zT zT (λab=>?_);refine zmg ?_;refine Jm ?_;refine B 4 ?_;have wY:=(aM.1 jb).1;refine zUe ?_;refine Th 14 [3,8,9,10,13] [([],some (.agg (aX G))),([],some _),([1],some (.slice c.ca c.chs.length c.cc)),([0,2],none),([],some _),([4],some _),([],some _),([6],some (.slice c.pa c.path.length c.pc)),([3,5,7],none),([8],none),([9],none),([9],some (.int .i64 e)),([],some _),([10,12],none)] (λcv L' H'=>match cv with| []=>L'=[wm,ww,wn,w3,w2,w]/\H'=[(b4,.cells (aX (⟨⟨G.g.folder,c.epoch,aQ Z c,[],[]⟩,none,0,none,0⟩:Gv)) 57 (0,0))]| [v1]=>∃(ta:Option Addr) (tc:Nat) (wr:World),v1= .agg #[.slice ta T.length tc]/\L'=[wr,wm,ww,wn,w3,w2,w]/\H'=[(b4,.cells (aX (⟨⟨G.g.folder,c.epoch,aQ Z c,[],[]⟩,none,0,none,0⟩:Gv)) 57 (0,0))]/\ah gh 2 wr.heap.size wr ta T/\(∀b off,ta=some ⟨b,off,none⟩->T=[]\/b<N\/wm.heap.size<=b)/\wm.heap.size<=wr.heap.size| [v1,v2]=>∃(ta:Option Addr) (tc:Nat) (wr:World) (r8:Rw),v1= .agg #[.slice ta T.length tc]/\v2= .tuple #[.agg #[r8.val (bF T c.author c.path).length],.int .i64 e]/\L'=[wr,wm,ww,wn,w3,w2,w]/\H'=[(b4,.cells (aX (⟨⟨G.g.folder,c.epoch,aQ Z c,[],[]⟩,none,0,none,0⟩:Gv)) 57 (0,0))]++(r8.hp fH 355 (bF T c.author c.path)++[])/\ah gh 2 wr.heap.size wr ta T/\(∀b off,ta=some ⟨b,off,none⟩->T=[]\/b<N\/wm.heap.size<=b)/\wm.heap.size<=wr.heap.size/\Rw.Fr Gh.no [wr,wm,ww,wn,w3,w2,w] r8/\r8.Fit 2 (bF T c.author c.path)/\r8.ge wr.heap.size| [v1,v2,v3]=>∃(ta:Option Addr) (tc:Nat) (wr:World) (r8:Rw),v1= .agg #[.slice ta T.length tc]/\v2= .tuple #[.agg #[r8.val (bF T c.author c.path).length],.int .i64 e]/\v3= .tuple #[.agg #[r8.val (bF T c.author c.path).length],.int .i64 e]/\L'=[wr,wm,ww,wn,w3,w2,w]/\H'=[(b4,.cells (aX (⟨⟨G.g.folder,c.epoch,aQ Z c,[],[]⟩,none,0,none,0⟩:Gv)) 57 (0,0))]++(r8.hp fH 355 (bF T c.author c.path)++[])/\ah gh 2 wr.heap.size wr ta T/\(∀b off,ta=some ⟨b,off,none⟩->T=[]\/b<N\/wm.heap.size<=b)/\wm.heap.size<=wr.heap.size/\Rw.Fr Gh.no [wr,wm,ww,wn,w3,w2,w] r8/\r8.Fit 2 (bF T c.author c.path)/\r8.ge wr.heap.size| [v1,v2,v3,v4]=>∃(ta:Option Addr) (tc:Nat) (wr:World) (r8:Rw),v1= .agg #[.slice ta T.length tc]/\v2= .tuple #[.agg #[r8.val (bF T c.author c.path).length],.int .i64 e]/\v3= .tuple #[.agg #[r8.val (bF T c.author c.path).length],.int .i64 e]/\v4= .agg #[r8.val (bF T c.author c.path).length]/\L'=[wr,wm,ww,wn,w3,w2,w]/\H'=[(b4,.cells (aX (⟨⟨G.g.folder,c.epoch,aQ Z c,[],[]⟩,none,0,none,0⟩:Gv)) 57 (0,0))]++(r8.hp fH 355 (bF T c.author c.path)++[])/\ah gh 2 wr.heap.size wr ta T/\(∀b off,ta=some ⟨b,off,none⟩->T=[]\/b<N\/wm.heap.size<=b)/\wm.heap.size<=wr.heap.size/\Rw.Fr Gh.no [wr,wm,ww,wn,w3,w2,w] r8/\r8.Fit 2 (bF T c.author c.path)/\r8.ge wr.heap.size| [v1,v2,v3,v4,v5]=>∃(ta:Option Addr) (tc:Nat) (wr:World) (r8:Rw),v1= .agg #[.slice ta T.length tc]/\v2= .tuple #[.agg #[r8.val (bF T c.author c.path).length],.int .i64 e]/\v3= .tuple #[.agg #[r8.val (bF T c.author c.path).length],.int .i64 e]/\v4= .agg #[r8.val (bF T c.author c.path).length]/\v5= .tuple #[]/\L'=[wr,wm,ww,wn,w3,w2,w]/\H'=[(b4,.cells (setCells (aX (⟨⟨G.g.folder,c.epoch,aQ Z c,[],[]⟩,none,0,none,0⟩:Gv)) 35 [r8.val (bF T c.author c.path).length]) 57 (0,0))]++(r8.hp fH 355 (bF T c.author c.path)++[])/\ah gh 2 wr.heap.size wr ta T/\(∀b off,ta=some ⟨b,off,none⟩->T=[]\/b<N\/wm.heap.size<=b)/\wm.heap.size<=wr.heap.size/\Rw.Fr Gh.no [wr,wm,ww,wn,w3,w2,w] r8/\r8.Fit 2 (bF T c.author c.path)/\r8.ge wr.heap.size|_=>False) zT ⟨rfl,rfl⟩ zT zT zT zT zT zT zT (pc Jn (pc Gx (pc Jn (pk (pc xh (pc Jn (pc zCc (pc Jn (pk (pk (pk (pc (λcv L' H' hd hP=>match cv,hd,hP with| [],hd,hP=>(absurd (show false=true from hd) zQ)| [v1],hd,hP=>(absurd (show false=true from hd) zQ)| [v1,v2],hd,hP=>(absurd (show false=true from hd) zQ)| [v1,v2,v3],hd,hP=>zYd| [v1,v2,v3,v4],hd,hP=>zUc| [v1,v2,v3,v4,v5],hd,hP=>zRc|_::_::_::_::_::_::_,_,hP=>hP.elim) (pc Ss (pk (pn))))))))))))))) ?_ ?_
 ·exact z8i
 intro cv L' H' hl hP;obtain⟨v1,v2,v3,v4,v5,rfl⟩:=eZ hl;obtain⟨ta,tc,wr,r8,rfl,rfl,rfl,rfl,rfl,rfl,rfl,oF,fJ,mB,kB,eT,eU⟩:=hP;refine B 6 ?_;refine XA ?_;refine B 14 ?_;refine rr (.slice G.ma G.g.ms.length G.mc) (aa isAgg52 rfl A5 aH aF GC rfl) ?_;refine Aa (enc:=kK) (m:=3) (t:=210) (xs:=G.g.ms) (v:=id) (first:=[]) (cap:=[]) rfl call160 rfl rfl rfl (λW hS=>Be G.g.ms zM N G.ma G.mc W (aS hN (hS.links w A6).size) (hG.ms.up (ao _) (hS.same A6 hN zU (by simp only[Over,nY,eY,dX,dE,dz,and_true];(repeat' apply And.intro);all_goals first|omega|exact True.intro|exact Rw.over (Rw.ge_mono eU zM))))) ?_;intro r9 Tk By;have vR:=Rw.ge_of Tk A0;refine B 1 ?_;refine wU (r:=r9) (enc:=kK) (m:=3) (t:=210) (xs:=G.g.ms) (ys:=(G.g.ms.filter λx=> !eS c.chs x)) (H0:=[]) (H1:=[(b4,.cells (setCells (aX (⟨⟨G.g.folder,c.epoch,aQ Z c,[],[]⟩,none,0,none,0⟩:Gv)) 35 [r8.val (bF T c.author c.path).length]) 57 (0,0))]++(r8.hp fH 355 (bF T c.author c.path)++[])) (v:=λr=>r.val (G.g.ms.filter λx=> !eS c.chs x).length) rfl call159 rfl rfl rfl (λhr W hS=>?_) (λb cap sp hr W hS h=>?_) ?_
 ·subst hr;have h0:G.g.ms=[]:=By;rw[h0];exact(nxh 156 [ptr b3 0] call156 W).mono λe w2 h=>⟨h.1,rfl,h.2⟩
 ·subst hr;have hbA:wr.heap.size<=b:=vR;have hzz:=(hS.links w A6).size;have aho:=(hS.links w3 A4).size;have ahp:=(aM.1 aC).1;exact npk (eS c.chs) 156 [ptr b3 0] call156 G.g.ms zM b cap sp W h By (λj x hx W2 hK Tc=>Md c dD.few N b3 x W2 (aS hN (aS hzz hK.size)) (hC.up (ao _) (λk hk=>(hK.block k zM zM).trans (hS.same A6 hN zU (by simp only[Over,nY,eY,dX,dE,dz,and_true];(repeat' apply And.intro);all_goals first|omega|exact True.intro|exact Rw.over (Rw.ge_mono eU zM)|exact Rw.over (Rw.ge_mono vR zM)) k hk))) (by rw[hK.block b3 zM zM];exact hS.old A4 aC ay (by simp only[bE,ne,eY,dX,dE,dz,and_true];(repeat' apply And.intro);all_goals first|omega|exact True.intro|exact Rw.off_ge eU zM|exact Rw.off_ge vR zM)))
 intro XI Mo Tl Tm acX;have Tn:=Tl Tk;have Mr:=Tm _ vR;refine B 1 ?_;refine OJ.perm (H':=[(b4,.cells (Mn G.g.folder c.epoch (aQ Z c) (.slice none 0 0) (r8.val (bF T c.author c.path).length)) 57 (0,0))]++(r8.hp fH 355 (bF T c.author c.path)++(XI.hp kK 210 (G.g.ms.filter λx=> !eS c.chs x)++[]))) (by simp only[dX,dE,eY];exact List.perm_append_comm) ?_;refine kS (i:=0) rfl sizeOf52 rfl rfl rfl (Rw.val_size _ _) (aV rfl) (Rw.val_one _ _) ?_;refine B 6 ?_;refine rr (.slice c.ca c.chs.length c.cc) (aa isAgg95 rfl A4 aC ay (by simp only[bE,ne,book,eY,dX,dE,i7,dz,fj,qo,rJ,ne_eq,and_true];(repeat' apply And.intro);all_goals first|omega|exact True.intro|exact Rw.off_ge eU zM|exact Rw.off_ge Mr zM) rfl) ?_;refine B 5 ?_;have tM:=Tj c.epoch c.chs (G.g.ms.filter λx=> !eS c.chs x);refine CJ.reH (H':=[(b4,.cells (Mn G.g.folder c.epoch (aQ Z c) (XI.val ((G.g.ms.filter λx=> !eS c.chs x)++kC c.epoch (c.chs.take 0)).length) (r8.val (bF T c.author c.path).length)) 57 (0,0))]++(r8.hp fH 355 (bF T c.author c.path)++(XI.hp kK 210 ((G.g.ms.filter λx=> !eS c.chs x)++kC c.epoch (c.chs.take 0))++[]))) (by rw[tM,Rw.val_cells];rfl) ?_;refine CJ.loop (α:=Rw×Nat) (λp=>[(2,ptr b2 0),(3,ptr b3 0),(4,ptr b4 0),(121,.slice c.ca c.chs.length c.cc),(122,.int .i64 (c.chs.length:Int)),(123,.int .i64 (p.2:Int))]) (λp=>[(b4,.cells (Mn G.g.folder c.epoch (aQ Z c) (p.1.val ((G.g.ms.filter λx=> !eS c.chs x)++kC c.epoch (c.chs.take p.2)).length) (r8.val (bF T c.author c.path).length)) 57 (0,0))]++(r8.hp fH 355 (bF T c.author c.path)++(p.1.hp kK 210 ((G.g.ms.filter λx=> !eS c.chs x)++kC c.epoch (c.chs.take p.2))++[]))) (λp=>[wr,wm,ww,wn,w3,w2,w]) (λp=>Gh.no) (λp=>p.2<=c.chs.length/\p.1.Fr Gh.no [wr,wm,ww,wn,w3,w2,w]/\p.1.Fit 3 ((G.g.ms.filter λx=> !eS c.chs x)++kC c.epoch (c.chs.take p.2))) (λp=>c.chs.length-p.2) (XI,0) ⟨cZ _,Tn,by rw[tM];exact Mo⟩ zR rfl rfl z1 ?_
 rintro⟨r,j⟩ ⟨hj,bG,al⟩;dsimp only at hj bG al ⊢;have cM:r.ge wr.heap.size:=Rw.ge_of bG A0;have ts:=Ad (λx=> !eS c.chs x) G.g.ms;have q4:=ngj c.epoch (c.chs.take j);rw[kj]at q4;refine B 6 ?_;refine aK ?_ ?_
 ·intro aj;refine B 5 ?_;obtain⟨bo,oo,cs0,to,fp,jC,ft,hcs,ar⟩:=hC.chs.get zM;obtain⟨x,hx⟩:=nk c.chs j zM;rw[jC];refine B 2 ?_;refine rq (.agg (eR x)) (ag isAgg233 sizeOf233 rfl A6 hcs zX (by simp only[bE,ne,eY,dX,dE,dz,and_true];(repeat' apply And.intro);all_goals first|omega|exact True.intro|exact Rw.off_ge eU zM|exact Rw.off_ge cM zM) (ni ar hx rfl)) (va (np ar hx rfl)) ?_;refine LM ?_;refine yW ?_;intro kV Rl Rm;refine LN ?_;refine B 9 ?_;refine aK ?_ ?_
  ·intro aN;refine B 6 ?_;refine rv rfl rfl rfl (aa isAgg3 rfl A4 aC ay (by simp only[bE,ne,book,eY,dX,dE,i7,dz,fj,qo,rJ,ne_eq,and_true];(repeat' apply And.intro);all_goals first|omega|exact True.intro|exact Rw.off_ge eU zM|exact Rw.off_ge cM zM) rfl) ?_;refine B 2 ?_;refine rv rfl rfl rfl (bS underlying210 zeroValue210 (bC.c sizeOf3 (bC.c sizeOf3 (bC.c sizeOf3 (bC.n)))) rfl rfl) ?_;refine k9 underlying52 sizeOf210 zeroValue210 rfl rfl rfl rfl rfl rfl rfl ?_;refine yW ?_;intro acY agD agE;refine oY (r:=r) (xs:=((G.g.ms.filter λx=> !eS c.chs x)++kC c.epoch (c.chs.take j))) (zs:=[(⟨x.dev,c.epoch,x.ver⟩:Mb)]) (enc:=kK) (m:=3) (H0:=(acY,.cells #[.int .i64 x.dev,.int .i64 c.epoch,.int .i64 x.ver] 210 (0,0))::(kV,.cells (eR x) 233 (0,0))::(b4,.cells (Mn G.g.folder c.epoch (aQ Z c) (r.val ((G.g.ms.filter λx=> !eS c.chs x)++kC c.epoch (c.chs.take j)).length) (r8.val (bF T c.author c.path).length)) 57 (0,0))::r8.hp fH 355 (bF T c.author c.path)) (H1:=[]) wQ Bc xe rfl rfl rfl rfl (dt.one (z:=(⟨x.dev,c.epoch,x.ver⟩:Mb)) xe W4 underlying52 (bL.own (i:=0) rfl)) al bG z1 xQ ?_;intro acZ To Tp Bz GD;replace Bz:=yb Bz;refine B 1 ?_;refine kS (i:=2) rfl sizeOf52 rfl rfl rfl rfl (aV rfl) rfl ?_;refine Ms ?_;refine PJ.again (Rw.row acZ To Tp,j+1) ⟨by dsimp only;omega,Bz.elim (λh=>Rw.Fr_at bG h) (λh=>.inr h),by rw[nMn hx gO];exact GD⟩ dL zR (by rw[nMn hx gO];rfl) rfl z1
  intro aN;refine wT ?_;refine PJ.again (r,j+1) ⟨by dsimp only;omega,bG,by rw[Bu hx zM];exact al⟩ dL zR (by rw[Bu hx zM];rfl) rfl z1
 intro aj;refine B 6 ?_;have bW:c.chs.take j=c.chs:=iZ zM;rw[bW]at al ⊢;refine B 3 ?_;have ahr:=ngj c.epoch c.chs;refine wU (r:=r) (enc:=kK) (m:=3) (t:=210) (xs:=((G.g.ms.filter λx=> !eS c.chs x)++kC c.epoch c.chs)) (ys:=mY ((G.g.ms.filter λx=> !eS c.chs x)++kC c.epoch c.chs)) (H0:=(b4,.cells (Mn G.g.folder c.epoch (aQ Z c) (r.val ((G.g.ms.filter λx=> !eS c.chs x)++kC c.epoch c.chs).length) (r8.val (bF T c.author c.path).length)) 57 (0,0))::r8.hp fH 355 (bF T c.author c.path)) (H1:=[]) (v:=λ_=>.tuple #[]) rfl call161 rfl rfl rfl (λhr W hS=>?_) (λb cap sp hr W hS h=>?_) ?_
 ·subst hr;have h0:((G.g.ms.filter λx=> !eS c.chs x)++kC c.epoch c.chs)=[]:=al;rw[h0];exact(nTm W).mono λe w2 h=>⟨h.1,Bl,h.2⟩
 ·subst hr;exact Tb (by rw[cF];omega) al h
 intro r11 uu agF Tq Mt;have BA:=Tq _ cM;refine B 5 ?_;refine aZ (i:=0) rfl sizeOf57 rfl rfl rfl rfl rfl (GA _ _ _ _ _ _ _) ?_;refine B 4 ?_;refine bH (.inl rfl) results101 (RS.wA (i:=0) rfl isAgg57 sizeOf57 rfl (aV rfl) (RS.t rfl RS.n)) λW hS=>?_;have ac0:r8.At fH 355 (bF T c.author c.path) W:=by
  cases r8 with
  |nil=>trivial
  |row b cap sp=>exact hS.own (b,_) vv
 have Tr:r11.At kK 210 (mY ((G.g.ms.filter λx=> !eS c.chs x)++kC c.epoch c.chs)) W:=by
  cases r11 with
  |nil=>trivial
  |row b cap sp=>exact hS.own (b,_) vv
 obtain⟨a,cp,rV,ac1⟩:=Rw.sl (xs:=mY ((G.g.ms.filter λx=> !eS c.chs x)++kC c.epoch c.chs)) xe uu Tr (ao W.heap.size);obtain⟨a8,IY,he8,qz⟩:=Rw.sl RW eT ac0 (ao W.heap.size);have h1:r.val ((G.g.ms.filter λx=> !eS c.chs x)++kC c.epoch c.chs).length= .slice a (mY ((G.g.ms.filter λx=> !eS c.chs x)++kC c.epoch c.chs)).length cp:=by rw[<-S9 ((G.g.ms.filter λx=> !eS c.chs x)++kC c.epoch c.chs),<-Mt];exact rV
 have hvl:=n0m hv;have mZ:=Bw (ns:=T) pF c.path;have ahs:=ngj c.epoch c.chs;refine⟨⟨Bv Z G.g c,a,cp,a8,IY⟩,?_,?_,rfl,⟨ac1,by rw[<-hT]at qz;exact qz,?_,?_⟩,Rw.val_new (Rw.ge_mono BA zM) rV,Rw.val_new (Rw.ge_mono eU zM) he8⟩
 ·show Ending.returned (.tuple #[.agg (Mn G.g.folder c.epoch (aQ Z c) (r.val ((G.g.ms.filter λx=> !eS c.chs x)++kC c.epoch c.chs).length) (r8.val (bF T c.author c.path).length)),.int .i64 0])=_;rw[h1,he8,<-hT];rfl
 ·exact(hS.links w A6).below (λk hk hx=>by rcases hx with hx|hx;(exact hx);simp only[dz,eY,dX,dE,gj,eE,iD,cO,cP,fG,or_false]at hx;rcases hx with hx|hx|hx;(omega);(have:=Rw.mem_ge eU hx;omega);(have:=Rw.mem_ge BA hx;omega))
 ·show(mY ((G.g.ms.filter λx=> !eS c.chs x)++kC c.epoch c.chs)).length<=10000;rw[S9,cF];omega
 show(bF (di G.g.ns c.chs) c.author c.path).length<=80000;rw[hT];omega
noncomputable def lJ (Z:Fx) (g:Gp) (c:Cm):Int:=
 if eG g=true then(if qD c=0 then(if kA g c=true then(if gr g c.author c.chs=0 then(if uG g c=true then(if xp c=true then(if Bq Z g c=true then me (di g.ns c.chs) c.author else 222)else 220)else 220)else 221)else 220)else 220)else 1
noncomputable def tu (Z:Fx) (g:Gp) (c:Cm):Gp:=if lJ Z g c=0 then Bv Z g c else vO
theorem BB{l:List Ch}(hv:eG g=true):gr g au l=0\/gr g au l=221:=by
 unfold gr;rw[if_pos hv];split<;>simp
theorem nKe(hZ:FxOk Z)(G:Gv)(c:Cm)(dD:cI c)(N:Nat)(w:World)(hN:N<=w.heap.size)(hG:aL N w G)(hC:dJ N w c)(hg:Glb w):Calls prog 101 #[.agg (aX G),.agg (dY c)] w (ym w (tu Z G.g c) (lJ Z G.g c)):=by
 have key:∀e:Int,lJ Z G.g c=e->e≠0->Calls prog 101 #[.agg (aX G),.agg (dY c)] w (ym w vO e)->Calls prog 101 #[.agg (aX G),.agg (dY c)] w (ym w (tu Z G.g c) (lJ Z G.g c)):=by
  intro e he h0 h;have:tu Z G.g c=vO:=by unfold tu;rw[he,if_neg h0]
  rw[this,he];exact h
 cases hv:eG G.g with
 |false=>exact key 1 (by simp[lJ,hv]) zQ (Bm hZ G c dD N w hN hG hC hg hv)
 |true=>
  rcases Gk c with je|je
  ·cases hf:kA G.g c with
   |false=>exact key 220 (by simp[lJ,hv,je,hf]) zQ (Bo hZ G c dD N w hN hG hC hg hv je hf)
   |true=>
    rcases BB (au:=c.author) (l:=c.chs) hv with dc|dc
    ·cases hb:uG G.g c with
     |false=>exact key 220 (by simp[lJ,hv,je,hf,dc,hb]) zQ (Gu hZ G c dD N w hN hG hC hg hv je hf dc hb)
     |true=>
      cases hw:xp c with
      |false=>exact key 220 (by simp[lJ,hv,je,hf,dc,hb,hw]) zQ (Gw hZ G c dD N w hN hG hC hg hv je hf dc hb hw)
      |true=>
       cases oV:Bq Z G.g c with
       |false=>exact key 222 (by simp[lJ,hv,je,hf,dc,hb,hw,oV]) zQ (Br hZ G c dD N w hN hG hC hg hv je hf dc hb hw oV)
       |true=>
        have e1:lJ Z G.g c=me (di G.g.ns c.chs) c.author:=by simp[lJ,hv,je,hf,dc,hb,hw,oV]
        by_cases he:me (di G.g.ns c.chs) c.author=0
        ·have e2:lJ Z G.g c=0:=e1.trans he;have e3:tu Z G.g c=Bv Z G.g c:=by unfold tu;rw[e2,if_pos rfl]
         rw[e2,e3];exact GB hZ G c dD N w hN hG hC hg hv je hf dc hb hw oV 0 he rfl
        exact key _ e1 he (Bt hZ G c dD N w hN hG hC hg hv je hf dc hb hw oV _ rfl he)
    exact key 221 (by simp[lJ,hv,je,hf,dc]) zQ (Bp hZ G c dD N w hN hG hC hg hv je hf dc)
  exact key 220 (by simp[lJ,hv,je]) zQ (Bn hZ G c dD N w hN hG hC hg hv je)
theorem BC{l:List Value}(h:l.all (λu=>u.oneCell')=true):∀u∈l,u.oneCell'=true:=λu hu=>pP.1 h u hu
def iA (x:Gv):List Value:=[.int .i64 x.g.folder,.int .i64 x.g.epoch,.int .u8 (x.g.last 0),.int .u8 (x.g.last 1),.int .u8 (x.g.last 2),.int .u8 (x.g.last 3),.int .u8 (x.g.last 4),.int .u8 (x.g.last 5),.int .u8 (x.g.last 6),.int .u8 (x.g.last 7),.int .u8 (x.g.last 8),.int .u8 (x.g.last 9),.int .u8 (x.g.last 10),.int .u8 (x.g.last 11),.int .u8 (x.g.last 12),.int .u8 (x.g.last 13),.int .u8 (x.g.last 14),.int .u8 (x.g.last 15),.int .u8 (x.g.last 16),.int .u8 (x.g.last 17),.int .u8 (x.g.last 18),.int .u8 (x.g.last 19),.int .u8 (x.g.last 20),.int .u8 (x.g.last 21),.int .u8 (x.g.last 22),.int .u8 (x.g.last 23),.int .u8 (x.g.last 24),.int .u8 (x.g.last 25),.int .u8 (x.g.last 26),.int .u8 (x.g.last 27),.int .u8 (x.g.last 28),.int .u8 (x.g.last 29),.int .u8 (x.g.last 30),.int .u8 (x.g.last 31),.slice x.ma x.g.ms.length x.mc,.slice x.na x.g.ns.length x.nc]
theorem nHj(x:Gv):(iA x).length=36:=rfl
theorem GF(x:Gv):∀u∈iA x,u.oneCell'=true:=BC rfl
def mD (d:Cd):List Value:=[.int .i64 d.at_,.int .i64 d.c.folder,.int .i64 d.c.epoch,.int .u8 (d.c.par 0),.int .u8 (d.c.par 1),.int .u8 (d.c.par 2),.int .u8 (d.c.par 3),.int .u8 (d.c.par 4),.int .u8 (d.c.par 5),.int .u8 (d.c.par 6),.int .u8 (d.c.par 7),.int .u8 (d.c.par 8),.int .u8 (d.c.par 9),.int .u8 (d.c.par 10),.int .u8 (d.c.par 11),.int .u8 (d.c.par 12),.int .u8 (d.c.par 13),.int .u8 (d.c.par 14),.int .u8 (d.c.par 15),.int .u8 (d.c.par 16),.int .u8 (d.c.par 17),.int .u8 (d.c.par 18),.int .u8 (d.c.par 19),.int .u8 (d.c.par 20),.int .u8 (d.c.par 21),.int .u8 (d.c.par 22),.int .u8 (d.c.par 23),.int .u8 (d.c.par 24),.int .u8 (d.c.par 25),.int .u8 (d.c.par 26),.int .u8 (d.c.par 27),.int .u8 (d.c.par 28),.int .u8 (d.c.par 29),.int .u8 (d.c.par 30),.int .u8 (d.c.par 31),.int .i64 d.c.author,.slice d.c.ca d.c.chs.length d.c.cc,.slice d.c.pa d.c.path.length d.c.pc,.slice d.c.ba d.c.bxs.length d.c.bc,.slice d.c.wa d.c.wes.length d.c.wc,.int .u8 (d.c.conf 0),.int .u8 (d.c.conf 1),.int .u8 (d.c.conf 2),.int .u8 (d.c.conf 3),.int .u8 (d.c.conf 4),.int .u8 (d.c.conf 5),.int .u8 (d.c.conf 6),.int .u8 (d.c.conf 7),.int .u8 (d.c.conf 8),.int .u8 (d.c.conf 9),.int .u8 (d.c.conf 10),.int .u8 (d.c.conf 11),.int .u8 (d.c.conf 12),.int .u8 (d.c.conf 13),.int .u8 (d.c.conf 14),.int .u8 (d.c.conf 15),.int .u8 (d.c.conf 16),.int .u8 (d.c.conf 17),.int .u8 (d.c.conf 18),.int .u8 (d.c.conf 19),.int .u8 (d.c.conf 20),.int .u8 (d.c.conf 21),.int .u8 (d.c.conf 22),.int .u8 (d.c.conf 23),.int .u8 (d.c.conf 24),.int .u8 (d.c.conf 25),.int .u8 (d.c.conf 26),.int .u8 (d.c.conf 27),.int .u8 (d.c.conf 28),.int .u8 (d.c.conf 29),.int .u8 (d.c.conf 30),.int .u8 (d.c.conf 31),.int .i64 d.c.sr,.int .i64 d.c.ss,.int .u8 (d.id 0),.int .u8 (d.id 1),.int .u8 (d.id 2),.int .u8 (d.id 3),.int .u8 (d.id 4),.int .u8 (d.id 5),.int .u8 (d.id 6),.int .u8 (d.id 7),.int .u8 (d.id 8),.int .u8 (d.id 9),.int .u8 (d.id 10),.int .u8 (d.id 11),.int .u8 (d.id 12),.int .u8 (d.id 13),.int .u8 (d.id 14),.int .u8 (d.id 15),.int .u8 (d.id 16),.int .u8 (d.id 17),.int .u8 (d.id 18),.int .u8 (d.id 19),.int .u8 (d.id 20),.int .u8 (d.id 21),.int .u8 (d.id 22),.int .u8 (d.id 23),.int .u8 (d.id 24),.int .u8 (d.id 25),.int .u8 (d.id 26),.int .u8 (d.id 27),.int .u8 (d.id 28),.int .u8 (d.id 29),.int .u8 (d.id 30),.int .u8 (d.id 31),.int .i64 d.since,.int .i64 d.x.g.folder,.int .i64 d.x.g.epoch,.int .u8 (d.x.g.last 0),.int .u8 (d.x.g.last 1),.int .u8 (d.x.g.last 2),.int .u8 (d.x.g.last 3),.int .u8 (d.x.g.last 4),.int .u8 (d.x.g.last 5),.int .u8 (d.x.g.last 6),.int .u8 (d.x.g.last 7),.int .u8 (d.x.g.last 8),.int .u8 (d.x.g.last 9),.int .u8 (d.x.g.last 10),.int .u8 (d.x.g.last 11),.int .u8 (d.x.g.last 12),.int .u8 (d.x.g.last 13),.int .u8 (d.x.g.last 14),.int .u8 (d.x.g.last 15),.int .u8 (d.x.g.last 16),.int .u8 (d.x.g.last 17),.int .u8 (d.x.g.last 18),.int .u8 (d.x.g.last 19),.int .u8 (d.x.g.last 20),.int .u8 (d.x.g.last 21),.int .u8 (d.x.g.last 22),.int .u8 (d.x.g.last 23),.int .u8 (d.x.g.last 24),.int .u8 (d.x.g.last 25),.int .u8 (d.x.g.last 26),.int .u8 (d.x.g.last 27),.int .u8 (d.x.g.last 28),.int .u8 (d.x.g.last 29),.int .u8 (d.x.g.last 30),.int .u8 (d.x.g.last 31),.slice d.x.ma d.x.g.ms.length d.x.mc,.slice d.x.na d.x.g.ns.length d.x.nc]
theorem D1(d:Cd):(mD d).length=143:=by simp only[mD,dW,lC]
theorem njj(d:Cd):∀u∈mD d,u.oneCell'=true:=BC rfl
def eH (k:Dk):List Value:=k.1.map (Value.int .u8)
theorem Jp(k:Dk):(eH k).length=32:=by simp[eH,k.2]
theorem n3h(k:Dk):∀u∈eH k,u.oneCell'=true:=by
 intro u hu;obtain⟨x,_,rfl⟩:=bU.1 hu;rfl
def dk (f:Nat->Int):Dk:=⟨[f 0,f 1,f 2,f 3,f 4,f 5,f 6,f 7,f 8,f 9,f 10,f 11,f 12,f 13,f 14,f 15,f 16,f 17,f 18,f 19,f 20,f 21,f 22,f 23,f 24,f 25,f 26,f 27,f 28,f 29,f 30,f 31],rfl⟩
theorem GG(f:Nat->Int):(eH (dk f)).toArray=dg f:=rfl
theorem ac5(f g:Nat->Int):jl f g=decide (dk f=dk g):=by
 have h:=XJ (dk f).1 (dk g).1 (by rw[(dk f).2,(dk g).2]);have e:decide (dk f=dk g)=decide ((dk f).1=(dk g).1):=by simp only[Subtype.ext_iff]
 rw[e,<-h];rfl
theorem GH:prog.info? 57=some Tryz.t57:=by kernel_rfl
theorem GI:prog.info? 101=some Tryz.t101:=by kernel_rfl
theorem GJ:prog.info? 34=some Tryz.t34:=by kernel_rfl
theorem Mu:lQ prog 46 57 36:=⟨underlying46,Tryz.t57,.agg #[.int .i64 0,.int .i64 0,.int .u8 0,.int .u8 0,.int .u8 0,.int .u8 0,.int .u8 0,.int .u8 0,.int .u8 0,.int .u8 0,.int .u8 0,.int .u8 0,.int .u8 0,.int .u8 0,.int .u8 0,.int .u8 0,.int .u8 0,.int .u8 0,.int .u8 0,.int .u8 0,.int .u8 0,.int .u8 0,.int .u8 0,.int .u8 0,.int .u8 0,.int .u8 0,.int .u8 0,.int .u8 0,.int .u8 0,.int .u8 0,.int .u8 0,.int .u8 0,.int .u8 0,.int .u8 0,.slice none 0 0,.slice none 0 0],GH,rfl,rfl,rfl,by decide⟩
theorem BD:lQ prog 194 101 143:=⟨underlying194,Tryz.t101,.agg #[.int .i64 0,.int .i64 0,.int .i64 0,.int .u8 0,.int .u8 0,.int .u8 0,.int .u8 0,.int .u8 0,.int .u8 0,.int .u8 0,.int .u8 0,.int .u8 0,.int .u8 0,.int .u8 0,.int .u8 0,.int .u8 0,.int .u8 0,.int .u8 0,.int .u8 0,.int .u8 0,.int .u8 0,.int .u8 0,.int .u8 0,.int .u8 0,.int .u8 0,.int .u8 0,.int .u8 0,.int .u8 0,.int .u8 0,.int .u8 0,.int .u8 0,.int .u8 0,.int .u8 0,.int .u8 0,.int .u8 0,.int .i64 0,.slice none 0 0,.slice none 0 0,.slice none 0 0,.slice none 0 0,.int .u8 0,.int .u8 0,.int .u8 0,.int .u8 0,.int .u8 0,.int .u8 0,.int .u8 0,.int .u8 0,.int .u8 0,.int .u8 0,.int .u8 0,.int .u8 0,.int .u8 0,.int .u8 0,.int .u8 0,.int .u8 0,.int .u8 0,.int .u8 0,.int .u8 0,.int .u8 0,.int .u8 0,.int .u8 0,.int .u8 0,.int .u8 0,.int .u8 0,.int .u8 0,.int .u8 0,.int .u8 0,.int .u8 0,.int .u8 0,.int .u8 0,.int .u8 0,.int .i64 0,.int .i64 0,.int .u8 0,.int .u8 0,.int .u8 0,.int .u8 0,.int .u8 0,.int .u8 0,.int .u8 0,.int .u8 0,.int .u8 0,.int .u8 0,.int .u8 0,.int .u8 0,.int .u8 0,.int .u8 0,.int .u8 0,.int .u8 0,.int .u8 0,.int .u8 0,.int .u8 0,.int .u8 0,.int .u8 0,.int .u8 0,.int .u8 0,.int .u8 0,.int .u8 0,.int .u8 0,.int .u8 0,.int .u8 0,.int .u8 0,.int .u8 0,.int .u8 0,.int .u8 0,.int .i64 0,.int .i64 0,.int .i64 0,.int .u8 0,.int .u8 0,.int .u8 0,.int .u8 0,.int .u8 0,.int .u8 0,.int .u8 0,.int .u8 0,.int .u8 0,.int .u8 0,.int .u8 0,.int .u8 0,.int .u8 0,.int .u8 0,.int .u8 0,.int .u8 0,.int .u8 0,.int .u8 0,.int .u8 0,.int .u8 0,.int .u8 0,.int .u8 0,.int .u8 0,.int .u8 0,.int .u8 0,.int .u8 0,.int .u8 0,.int .u8 0,.int .u8 0,.int .u8 0,.int .u8 0,.int .u8 0,.slice none 0 0,.slice none 0 0],GI,rfl,rfl,rfl,by decide⟩
theorem nnm:lQ prog 41 34 32:=⟨underlying41,Tryz.t34,.agg #[.int .u8 0,.int .u8 0,.int .u8 0,.int .u8 0,.int .u8 0,.int .u8 0,.int .u8 0,.int .u8 0,.int .u8 0,.int .u8 0,.int .u8 0,.int .u8 0,.int .u8 0,.int .u8 0,.int .u8 0,.int .u8 0,.int .u8 0,.int .u8 0,.int .u8 0,.int .u8 0,.int .u8 0,.int .u8 0,.int .u8 0,.int .u8 0,.int .u8 0,.int .u8 0,.int .u8 0,.int .u8 0,.int .u8 0,.int .u8 0,.int .u8 0,.int .u8 0],GJ,rfl,rfl,rfl,by decide⟩
theorem GK:uI prog 34 sF:=Ts underlying34 underlying5 sizeOf5 isAgg5
theorem ngm(p:Cd->Bool)(f:Nat)(cap:List Value)(az:dR prog f)(xs:List Cd)(cb:xs.length<=1000000)(N:Nat)(a:Option Addr)(cp:Nat)(w:World)(hN:N<=w.heap.size)(aJ:ah dF 143 N w a xs)(hp:∀(j:Nat) (x:Cd),xs[j]? =some x->∀W,Below w.heap.size w W->Calls prog f (.agg (dF x)::cap).toArray W (av W (.bool (p x)))):Calls prog 166 #[.slice a xs.length cp,.func (.func f) #[] cap.toArray] w (cu w (λi:Int=>.int .i64 i) (λi _=>cR p xs i)):=by
 refine enter (vs:=[_,_]) func166 rfl ntmps166 rfl ?_;refine I4 ?_;rintro j ⟨hj,dO⟩;refine B 6 ?_;refine aK ?_ ?_
 ·intro aj;refine B 11 ?_;obtain⟨bo,oo,cs0,to,fp,rfl,ft,hcs,ar⟩:=aJ.get zM;obtain⟨x,hx⟩:=nk xs j zM;refine B 5 ?_;refine rq (.agg (dF x)) (ag isAgg101 sizeOf101 rfl A0 hcs zX trivial (ni ar hx rfl)) (va (np ar hx rfl)) ?_;refine I5 ?_;refine aK ?_ ?_
  ·intro aN;refine B 12 ?_;refine jG (j:Int) results166 rfl A0 rfl ?_;exact I6
  exact F8
 intro aj;refine B 11 ?_;refine jG (-1:Int) results166 rfl A0 rfl ?_;exact F9
theorem n0i(p:Cd->Bool)(f:Nat)(cap:List Value)(az:dR prog f)(xs:List Cd)(cb:xs.length<=1000000)(N:Nat)(a:Option Addr)(cp:Nat)(w:World)(hN:N<=w.heap.size)(aJ:ah dF 143 N w a xs)(hp:∀(j:Nat) (x:Cd),xs[j]? =some x->∀W,Below w.heap.size w W->Calls prog f (.agg (dF x)::cap).toArray W (av W (.bool (p x)))):Calls prog 103 #[.slice a xs.length cp,.func (.func f) #[] cap.toArray] w (av w (.bool (xs.any p))):=by
 refine enter (vs:=[_,_]) func103 rfl ntmps103 rfl ?_;refine B 9 ?_;refine nu (α:=Int) (v:=λi:Int=>.int .i64 i) (Φ:=λ_ i _=>cR p xs i) call166 rfl rfl rfl (λW hS=>ngm p f cap az xs cb N a cp W (aS hN (hS.links w A0).size) (aJ.up (ao _) (hS.same A0 hN zU trivial)) (λj x hx W2 hB=>hp j x hx W2 (((hS.links w A0).below Ll).trans (hB.mono (hS.links w A0).size)))) ?_;intro Wi i wi sj sk hi;refine B 5 ?_;refine ax results103 rfl A1 ?_;exact vb hi.any
def mg (l:List Dk) (k:Dk):Int:=match l.findIdx? (λx=>decide (x=k))with|some i=>(i:Int)|none=> -1
theorem nwn{l:List Dk}{k x:Dk}(dO:fw (λy=>decide (y=k)) l j)(hx:l[j]? =some x)(h:decide (x=k)=true):(j:Int)=mg l k:=by
 have e:l.findIdx? (λy=>decide (y=k))=some j:=by
  rw[VK];have hl:=nE hx;obtain⟨_,Tt⟩:=gD.1 hx;refine⟨hl,by rw[Tt];exact h,λi hi=>?_⟩;have:=dO i l[i] hi (gV _);simp[this]
 unfold mg;rw[e]
theorem Mv{l:List Dk}{k:Dk}(dO:fw (λy=>decide (y=k)) l j)(hj:¬j<l.length):(-1:Int)=mg l k:=by
 have e:l.findIdx? (λy=>decide (y=k))=none:=by
  rw[List.findIdx?_eq_none_iff];intro x hx;have:=List.any_eq_false.1 (Sm dO hj) x hx;simpa using this
 unfold mg;rw[e]
def Tu (k:Dk):Array Value:=(eH k).toArray
theorem Mw(f:Nat->Int)(k:Dk):oB (dg f).toList (Tu k).toList=decide (k=dk f):=by
 have h:=XJ (dk f).1 k.1 (by rw[(dk f).2,k.2]);have e:decide (k=dk f)=decide ((dk f).1=k.1):=by simp only[Subtype.ext_iff];exact decide_eq_decide.2 ⟨Eq.symm,Eq.symm⟩
 rw[e,<-h];rfl
theorem Mx(f:Nat->Int)(k:Dk):jD (kZ 32 [.i]) (dg f).toList (Tu k).toList=true:=nYh 32 (dk f).1 k.1 (dk f).2 k.2
theorem BF(xs:List Dk)(cb:xs.length<=1000000)(N:Nat)(a:Option Addr)(cp:Nat)(w:World)(hN:N<=w.heap.size)(aJ:ah Tu 32 N w a xs)(f:Nat->Int):Calls prog 100 #[.slice a xs.length cp,.agg (dg f)] w (av w (.int .i64 (mg xs (dk f)))):=by
 refine enter (vs:=[_,_]) func100 rfl ntmps100 rfl ?_;refine B 2 ?_;refine yX ?_;intro b3 w3 aC ay cS bV cL;refine B 12 ?_;refine CJ.loop (α:=Nat) (λj=>[(0,.slice a xs.length cp),(3,ptr b3 0),(7,.int .i64 (xs.length:Int)),(8,.int .i64 (j:Int))]) (λj=>[]) (λj=>[w3,w]) (λj=>Gh.no) (λj=>j<=xs.length/\fw (λy=>decide (y=dk f)) xs j) (λj=>xs.length-j) 0 ⟨cZ _,λi x hi=>absurd hi zM⟩ zR rfl rfl z1 ?_;rintro j ⟨hj,dO⟩;refine B 6 ?_;refine aK ?_ ?_
 ·intro aj;refine B 11 ?_;obtain⟨bo,oo,cs0,to,fp,rfl,ft,hcs,ar⟩:=aJ.get zM;obtain⟨x,hx⟩:=nk xs j zM;refine ng (E':=[(0,_),(3,_),(5,_),(7,_),(8,_),(9,_),(10,_)]) zR ?_;refine nl 5 [.det [] _,.det [] _,.det [] _,.det [1,2] _,.det [3] _] zT (xc (by exact λab=>X.val rfl rfl (af isAgg34 sizeOf34 rfl A0 aC ay trivial rfl) (λ_ _=>rfl)) (xc zO (xc zO (xc Tv (xc (by exact λab=>X.val rfl rfl (RV.re (v':=.agg (Tu x)) (ag isAgg34 sizeOf34 rfl A1 hcs zX trivial (ni ar hx rfl)) (va (np ar hx rfl))) (λ_ _=>rfl)) (xn)))))) zT zT zT (λab=>?_);refine rq (.bool (decide (x=dk f))) (gZ ui zQ nQ rfl rfl (Mx f x)) (vb (Mw f x)) ?_;refine B 2 ?_;refine aK ?_ ?_
  ·intro aN;refine B 12 ?_;exact zKk
  intro aN;refine B 7 ?_;refine PJ.again (j+1) ⟨by omega,dO.next hx (decide_eq_false gO)⟩ zM zR rfl rfl z1
 intro aj;refine B 11 ?_;exact zKk
theorem BG(d x:Cd)(cb:x.c.chs.length<=1000)(N:Nat)(b:Nat)(w:World)(hN:N<=w.heap.size)(aJ:ah eR 5 N w x.c.ca x.c.chs)(aR:w.heap[b]? =some (.cells (dF d) 101 (0,0))):Calls prog 104 #[.agg (dF x),ptr b 0] w (av w (.bool (decide (x.c.author≠d.c.author)&&x.c.chs.any (uH d.c.author)))):=by
 have aY:¬Gh.no.X b:=λh=>h;have mr:=(aM.1 aR).1;refine enter (vs:=[_,_]) func104 rfl ntmps104 rfl ?_;refine B 2 ?_;refine yX ?_;intro b2 w2 aH aF dS cE cX;refine B 7 ?_;refine rr (.int .i64 x.c.author) (aa isAgg3 rfl A0 aH aF trivial rfl) ?_;refine B 2 ?_;refine z1h ?_;refine B 2 ?_;refine nh (t:=11) rfl (λaj=>?_) (λaj=>?_)
 ·replace aj:=ya aj;refine rr (.agg (dF x)) (af isAgg101 sizeOf101 rfl A0 aH aF trivial rfl) ?_;refine B 2 ?_;refine z1h ?_;refine call call105 rfl rfl rfl (λW hS=>nSn x cb N W (aS hN (hS.links w A1).size) (aJ.up (ao _) (hS.same A1 hN zU zP)) d.c.author) ?_;refine B 5 ?_;refine ax results104 rfl A1 ?_;exact vb oC
 replace aj:=ya aj;refine B 10 ?_;refine ax results104 rfl A1 ?_;exact vb oC
noncomputable def bB (Z:Fx) (cs:List Cm):Nat->List (Dk×Int)
 |0=>[]
 |j+1=>match cs[j]? with
  |none=>bB Z cs j
  |some c=>if dk (aQ Z c)∈(bB Z cs j).map (·.1)then bB Z cs j else bB Z cs j++[(dk (aQ Z c),(j:Int))]
theorem XK{cs:List Cm}{c:Cm}(hc:cs[j]? =some c)(h:dk (aQ Z c)∈(bB Z cs j).map (·.1)):bB Z cs (j+1)=bB Z cs j:=by simp only[bB,hc,if_pos h]
theorem XL{cs:List Cm}{c:Cm}(hc:cs[j]? =some c)(h:¬dk (aQ Z c)∈(bB Z cs j).map (·.1)):bB Z cs (j+1)=bB Z cs j++[(dk (aQ Z c),(j:Int))]:=by simp only[bB,hc,if_neg h]
theorem Pr(Z:Fx)(cs:List Cm):∀j,(bB Z cs j).length<=j
 |0=>ao _
 |j+1=>by
  have:=Pr Z cs j;unfold bB;split
  ·omega
  split
  ·omega
  rw[cF,BH];omega
theorem ngk(Z:Fx)(cs:List Cm):∀j,((bB Z cs j).map (·.1)).Nodup
 |0=>List.nodup_nil
 |j+1=>by
  have:=ngk Z cs j;unfold bB;split
  ·exact this
  split
  ·exact this
  rename_i h;rw[gj,List.nodup_append];refine⟨this,by simp,?_⟩;intro a ha b hb e;simp only[eE,iD,qd]at hb;subst hb;subst e;exact h ha
theorem XM(Z:Fx)(cs:List Cm):∀(j:Nat) (p:Dk×Int),p∈bB Z cs j->∃(i:Nat) (c:Cm),p.2=(i:Int)/\i<j/\cs[i]? =some c/\p.1=dk (aQ Z c)
 |0,p,h=>by simp[bB]at h
 |j+1,p,h=>by
  have ih:=XM Z cs j p;unfold bB at h;split at h
  ·obtain⟨i,c,h1,h2,h3⟩:=ih h;exact⟨i,c,h1,by omega,h3⟩
  rename_i c hc;split at h
  ·obtain⟨i,c,h1,h2,h3⟩:=ih h;exact⟨i,c,h1,by omega,h3⟩
  rcases cO.1 h with h|h
  ·obtain⟨i,c,h1,h2,h3⟩:=ih h;exact⟨i,c,h1,by omega,h3⟩
  simp only[qd]at h;subst h;exact⟨j,c,rfl,by omega,hc,rfl⟩
def lK (l:List (Dk×Int)):List (Dk×Bool):=l.map λp=>(p.1,true)
theorem XN(l:List (Dk×Int)):(lK l).map (·.1)=l.map (·.1):=by simp[lK]
theorem nhn(l:List (Dk×Int))(k:Dk):(mh (lK l) k).getD false=decide (k∈l.map (·.1)):=by
 by_cases h:k∈l.map (·.1)
 ·cases e:mh (lK l) k with
  |none=>rw[nXj,XN]at e;exact absurd h e
  |some v=>
   obtain⟨q,hq,rfl⟩:=My.1 e;have h2:=Ps hq;obtain⟨p,_,hp⟩:=bU.1 (cC h2);have:q.2=true:=(Prod.mk.inj hp).2.symm;simp[this,h]
 have e:mh (lK l) k=none:=by rw[nXj,XN];exact h
 simp[e,h]
theorem njn{l:List (Dk×Int)}{k:Dk}(h:k∈l.map (·.1)):iR (lK l) k true=lK l:=by
 unfold iR;cases hi:fg k (lK l) 0 with
 |none=>have:=XO.1 hi;rw[XN]at this;exact absurd h this
 |some q=>
  obtain⟨i,v⟩:=q;have h2:=Ps hi;obtain⟨p,_,hp⟩:=bU.1 (cC h2);have hv:v=true:=(Prod.mk.inj hp).2.symm;subst hv;apply vg;intro n;rw[XP];split
  ·rename_i e;subst e;rw[if_pos (gD.1 h2).1,h2]
  rfl
theorem nJn{l:List (Dk×Int)}{k:Dk}{j:Int}(h:¬k∈l.map (·.1)):iR (lK l) k true=lK (l++[(k,j)]):=by
 unfold iR;cases hi:fg k (lK l) 0 with
 |none=>simp[lK]
 |some q=>
  have h2:=Ps (l:=lK l) (i:=q.1) (v:=q.2) hi;have:k∈(lK l).map (·.1):=bU.2 ⟨_,cC h2,rfl⟩;rw[XN]at this;exact absurd this h
theorem n7m(o:Option Bool):(o.map Value.bool).getD (.bool false)= .bool (o.getD false):=by cases o<;>rfl
theorem nPj{l:List (Dk×Int)}{p:Dk×Int}:(l++[p]).map (·.1)=l.map (·.1)++[p.1]:=by simp
theorem nYj{l:List (Dk×Int)}{p:Dk×Int}:(l++[p]).map (·.2)=l.map (·.2)++[p.2]:=by simp
structure Pv where
 ia:Option Addr
 ic:Nat
 ta:Option Addr
 tc:Nat
noncomputable def xq (Z:Fx) (cs:List Cm) (la:Option Addr) (lc:Nat) (p:Pv):Array Value:=#[.slice la cs.length lc,.slice p.ia ((bB Z cs cs.length).map (·.1)).length p.ic,.slice p.ta ((bB Z cs cs.length).map (·.2)).length p.tc]
structure mj (Z:Fx) (cs:List Cm) (N:Nat) (w:World) (p:Pv):Prop where
 ids:ah Tu 32 N w p.ia ((bB Z cs cs.length).map (·.1))
 at_:ah (λx=>(ai x).toArray) 1 N w p.ta ((bB Z cs cs.length).map (·.2))
theorem mj.up{cs:List Cm}{w:World}{p:Pv}(h:mj Z cs N w p)(hN:N<=N')(hw:∀k,k<N->w'.heap[k]? =w.heap[k]?):mj Z cs N' w' p:=⟨h.ids.up hN hw,h.at_.up hN hw⟩
theorem newPool(hZ:FxOk Z)(cs:List Cm)(hcs:cs.length<=1000)(dD:∀c∈cs,cI c)(N:Nat)(la:Option Addr)(lc:Nat)(w:World)(hN:N<=w.heap.size)(aJ:ah dY 73 N w la cs)(hC:∀c∈cs,dJ N w c)(hg:Glb w):Calls prog 22 #[.slice la cs.length lc] w (cu w (λp:Pv=>.agg (xq Z cs la lc p)) (λp w1=>mj Z cs w1.heap.size w1 p/\(∀q,p.ia=some q->w.heap.size<=q.block)/\∀q,p.ta=some q->w.heap.size<=q.block)):=by
 have eC:=hg.lt;refine enter (vs:=[_]) func22 rfl ntmps22 rfl ?_;refine B 2 ?_;refine aU zeroValue92 rfl rfl ?_;refine yW ?_;intro b2 cE cX;refine B 6 ?_;refine kS (i:=0) rfl sizeOf24 rfl rfl rfl rfl (aV rfl) rfl ?_;refine B 4 ?_;refine ac8 sF Value.bool rfl rfl ?_;intro b3 bV cL;replace bV:=yb bV;try simp only[bE,and_true,ne_eq]at cL
 refine B 12 ?_;refine CJ.loop (α:=((Rw×Rw)×Mq)×Nat) (λp=>[(2,ptr b2 0),(3,.map (some b3)),(10,.slice la cs.length lc),(11,.int .i64 (cs.length:Int)),(12,.int .i64 (p.2:Int))]) (λp=>[(b3,p.1.2.obj sF Value.bool (lK (bB Z cs p.2))),(b2,.cells #[.slice la cs.length lc,p.1.1.1.val ((bB Z cs p.2).map (·.1)).length,p.1.1.2.val ((bB Z cs p.2).map (·.2)).length] 92 (0,0))]++(p.1.1.1.hp eH 34 ((bB Z cs p.2).map (·.1))++(p.1.1.2.hp ai 3 ((bB Z cs p.2).map (·.2))++[]))) (λp=>[w]) (λp=>Gh.no) (λp=>p.2<=cs.length/\p.1.1.1.Fr Gh.no [w]/\p.1.1.1.Fit 32 ((bB Z cs p.2).map (·.1))/\p.1.1.2.Fr Gh.no [w]/\p.1.1.2.Fit 1 ((bB Z cs p.2).map (·.2))/\p.1.2.Ok (lK (bB Z cs p.2))) (λp=>cs.length-p.2) (((.nil,.nil),Mq.mk [] 0),0) ⟨cZ _,True.intro,rfl,True.intro,rfl,Mq.nil⟩ zR rfl rfl z1 ?_;rintro⟨⟨⟨r1,r2⟩,m⟩,j⟩ ⟨hj,jo,ew,gG,iS,hm⟩;dsimp only at hj jo ew gG iS hm ⊢;have iq:r1.ge w.heap.size:=Rw.ge_of jo A0;have dN:r2.ge w.heap.size:=Rw.ge_of gG A0;refine B 6 ?_;refine aK ?_ ?_
 ·intro aj;refine B 5 ?_;obtain⟨bo,oo,cs0,to,fp,jC,ft,hcs,ar⟩:=aJ.get zM;obtain⟨c,hc⟩:=nk cs j zM;have hcm:=cC hc;have hpl:=Pr Z cs j;refine B 2 ?_;refine rv rfl rfl rfl (cx underlying24 sizeOf99 (congrArg (λq=>some (Value.slice q cs.length lc)) jC) rfl zM zM) ?_;refine rq (.agg (dY c)) (ag isAgg99 sizeOf99 rfl A0 hcs zX (by simp only[bE,ne,eY,dX,dE,dz,and_true];(repeat' apply And.intro);all_goals first|omega|exact True.intro|exact Rw.off_ge iq zM|exact Rw.off_ge dN zM) (ni ar hc rfl)) (va (np ar hc rfl)) ?_;refine aU zeroValue99 rfl rfl ?_;refine yW ?_;intro b5 gQ gR;refine B 1 ?_;refine aZ (i:=0) rfl sizeOf99 rfl rfl rfl rfl rfl rfl ?_;refine B 5 ?_;refine call call49 rfl rfl rfl (λW hS=>n9f hZ c (dD c hcm) N W (aS hN (hS.links w A0).size) ((hC c hcm).up (ao _) (hS.same A0 hN zU zFd)) (hg.old hS A0 zU zFd)) ?_;refine rG ?_;refine yW ?_;intro b6 gS lB;refine OH ?_;refine B 4 ?_;by_cases vS:(dk (aQ Z c))∈((bB Z cs j).map (·.1))
  ·refine B 3 ?_;refine rq (.bool true) (vU (m:=m) (k:=(dk (aQ Z c))) underlying139 GK zeroValue4 hm (bL.own (i:=2) rfl) rfl rfl) ((n7m _).trans (vb ((nhn _ _).trans (decide_eq_true vS)))) ?_;refine B 9 ?_;refine Jr (i:=2) (k:=(dk (aQ Z c))) (v:=true) rfl hm underlying139 GK rfl rfl rfl rfl ?_;intro m2 aF;refine Ms ?_;refine PJ.again (((r1,r2),m2),j+1) ⟨by dsimp only;omega,jo,by rw[XK hc vS];exact ew,gG,by rw[XK hc vS];exact iS,by rw[XK hc vS];rw[njn vS]at aF;exact aF⟩ dL zR (by rw[XK hc vS,njn vS];rfl) rfl z1
  refine B 3 ?_;refine rq (.bool false) (vU (m:=m) (k:=(dk (aQ Z c))) underlying139 GK zeroValue4 hm (bL.own (i:=2) rfl) rfl rfl) ((n7m _).trans (vb ((nhn _ _).trans (decide_eq_false vS)))) ?_;refine B 4 ?_;refine ng (E':=[(2,_),(3,_),(4,_),(5,_),(6,_),(10,_),(11,_),(12,_),(13,_),(14,_),(15,_),(16,_),(17,_),(18,_),(19,_),(20,_),(21,_),(22,_)]) zR ?_;refine KW 11 [3,4,8,9] [([],some _),([0],some _),([],some _),([2],none),([1,3],none),([],some _),([5],some _),([],some _),([7],none),([6,8],none),([],some _)] [[],[0],[],[0,1,2]] (λcv L' H'=>match cv with| [none,none,none,none]=>L'=[w]/\H'=[(b6,.cells (dg (aQ Z c)) 34 (0,0)),(b5,.cells (dY c) 99 (0,0)),(b3,m.obj sF Value.bool (lK (bB Z cs j))),(b2,.cells #[.slice la cs.length lc,r1.val ((bB Z cs j).map (·.1)).length,r2.val ((bB Z cs j).map (·.2)).length] 92 (0,0))]++(r1.hp eH 34 ((bB Z cs j).map (·.1))++(r2.hp ai 3 ((bB Z cs j).map (·.2))++[]))| [none,none,some v8,none]=>∃(gF:Nat),v8= .slice (some ⟨gF,0,none⟩) 1 1/\L'=[w]/\H'=[(gF,.cells #[.int .i64 (j:Int)] 3 (0,0)),(b6,.cells (dg (aQ Z c)) 34 (0,0)),(b5,.cells (dY c) 99 (0,0)),(b3,m.obj sF Value.bool (lK (bB Z cs j))),(b2,.cells #[.slice la cs.length lc,r1.val ((bB Z cs j).map (·.1)).length,r2.val ((bB Z cs j).map (·.2)).length] 92 (0,0))]++(r1.hp eH 34 ((bB Z cs j).map (·.1))++(r2.hp ai 3 ((bB Z cs j).map (·.2))++[]))/\ad [w] gF| [some v3,none,none,none]=>∃(gm:Nat),v3= .slice (some ⟨gm,0,none⟩) 1 1/\L'=[w]/\H'=[(gm,.cells (dg (aQ Z c)) 34 (0,0)),(b6,.cells (dg (aQ Z c)) 34 (0,0)),(b5,.cells (dY c) 99 (0,0)),(b3,m.obj sF Value.bool (lK (bB Z cs j))),(b2,.cells #[.slice la cs.length lc,r1.val ((bB Z cs j).map (·.1)).length,r2.val ((bB Z cs j).map (·.2)).length] 92 (0,0))]++(r1.hp eH 34 ((bB Z cs j).map (·.1))++(r2.hp ai 3 ((bB Z cs j).map (·.2))++[]))/\ad [w] gm| [some v3,none,some v8,none]=>∃(gm:Nat) (gF:Nat),v3= .slice (some ⟨gm,0,none⟩) 1 1/\v8= .slice (some ⟨gF,0,none⟩) 1 1/\L'=[w]/\H'=[(gF,.cells #[.int .i64 (j:Int)] 3 (0,0)),(gm,.cells (dg (aQ Z c)) 34 (0,0)),(b6,.cells (dg (aQ Z c)) 34 (0,0)),(b5,.cells (dY c) 99 (0,0)),(b3,m.obj sF Value.bool (lK (bB Z cs j))),(b2,.cells #[.slice la cs.length lc,r1.val ((bB Z cs j).map (·.1)).length,r2.val ((bB Z cs j).map (·.2)).length] 92 (0,0))]++(r1.hp eH 34 ((bB Z cs j).map (·.1))++(r2.hp ai 3 ((bB Z cs j).map (·.2))++[]))/\ad [w] gm/\ad [w] gF| [some v3,some v4,none,none]=>∃(gm:Nat) (ix:Nat) (ey:Nat) (eV:List Value),v3= .slice (some ⟨gm,0,none⟩) 1 1/\v4= .slice (some ⟨ix,0,none⟩) (((bB Z cs j).map (·.1))++[(dk (aQ Z c))]).length ey/\L'=[w]/\H'=[(gm,.cells (dg (aQ Z c)) 34 (0,0)),(b6,.cells (dg (aQ Z c)) 34 (0,0)),(b5,.cells (dY c) 99 (0,0)),(b3,m.obj sF Value.bool (lK (bB Z cs j))),(b2,.cells #[.slice la cs.length lc,r1.val ((bB Z cs j).map (·.1)).length,r2.val ((bB Z cs j).map (·.2)).length] 92 (0,0))]++((Rw.row ix ey eV).hp eH 34 (((bB Z cs j).map (·.1))++[(dk (aQ Z c))])++(r2.hp ai 3 ((bB Z cs j).map (·.2))++[]))/\ad [w] gm/\(r1.isAt ix\/ad [w] ix)/\(Rw.row ix ey eV).Fit 32 (((bB Z cs j).map (·.1))++[(dk (aQ Z c))])| [some v3,some v4,some v8,none]=>∃(gm:Nat) (ix:Nat) (ey:Nat) (eV:List Value) (gF:Nat),v3= .slice (some ⟨gm,0,none⟩) 1 1/\v4= .slice (some ⟨ix,0,none⟩) (((bB Z cs j).map (·.1))++[(dk (aQ Z c))]).length ey/\v8= .slice (some ⟨gF,0,none⟩) 1 1/\L'=[w]/\H'=[(gF,.cells #[.int .i64 (j:Int)] 3 (0,0)),(gm,.cells (dg (aQ Z c)) 34 (0,0)),(b6,.cells (dg (aQ Z c)) 34 (0,0)),(b5,.cells (dY c) 99 (0,0)),(b3,m.obj sF Value.bool (lK (bB Z cs j))),(b2,.cells #[.slice la cs.length lc,r1.val ((bB Z cs j).map (·.1)).length,r2.val ((bB Z cs j).map (·.2)).length] 92 (0,0))]++((Rw.row ix ey eV).hp eH 34 (((bB Z cs j).map (·.1))++[(dk (aQ Z c))])++(r2.hp ai 3 ((bB Z cs j).map (·.2))++[]))/\ad [w] gm/\(r1.isAt ix\/ad [w] ix)/\(Rw.row ix ey eV).Fit 32 (((bB Z cs j).map (·.1))++[(dk (aQ Z c))])/\ad [w] gF| [some v3,some v4,some v8,some v9]=>∃(gm:Nat) (ix:Nat) (ey:Nat) (eV:List Value) (gF:Nat) (vV:Nat) (pd:Nat) (qK:List Value),v3= .slice (some ⟨gm,0,none⟩) 1 1/\v4= .slice (some ⟨ix,0,none⟩) (((bB Z cs j).map (·.1))++[(dk (aQ Z c))]).length ey/\v8= .slice (some ⟨gF,0,none⟩) 1 1/\v9= .slice (some ⟨vV,0,none⟩) (((bB Z cs j).map (·.2))++[(j:Int)]).length pd/\L'=[w]/\H'=[(gF,.cells #[.int .i64 (j:Int)] 3 (0,0)),(gm,.cells (dg (aQ Z c)) 34 (0,0)),(b6,.cells (dg (aQ Z c)) 34 (0,0)),(b5,.cells (dY c) 99 (0,0)),(b3,m.obj sF Value.bool (lK (bB Z cs j))),(b2,.cells #[.slice la cs.length lc,r1.val ((bB Z cs j).map (·.1)).length,r2.val ((bB Z cs j).map (·.2)).length] 92 (0,0))]++((Rw.row ix ey eV).hp eH 34 (((bB Z cs j).map (·.1))++[(dk (aQ Z c))])++((Rw.row vV pd qK).hp ai 3 (((bB Z cs j).map (·.2))++[(j:Int)])++[]))/\ad [w] gm/\(r1.isAt ix\/ad [w] ix)/\(Rw.row ix ey eV).Fit 32 (((bB Z cs j).map (·.1))++[(dk (aQ Z c))])/\ad [w] gF/\(r2.isAt vV\/ad [w] vV)/\(Rw.row vV pd qK).Fit 1 (((bB Z cs j).map (·.2))++[(j:Int)])|_=>False) zT ⟨rfl,rfl⟩ zT zT zT zT zT zT rfl (qc (by exact λcv L' H' _ _ hP=>X.val rfl rfl (ak underlying92 rfl sizeOf41 rfl) R2) (qc zcx (qc zcx (qk (qk (qc (by exact λcv L' H' _ _ hP=>X.val rfl rfl (ak underlying92 rfl sizeOf44 rfl) R2) (qc zcx (qc XQ (qk (qk (qc (by exact λcv L' H' _ _ hP=>X.val rfl rfl (ak underlying92 rfl sizeOf41 rfl) R2) (qn)))))))))))) ?_ ?_
  ·refine nc rfl rfl rfl rfl ?_ ?_
   ·intro cv L' H' hl hr hP F Q' hk;obtain⟨x3,x4,x8,x9,rfl⟩:=qp hl;rcases x3 with _|v3<;>rcases x4 with _|v4<;>rcases x8 with _|v8<;>rcases x9 with _|v9<;>try exact False.elim hP
    ·obtain⟨rfl,rfl⟩:=hP;refine zvh ?_;intro gm ha ho;exact OJ.done (hk _ _ _ ⟨gm,rfl,rfl,rfl,ha⟩)
    ·obtain⟨gF,rfl,rfl,rfl,jK⟩:=hP;refine zvh ?_;intro gm ha ho;refine OJ.perm (List.Perm.swap _ _ _) ?_;exact OJ.done (hk _ _ _ ⟨gm,gF,rfl,rfl,rfl,rfl,ha,jK⟩)
    ·exact ec
    ·exact ec
    ·exact ec
    ·exact ec
    exact ec
   refine nc rfl rfl rfl rfl ?_ ?_
   ·intro cv L' H' hl hr hP F Q' hk;obtain⟨x3,x4,x8,x9,rfl⟩:=qp hl;rcases x3 with _|v3<;>rcases x4 with _|v4<;>rcases x8 with _|v8<;>rcases x9 with _|v9<;>try exact False.elim hP
    ·exact ec
    ·exact ec
    ·obtain⟨gm,rfl,rfl,rfl,iT⟩:=hP;refine oY (r:=r1) (xs:=((bB Z cs j).map (·.1))) (zs:=[(dk (aQ Z c))]) (enc:=eH) (m:=32) (H0:=[(gm,.cells (dg (aQ Z c)) 34 (0,0)),(b6,.cells (dg (aQ Z c)) 34 (0,0)),(b5,.cells (dY c) 99 (0,0)),(b3,m.obj sF Value.bool (lK (bB Z cs j))),(b2,.cells #[.slice la cs.length lc,r1.val ((bB Z cs j).map (·.1)).length,r2.val ((bB Z cs j).map (·.2)).length] 92 (0,0))]) (H1:=r2.hp ai 3 ((bB Z cs j).map (·.2))++[]) rfl nnm Jp rfl rfl rfl rfl (dt.one (z:=(dk (aQ Z c))) Jp n3h underlying41 (bL.own (i:=0) rfl)) ew jo z1 K7 ?_;intro ix ey eV iU ez;exact OJ.done (hk _ _ _ ⟨gm,ix,ey,eV,rfl,rfl,rfl,rfl,iT,iU,ez⟩)
    ·obtain⟨gm,gF,rfl,rfl,rfl,rfl,iT,jK⟩:=hP;refine oY (r:=r1) (xs:=((bB Z cs j).map (·.1))) (zs:=[(dk (aQ Z c))]) (enc:=eH) (m:=32) (H0:=[(gF,.cells #[.int .i64 (j:Int)] 3 (0,0)),(gm,.cells (dg (aQ Z c)) 34 (0,0)),(b6,.cells (dg (aQ Z c)) 34 (0,0)),(b5,.cells (dY c) 99 (0,0)),(b3,m.obj sF Value.bool (lK (bB Z cs j))),(b2,.cells #[.slice la cs.length lc,r1.val ((bB Z cs j).map (·.1)).length,r2.val ((bB Z cs j).map (·.2)).length] 92 (0,0))]) (H1:=r2.hp ai 3 ((bB Z cs j).map (·.2))++[]) rfl nnm Jp rfl rfl rfl rfl (dt.one (z:=(dk (aQ Z c))) Jp n3h underlying41 (bL.own (i:=1) rfl)) ew jo z1 K7 ?_;intro ix ey eV iU ez;exact OJ.done (hk _ _ _ ⟨gm,ix,ey,eV,gF,rfl,rfl,rfl,rfl,rfl,iT,iU,ez,jK⟩)
    ·exact ec
    ·exact ec
    exact ec
   refine nc rfl rfl rfl rfl ?_ ?_
   ·intro cv L' H' hl hr hP F Q' hk;obtain⟨x3,x4,x8,x9,rfl⟩:=qp hl;rcases x3 with _|v3<;>rcases x4 with _|v4<;>rcases x8 with _|v8<;>rcases x9 with _|v9<;>try exact False.elim hP
    ·obtain⟨rfl,rfl⟩:=hP;refine vo ?_;intro gF ha ho;exact OJ.done (hk _ _ _ ⟨gF,rfl,rfl,rfl,ha⟩)
    ·exact ec
    ·obtain⟨gm,rfl,rfl,rfl,iT⟩:=hP;refine vo ?_;intro gF ha ho;exact OJ.done (hk _ _ _ ⟨gm,gF,rfl,rfl,rfl,rfl,iT,ha⟩)
    ·exact ec
    ·obtain⟨gm,ix,ey,eV,rfl,rfl,rfl,rfl,iT,iU,ez⟩:=hP;refine vo ?_;intro gF ha ho;exact OJ.done (hk _ _ _ ⟨gm,ix,ey,eV,gF,rfl,rfl,rfl,rfl,rfl,iT,iU,ez,ha⟩)
    ·exact ec
    exact ec
   refine nc rfl rfl rfl rfl ?_ ?_
   ·intro cv L' H' hl hr hP F Q' hk;obtain⟨x3,x4,x8,x9,rfl⟩:=qp hl;rcases x3 with _|v3<;>rcases x4 with _|v4<;>rcases x8 with _|v8<;>rcases x9 with _|v9<;>try exact False.elim hP
    ·exact ec
    ·exact ec
    ·exact ec
    ·exact ec
    ·exact ec
    ·obtain⟨gm,ix,ey,eV,gF,rfl,rfl,rfl,rfl,rfl,iT,iU,ez,jK⟩:=hP;refine oY (r:=r2) (xs:=((bB Z cs j).map (·.2))) (zs:=[(j:Int)]) (enc:=ai) (m:=1) (H0:=[(gF,.cells #[.int .i64 (j:Int)] 3 (0,0)),(gm,.cells (dg (aQ Z c)) 34 (0,0)),(b6,.cells (dg (aQ Z c)) 34 (0,0)),(b5,.cells (dY c) 99 (0,0)),(b3,m.obj sF Value.bool (lK (bB Z cs j))),(b2,.cells #[.slice la cs.length lc,r1.val ((bB Z cs j).map (·.1)).length,r2.val ((bB Z cs j).map (·.2)).length] 92 (0,0))]++(Rw.row ix ey eV).hp eH 34 (((bB Z cs j).map (·.1))++[(dk (aQ Z c))])) (H1:=[]) rfl DJ nr rfl rfl rfl rfl (dt.one (z:=(j:Int)) nr DL underlying44 (bL.own (i:=0) rfl)) iS gG z1 K7 ?_;intro vV pd qK nt lj;exact OJ.done (hk _ _ _ ⟨gm,ix,ey,eV,gF,vV,pd,qK,rfl,rfl,rfl,rfl,rfl,rfl,iT,iU,ez,jK,nt,lj⟩)
    exact ec
   exact nn
  intro cv L' H' hl hr hP;obtain⟨x3,x4,x8,x9,rfl⟩:=qp hl;rcases x3 with _|v3<;>rcases x4 with _|v4<;>rcases x8 with _|v8<;>rcases x9 with _|v9
  ·exact aA
  ·exact aA
  ·exact aA
  ·exact aA
  ·exact aA
  ·exact aA
  ·exact aA
  ·exact aA
  ·exact aA
  ·exact aA
  ·exact aA
  ·exact aA
  ·exact aA
  ·exact aA
  ·exact aA
  obtain⟨gm,ix,ey,eV,gF,vV,pd,qK,rfl,rfl,rfl,rfl,rfl,rfl,iT,iU,ez,jK,nt,lj⟩:=hP;simp only[ad]at iT jK;refine kS (i:=5) rfl sizeOf41 rfl rfl rfl rfl (aV rfl) rfl ?_;refine B 1 ?_;refine kS (i:=5) rfl sizeOf44 rfl rfl rfl rfl (aV rfl) rfl ?_;refine B 4 ?_;refine rv rfl rfl rfl (aP (i:=2) rfl isAgg34 sizeOf34 rfl rfl) ?_;refine Jr (i:=4) (k:=(dk (aQ Z c))) (v:=true) rfl hm underlying139 GK rfl rfl rfl rfl ?_;intro m2 aF;refine Ms ?_;refine FI ?_;refine PJ.again (((Rw.row ix ey eV,Rw.row vV pd qK),m2),j+1) ⟨by dsimp only;omega,iU.elim (λh=>Rw.Fr_at jo h) (λh=>.inr h),by rw[XL hc vS,nPj];exact ez,nt.elim (λh=>Rw.Fr_at gG h) (λh=>.inr h),by rw[XL hc vS,nYj];exact lj,by rw[XL hc vS,<-nJn vS];exact aF⟩ dL zR (by rw[XL hc vS,nPj,nYj,<-nJn vS];rfl) rfl z1
 intro aj;refine B 6 ?_;have hpl:=Pr Z cs j;have hje:j=cs.length:=by omega
 subst hje;refine B 2 ?_;refine aZ (i:=1) rfl sizeOf92 rfl rfl rfl rfl rfl (by cases r1<;>cases r2<;>rfl) ?_;refine B 3 ?_;refine bH (.inl rfl) results22 (RS.wA (i:=1) rfl isAgg92 sizeOf92 rfl (aV rfl) RS.n) λW hS=>?_;have BI:r1.At eH 34 ((bB Z cs cs.length).map (·.1)) W:=by
  cases r1 with
  |nil=>trivial
  |row b cap sp=>exact hS.own (b,_) vv
 have Mz:r2.At ai 3 ((bB Z cs cs.length).map (·.2)) W:=by
  cases r2 with
  |nil=>trivial
  |row b cap sp=>exact hS.own (b,_) vv
 obtain⟨a1,c1,rV,BJ⟩:=Rw.sl Jp ew BI (ao W.heap.size);obtain⟨a2,c2,zH,hs2⟩:=Rw.sl nr iS Mz (ao W.heap.size);refine⟨⟨a1,c1,a2,c2⟩,?_,?_,⟨BJ,hs2⟩,Rw.val_new iq rV,Rw.val_new dN zH⟩
 ·show Ending.returned (.agg #[.slice la cs.length lc,r1.val _,r2.val _])=_;rw[rV,zH];rfl
 exact(hS.links w A0).below (λk hk hx=>by rcases hx with hx|hx;(exact hx);simp only[dz,fj,eY,dX,dE,gj,eE,iD,cO,cP,fG,or_false]at hx;rcases hx with hx|hx|hx|hx;(omega);(omega);(have:=Rw.mem_ge iq hx;omega);(have:=Rw.mem_ge dN hx;omega))
structure CO {α:Type} (cf:α->α->Int):Prop where
 anti:∀x y,cf x y= -cf y x
 trans:∀x y z,cf x y<=0->cf y z<=0->cf x z<=0
theorem CO.swo{α:Type}{cf:α->α->Int}(h:CO cf):Go.Sort.SWO (Go.Proofs.ltOf cf):=by
 refine⟨λx=>?_,λx y z h1 h2=>?_,λx y z h1 h2=>?_⟩<;>simp only[Go.Proofs.ltOf,decide_eq_true_eq,decide_eq_false_iff_not]at*
 ·have:=h.anti x x;omega
 ·have a1:=h.anti x z;have a2:=h.anti y z;have a3:=h.anti z y;have a4:=h.anti x y
  have t1:=h.trans x y z zM zM;by_cases e:cf x z=0
  ·have t2:=h.trans z x y (by have:=h.anti z x;omega) zM;have:=h.anti y z;omega
  omega
 have a1:=h.anti x y;have a2:=h.anti y z;have a3:=h.anti x z
 have:=h.trans z y x zM zM;omega
def xr {α:Type} (f g:α->α->Int) (x y:α):Int:=if f x y=0 then g x y else f x y
theorem CO.lt{α:Type}{cf:α->α->Int}(h:CO cf){x y z:α}(h1:cf x y<=0)(h2:cf y z<=0)(h3:cf x y≠0\/cf y z≠0):cf x z≠0:=by
 intro e;have a1:=h.anti x z;have a2:=h.anti y z;have a3:=h.anti x y
 rcases h3 with h3|h3
 ·have:=h.trans y z x h2 zM;omega
 have:=h.trans z x y zM h1;omega
theorem CO.lex{α:Type}{f g:α->α->Int}(hf:CO f)(hg:CO g):CO (xr f g):=by
 refine⟨λx y=>?_,λx y z h1 h2=>?_⟩
 ·have a:=hf.anti x y;have b:=hg.anti x y
  unfold xr;by_cases e:f x y=0
  ·rw[if_pos e,if_pos zM];exact b
  rw[if_neg e,if_neg zM];exact a
 have a:=hf.lt (x:=x) (y:=y) (z:=z);have t:=hf.trans x y z;have u:=hg.trans x y z
 unfold xr at *;by_cases e1:f x y=0<;>by_cases e2:f y z=0<;>simp only[e1,e2,if_true,if_false]at h1 h2
 ·have z0:f x z=0:=by
   have t1:=t zM zM;have t2:=hf.trans z y x (by have:=hf.anti z y;omega) (by have:=hf.anti y x;omega);have:=hf.anti x z;omega
  rw[if_pos z0];exact u h1 h2
 ·rw[if_neg (a zM zM (.inr e2))];exact t zM zM
 ·rw[if_neg (a zM zM (.inl e1))];exact t zM zM
 rw[if_neg (a zM zM (.inl e1))];exact t zM zM
theorem CO.key{α β:Type}{cf:β->β->Int}(h:CO cf)(k:α->β):CO λx y=>cf (k x) (k y):=⟨λx y=>h.anti _ _,λx y z=>h.trans _ _ _⟩
theorem CO.int:CO cB:=by
 refine⟨λx y=>?_,λx y z h1 h2=>?_⟩
 ·unfold cB;(repeat' split)<;>omega
 unfold cB at *;(repeat' split)<;>simp_all<;>omega
theorem Js:∀(a b:List UInt8),Go.Lib.compareBytes a b=0->a=b
 | [],[],_=>rfl
 | [],_::_,h=>by simp[Go.Lib.compareBytes]at h
 |_::_,[],h=>by simp[Go.Lib.compareBytes]at h
 |x::a,y::b,h=>by
  unfold Go.Lib.compareBytes at h;by_cases h1:x<y
  ·simp[h1]at h
  by_cases h2:y<x
  ·simp[h1,h2]at h
  simp only[h1,h2,if_false]at h;have e:x=y:=UInt8.le_antisymm (UInt8.not_lt.1 h2) (UInt8.not_lt.1 h1);rw[e,Js a b h]
theorem XR(x y:UInt8):x<y\/x=y\/y<x:=by
 by_cases h1:x<y
 ·exact .inl h1
 by_cases h2:y<x
 ·exact .inr (.inr h2)
 exact .inr (.inl (UInt8.le_antisymm (UInt8.not_lt.1 h2) (UInt8.not_lt.1 h1)))
theorem Tx{x y:UInt8}(a b:List UInt8)(h:x<y):Go.Lib.compareBytes (x::a) (y::b)= -1:=by unfold Go.Lib.compareBytes;rw[if_pos h]
theorem Ty{x y:UInt8}(a b:List UInt8)(h:y<x):Go.Lib.compareBytes (x::a) (y::b)=1:=by unfold Go.Lib.compareBytes;rw[if_neg (λk=>UInt8.lt_irrefl x (UInt8.lt_trans k h)),if_pos h]
theorem nwj(x:UInt8)(a b:List UInt8):Go.Lib.compareBytes (x::a) (x::b)=Go.Lib.compareBytes a b:=by conv=>lhs;unfold Go.Lib.compareBytes;rw[if_neg (UInt8.lt_irrefl x),if_neg (UInt8.lt_irrefl x)]
theorem nCn:∀a b:List UInt8,Go.Lib.compareBytes a b= -Go.Lib.compareBytes b a
 | [],[]=>rfl
 | [],_::_=>rfl
 |_::_,[]=>rfl
 |x::a,y::b=>by
  rcases XR x y with h|rfl|h
  ·rw[Tx _ _ h,Ty _ _ h]
  ·rw[nwj,nwj];exact nCn a b
  rw[Ty _ _ h,Tx _ _ h];rfl
theorem nem:∀a b c:List UInt8,Go.Lib.compareBytes a b<=0->Go.Lib.compareBytes b c<=0->Go.Lib.compareBytes a c<=0
 | [],_,[],_,_=>by decide
 | [],_,_::_,_,_=>by show(-1:Int)<=0;decide
 |_::_,[],_,h1,_=>absurd (show(1:Int)<=0 from h1) zQ
 |_::_,_::_,[],_,h2=>absurd (show(1:Int)<=0 from h2) zQ
 |x::a,y::b,z::c,h1,h2=>by
  rcases XR x y with h|rfl|h
  ·rcases XR y z with k|rfl|k
   ·rw[Tx _ _ (UInt8.lt_trans h k)];decide
   ·rw[Tx _ _ h];decide
   rw[Ty _ _ k]at h2;exact absurd h2 zQ
  ·rcases XR x z with k|rfl|k
   ·rw[Tx _ _ k];decide
   ·rw[nwj]at h1 h2 ⊢;exact nem a b c h1 h2
   rw[Ty _ _ k]at h2;exact absurd h2 zQ
  rw[Ty _ _ h]at h1;exact absurd h1 zQ
theorem CO.bytes:CO Go.Lib.compareBytes:=⟨nCn,nem⟩
def ky3 (x y:Int×Int×List UInt8):Int:=xr (λx y=>cB x.1 y.1) (xr (λx y=>cB x.2.1 y.2.1) (λx y=>Go.Lib.compareBytes x.2.2 y.2.2)) x y
theorem CO.ky3:CO ky3:=(CO.int.key (λx:Int×Int×List UInt8=>x.1)).lex ((CO.int.key (λx:Int×Int×List UInt8=>x.2.1)).lex (CO.bytes.key (λx:Int×Int×List UInt8=>x.2.2)))
theorem MA{x y:Int×Int×List UInt8}(h:ky3 x y=0):x.2.2=y.2.2:=by
 unfold Px.ky3 xr at h;split at h
 ·split at h
  ·exact Js _ _ h
  rename_i h1;exact absurd h h1
 rename_i h1;exact absurd h h1
theorem n2j{le:Nat->Nat->Bool}:∀{l l':List Nat},(∀a∈l,∀b∈l,le a b=true->le b a=true->a=b)->l.Pairwise (λa b=>le a b=true)->l'.Pairwise (λa b=>le a b=true)->l.Perm l'->l=l'
 | [],l',_,_,_,hp=>(List.nil_perm.1 hp).symm▸rfl
 |a::l,[],_,_,_,hp=>absurd hp.length_eq z1
 |a::l,b::l',ha,h1,h2,hp=>by
  have sG:a=b:=by
   have m1:a∈b::l':=hp.mem_iff.1 A0;have m2:b∈a::l:=hp.mem_iff.2 A0;rcases cP.1 m1 with e|m1
   ·exact e
   rcases cP.1 m2 with e|m2'
   ·exact e.symm
   exact ha a A0 b m2 ((List.pairwise_cons.1 h1).1 b m2') ((List.pairwise_cons.1 h2).1 a m1)
  subst sG;have tv:=hp.cons_inv;rw[n2j (λx hx y hy=>ha x (.tail _ hx) y (.tail _ hy)) (List.pairwise_cons.1 h1).2 (List.pairwise_cons.1 h2).2 tv]
section
open Go.Proofs Go.Shelf Go.Lib Go.Sort
theorem Tz(x y:Cd)(W:World):Calls prog 227 #[.agg (mD x).toArray,.agg (mD y).toArray] W λe w'=>e= .returned (.int .i64 (cB x.since y.since))/\∃q Bj,w'=grow (W.drewN q) Bj:=by
 have kz:=λW'=>vM x.since y.since W';generalize cB x.since y.since=r at kz ⊢;unfold mD
 go_enter func227,ntmps227
 go_wp2_with (go_at_call 125;refine(kz _).mono ?_;rintro e w' ⟨rfl,rfl⟩)
 go_ret
 exact Xu
theorem TA(x y:Cd)(W:World):Calls prog 228 #[.agg (mD x).toArray,.agg (mD y).toArray] W λe w'=>e= .returned (.int .i64 (cB x.c.author y.c.author))/\∃q Bj,w'=grow (W.drewN q) Bj:=by
 have kz:=λW'=>vM x.c.author y.c.author W';generalize cB x.c.author y.c.author=r at kz ⊢;unfold mD
 go_enter func228,ntmps228
 go_wp2_with (go_at_call 125;refine(kz _).mono ?_;rintro e w' ⟨rfl,rfl⟩)
 go_ret
 exact Xu
end
theorem nLg{P:Program}{W:World}{b:Nat}:∀(zs:List Int) (off:Nat) (acc:List UInt8),(∀(i:Nat) (h:i<zs.length),W.cell? ⟨b,off+i,none⟩=some (.int .u8 zs[i]))->(Extern.Bytes.loadBytes ⟨b,off,none⟩ zs.length ⟨acc.toArray⟩).run P W= .ok ⟨(acc++zs.map λz=>z.toNat.toUInt8).toArray⟩ W
 | [],off,acc,_=>by simp[Extern.Bytes.loadBytes]
 |z::zs,off,acc,h=>by
  have h0:W.cell? ⟨b,off,none⟩=some (.int .u8 z):=h 0 z1;have ih:=nLg (P:=P) (W:=W) (b:=b) zs (off+1) (acc++[z.toNat.toUInt8]) (λi hi=>by
   have:=h (i+1) Jt;rw[show off+1+i=off+(i+1) by omega];simpa using this)
  have e:(ByteArray.mk acc.toArray).push z.toNat.toUInt8=⟨(acc++[z.toNat.toUInt8]).toArray⟩:=by simp[ByteArray.push]
  have ha:(⟨b,off,none⟩:Addr).add 1=⟨b,off+1,none⟩:=rfl;simp only[dW,Extern.Bytes.loadBytes,Sem.run_bind];rw[show(load ⟨b,off,none⟩:Sem Value).run P W= .ok (.int .u8 z) W by simp[load,Sem.run,h0]];simp only[Result.andThen,e,ha];rw[ih];simp
section
open Go.Lib Go.Sort
theorem BK{P:Program}{b1 o1 c1 b2 o2 c2:Nat}{xs ys:List Int}(h1:∀(i:Nat) (h:i<xs.length),W.cell? ⟨b1,o1+i,none⟩=some (.int .u8 xs[i]))(h2:∀(i:Nat) (h:i<ys.length),W.cell? ⟨b2,o2+i,none⟩=some (.int .u8 ys[i])):(Extern.BytealgCompare.compare #[.slice (some ⟨b1,o1,none⟩) xs.length c1,.slice (some ⟨b2,o2,none⟩) ys.length c2]).run P W= .ok (.int .i64 (compareBytes (xs.map λz=>z.toNat.toUInt8) (ys.map λz=>z.toNat.toUInt8))) W:=by
 change Sem.run P (do pure (goInt (Extern.BytealgCompare.cmp (<-Extern.Bytes.bytesOf (.slice (some ⟨b1,o1,none⟩) xs.length c1)) (<-Extern.Bytes.bytesOf (.slice (some ⟨b2,o2,none⟩) ys.length c2))))) W=_;have e1:=nLg (P:=P) (W:=W) xs o1 [] h1;have e2:=nLg (P:=P) (W:=W) ys o2 [] h2;simp only[Extern.Bytes.bytesOf,Sem.run_bind,Sem.run_pure,Result.andThen];rw[show ByteArray.empty=⟨(#[]:Array UInt8)⟩from rfl,e1];simp only[dX];rw[e2];simp only[dX];rw[cmp_eq];rfl
theorem noj{b1 o1 c1 b2 o2 c2:Nat}{xs ys:List Int}(h1:∀(i:Nat) (h:i<xs.length),W.cell? ⟨b1,o1+i,none⟩=some (.int .u8 xs[i]))(h2:∀(i:Nat) (h:i<ys.length),W.cell? ⟨b2,o2+i,none⟩=some (.int .u8 ys[i])):Calls prog 230 #[.slice (some ⟨b1,o1,none⟩) xs.length c1,.slice (some ⟨b2,o2,none⟩) ys.length c2] W λe w'=>e= .returned (.int .i64 (compareBytes (xs.map λz=>z.toNat.toUInt8) (ys.map λz=>z.toNat.toUInt8)))/\w'=W:=by
 have hr:=BK (P:=prog) (c1:=c1) (c2:=c2) h1 h2;clear h1 h2
 go_enter func230,ntmps230
 go_wp2
 rw[run_callFunc_extern func282 zT zT zT (e:=Extern.BytealgCompare.compare) zT,hr];simp only[Result.andThen];rw[Oper.upon_value]
 go_wp2
 go_ret
 exact⟨rfl,rfl⟩
theorem TB{o2:Obj}{X:Array Value}{t:Nat}(q:Nat)(h:X[k]? =some v):(((W.alloc (.cells X t)).alloc o2).drewN q).cell? ⟨W.heap.size,k,none⟩=some v:=by
 rw[alloc_eq_grow,alloc_eq_grow,grow_grow];have:(W.heap++(#[.cells X t]++#[o2]))[W.heap.size]? =some (.cells X t):=by rw[Array.getElem?_append_right (ao _)];simp
 simp only[World.cell?,World.drewN,grow,this];exact h
theorem TC{o1:Obj}{Y:Array Value}{t:Nat}(q:Nat)(h:Y[k]? =some v):(((W.alloc o1).alloc (.cells Y t)).drewN q).cell? ⟨W.heap.size+1,k,none⟩=some v:=by
 rw[alloc_eq_grow,alloc_eq_grow,grow_grow];have:(W.heap++(#[o1]++#[.cells Y t]))[W.heap.size+1]? =some (.cells Y t):=by rw[Array.getElem?_append_right zM];simp
 simp only[World.cell?,World.drewN,grow,this];exact h
theorem TD(X Y:Array Value)(xs ys:List Int)(hx:xs.length=32)(hy:ys.length=32)(hX:∀(i:Nat) (h:i<xs.length),X[74+i]? =some (.int .u8 xs[i]))(hY:∀(i:Nat) (h:i<ys.length),Y[74+i]? =some (.int .u8 ys[i]))(W:World):Calls prog 229 #[.agg X,.agg Y] W λe w'=>e= .returned (.int .i64 (compareBytes (xs.map λz=>z.toNat.toUInt8) (ys.map λz=>z.toNat.toUInt8)))/\∃q Bj,w'=grow (W.drewN q) Bj:=by
 have kz:∀q,Calls prog 230 #[.slice (some ⟨W.heap.size,74,none⟩) 32 32,.slice (some ⟨W.heap.size+1,74,none⟩) 32 32] (((W.alloc (.cells X 101)).alloc (.cells Y 101)).drewN q) λe w'=>e= .returned (.int .i64 (compareBytes (xs.map λz=>z.toNat.toUInt8) (ys.map λz=>z.toNat.toUInt8)))/\w'=((W.alloc (.cells X 101)).alloc (.cells Y 101)).drewN q:=by
  intro q;have:=noj (W:=((W.alloc (.cells X 101)).alloc (.cells Y 101)).drewN q) (b1:=W.heap.size) (o1:=74) (c1:=32) (b2:=W.heap.size+1) (o2:=74) (c2:=32) (xs:=xs) (ys:=ys) (λi h=>TB _ (by simp[hX i h])) (λi h=>TC _ (by simp[hY i h]));rw[hx,hy]at this;exact this
 generalize compareBytes (xs.map λz=>z.toNat.toUInt8) (ys.map λz=>z.toNat.toUInt8)=c at kz ⊢;clear hX hY
 go_enter func229,ntmps229
 go_wp2
 go_region_with (go_at_call 230;refine(kz _).mono ?_;rintro e w' ⟨rfl,rfl⟩)
 go_wp2
 go_ret
 exact⟨rfl,_,_,by rw[alloc_eq_grow,alloc_eq_grow,grow_grow];rfl⟩
end
theorem BM(f:Nat->Int):((dk f).1.map λz=>z.toNat.toUInt8)=dn f:=rfl
theorem TE(x y:Cd)(W:World):Calls prog 229 #[.agg (dF x),.agg (dF y)] W λe w'=>e= .returned (.int .i64 (Go.Lib.compareBytes (dn x.id) (dn y.id)))/\Gz W w':=by
 rw[<-BM,<-BM];have key:∀(z:Cd) (i:Nat) (h:i<(dk z.id).1.length),(dF z)[74+i]? =some (.int .u8 (dk z.id).1[i]):=by
  intro z i h;have h2:i<32:=by rw[(dk z.id).2]at h;exact h
  have e1:((dk z.id).1.map (Value.int .u8))[i]? =some (.int .u8 ((dk z.id).1[i]'h)):=by rw[ra,gV h];rfl
  have e2:(dg z.id)[i]? =((dk z.id).1.map (Value.int .u8))[i]? :=by rw[<-GG,Dr];rfl
  exact(uJ (k:=74) (n:=32) (r:=dg z.id) rfl i h2).trans (e2.trans e1)
 exact TD (dF x) (dF y) (dk x.id).1 (dk y.id).1 (dk x.id).2 (dk y.id).2 (key x) (key y) W
def XS:Nat->Nat
 |0=>227
 |1=>228
 |_=>229
def MB (w:World) (b:Nat):Prop:=∃b',w.heap[b]? =some (.cells #[.slice (some ⟨b',0,none⟩) 3 3] 372 (0,0))/\w.heap[b']? =some (.cells #[.func (.func 227) #[] #[],.func (.func 228) #[] #[],.func (.func 229) #[] #[]] 257 (0,0))
theorem MC(j:Nat)(h:j<3):(#[Value.func (.func 227) #[] #[],.func (.func 228) #[] #[],.func (.func 229) #[] #[]]:Array Value)[0+((j:Int)).toNat*1]? =some (.func (.func (XS j)) #[] #[]):=by
 match j,h with
 |0,_=>rfl
 |1,_=>rfl
 |2,_=>rfl
theorem GL(j:Nat)(h:j<3):dR prog (XS j):=by
 match j,h with
 |0,_=>exact call227
 |1,_=>exact call228
 |2,_=>exact call229
def xt (x y:Cd):Nat->Int
 |0=>cB x.since y.since
 |1=>cB x.c.author y.c.author
 |_=>Go.Lib.compareBytes (dn x.id) (dn y.id)
theorem TF(x y:Cd)(j:Nat)(h:j<3)(W:World):Calls prog (XS j) #[.agg (dF x),.agg (dF y)] W λe w'=>e= .returned (.int .i64 (xt x y j))/\Gz W w':=by
 match j,h with
 |0,_=>exact Tz x y W
 |1,_=>exact TA x y W
 |2,_=>exact TE x y W
def kyD (d:Cd):Int×Int×List UInt8:=(d.since,d.c.author,dn d.id)
def rkI (x y:Cd):Int:=if cB x.since y.since=0 then(if cB x.c.author y.c.author=0 then Go.Lib.compareBytes (dn x.id) (dn y.id)else cB x.c.author y.c.author)else cB x.since y.since
theorem MD{x y:Cd}(h:∀i,i<j->xt x y i=0)(hj:j<3)(hn:¬xt x y j=0):xt x y j=rkI x y:=by
 have h0:=h 0;have h1:=h 1
 unfold rkI;simp only[xt]at h0 h1
 match j,hj with
 |0,_=>simp only[xt]at hn ⊢;rw[if_neg hn]
 |1,_=>simp only[xt]at hn ⊢;rw[if_pos (h0 zM),if_neg hn]
 |2,_=>simp only[xt]at hn ⊢;rw[if_pos (h0 zM),if_pos (h1 zM)]
theorem GM{x y:Cd}(h:∀i,i<3->xt x y i=0):0=rkI x y:=by
 have h0:=h 0 zM;have h1:=h 1 zM;have h2:=h 2 zM
 simp only[xt]at h0 h1 h2;unfold rkI;rw[if_pos h0,if_pos h1,h2]
theorem adh(x y:Cd)(b:Nat)(w:World)(hr:MB w b):Calls prog 281 #[.agg (dF x),.agg (dF y),ptr b 0] w λe w'=>e= .returned (.int .i64 (rkI x y))/\Gz w w':=by
 obtain⟨b2,hb,aH⟩:=hr;refine ME (vs:=[_,_,_]) func281 rfl ntmps281 rfl ?_;refine Ju ?_;refine TG rfl rfl rfl (λW0 h0=>?_);refine TG rfl rfl rfl (λW1 h1=>?_);obtain⟨W2,h2⟩:∃W2,W2=W1.alloc (.cells (dF y) 101 (0,0)):=⟨_,rfl⟩;have gA:Gz w W1:=by rw[h1,h0];exact Gz.alloc _ _
 have dS:Gz w W2:=by rw[h2];exact gA.trans (Gz.alloc _ _)
 have o8:W2.heap[W1.heap.size]? =some (.cells (dF y) 101 (0,0)):=by rw[h2];exact heap_alloc_new _ _
 have TH:W2.heap[W0.heap.size]? =some (.cells (dF x) 101 (0,0)):=by
  have e:W1.heap[W0.heap.size]? =some (.cells (dF x) 101 (0,0)):=by rw[h1];exact heap_alloc_new _ _
  rw[h2,(TI W1 _).block _ (aM.1 e).1];exact e
 have bY:∀{W:World},Gz W2 W->St Gh.no [W2,w] [] W:=λ{W} h=>TJ (by
  intro v hv;simp only[cP,fG,or_false]at hv;rcases hv with rfl|rfl
  ·exact h.below
  exact(dS.trans h).below)
 refine pe (L:=[W2,w]) (λW e=>by rw[e];have:=bY (Gz.refl W2);rw[h2]at this ⊢;exact this) rfl rfl rfl (kg rfl) ?_;refine D2 ?_;refine CX.seq ?_;refine Ju ?_;refine pe (L:=[W2,w]) (λW e=>by rw[e];have:=bY (Gz.refl W2);rw[h2]at this ⊢;exact this) rfl rfl rfl (aa (v:=.slice (some ⟨b2,0,none⟩) 3 3) isAgg372 rfl A1 hb zX trivial rfl) ?_;refine pe (L:=[W2,w]) (λW e=>by rw[e];have:=bY (Gz.refl W2);rw[h2]at this ⊢;exact this) rfl rfl rfl (iK underlying372 rfl) ?_;refine pe (L:=[W2,w]) (λW e=>by rw[e];have:=bY (Gz.refl W2);rw[h2]at this ⊢;exact this) rfl rfl rfl (fW rfl) ?_;refine D2 ?_;refine CX.block ?_;refine CX.loop (α:=Nat×World) (λp=>[(2,ptr b 0),(3,ptr W0.heap.size 0),(4,ptr W1.heap.size 0),(9,.slice (some ⟨b2,0,none⟩) 3 3),(10,.int .i64 3),(11,.int .i64 (p.1:Int))]) (λp=>(· =p.2)) (λp=>p.1<=3/\(∀i,i<p.1->xt x y i=0)/\Gz W2 p.2) (λp=>3-p.1) (0,W2) ⟨by omega,λi h=>absurd h zM,Gz.refl _⟩ zR (λW e=>e.trans h2.symm) ?_;rintro⟨j,W⟩ ⟨hj,hz,hg⟩;dsimp only at hj hz hg ⊢;have hT:∀W',W'=W->St Gh.no [W2,w] [] W':=λW' e=>by rw[e];exact bY hg
 refine Ju ?_;by_cases aj:j<3
 ·refine pe hT rfl rfl rfl (RV.re (v':=.bool true) (mR rfl rfl) (vb (decide_eq_true zM))) ?_;refine D2 ?_;refine CX.seq ?_;refine CX.condT rfl ?_;refine CX.skip ?_;refine PX.next ?_;refine CX.seq ?_;refine CX.block ?_;refine Ju ?_;refine pe hT rfl rfl rfl (cx underlying372 sizeOf257 rfl rfl zM zM) ?_;refine pe hT rfl rfl rfl (aa (v:=.func (.func (XS j)) #[] #[]) isAgg257 rfl A1 aH zX trivial (MC j aj)) ?_;refine pe hT rfl rfl rfl (kg rfl) ?_;refine D2 ?_;refine Ju ?_;refine pe hT rfl rfl rfl (fW rfl) ?_;refine pe hT rfl rfl rfl (af isAgg101 sizeOf101 rfl A0 TH zX trivial rfl) ?_;refine pe hT rfl rfl rfl (af isAgg101 sizeOf101 rfl A0 o8 zX trivial rfl) ?_;refine MF (first:=[]) (cap:=[]) (v:=.int .i64 (xt x y j)) (T':=Gz W) rfl (GL j aj) rfl rfl rfl (λW' e=>by rw[e];exact TF x y j aj W) ?_;refine OX.fix (λW3 GN=>?_);have eC:=hg.trans GN;have Jv:∀W',W'=W3->St Gh.no [W2,w] [] W':=λW' e=>by rw[e];exact bY eC
  refine pe Jv rfl rfl rfl (kg rfl) ?_;refine D2 ?_;refine Ju ?_;refine pe Jv rfl rfl rfl (fW rfl) ?_;by_cases aN:xt x y j=0
  ·refine pe Jv rfl rfl rfl (RV.re (v':=.bool false) (cy rfl rfl) (vb (by simp[aN]))) ?_;refine D2 ?_;refine CX.condF rfl ?_;refine CX.skip ?_;refine PX.norBlock ?_;refine PX.next ?_;refine CX.region ?_;refine pe Jv rfl rfl rfl (ql rfl rfl zM zM) ?_;refine pe Jv rfl rfl rfl (fW rfl) ?_;refine OX.done ?_;exact PX.again (j+1,W3) ⟨by dsimp only;omega,λi hi=>by dsimp only at hi;by_cases e:i=j;(rw[e];exact aN);exact hz i zM,eC⟩ dL zR (λW' e=>e)
  refine pe Jv rfl rfl rfl (RV.re (v':=.bool true) (cy rfl rfl) (vb (by simp[aN]))) ?_;refine D2 ?_;refine CX.condT rfl ?_;refine Ju ?_;refine pe Jv rfl rfl rfl (fW rfl) ?_;refine pe Jv rfl rfl rfl (kg rfl) ?_;refine D2 ?_;refine CX.ret ?_;refine PX.retBlock ?_;refine PX.retThen ?_;refine PX.retThen ?_;refine PX.retBlock ?_;refine PX.retThen ?_;exact Jw (.inl rfl) results281 rfl (λW' e=>⟨congrArg (λn=>Ending.returned (.int .i64 n)) (MD hz aj aN),by rw[e];exact dS.trans eC⟩)
 refine pe hT rfl rfl rfl (RV.re (v':=.bool false) (mR rfl rfl) (vb (decide_eq_false zM))) ?_;refine D2 ?_;refine CX.seq ?_;refine CX.condF rfl ?_;refine CX.exit ?_;refine PX.exThen ?_;refine PX.exThen ?_;refine PX.exHit ?_;refine PX.next ?_;refine Ju ?_;refine pe hT rfl rfl rfl (kg rfl) ?_;refine D2 ?_;refine CX.ret ?_;exact Jw (.inl rfl) results281 rfl (λW' e=>⟨congrArg (λn=>Ending.returned (.int .i64 n)) (GM (λi hi=>hz i zM)),by rw[e];exact dS.trans hg⟩)
theorem CO.rkI:CO rkI:=CO.ky3.key kyD
def pf (d:Cd):Nat:=d.at_.toNat
structure oc (Z:Fx) (cs:List Cm) (g:Gp) (d:Cd):Prop where
 nn:0<=d.at_
 at_:cs[pf d]? =some d.c
 id:d.id=aQ Z d.c
 since:d.since=vQ g.ms d.c.author
 x:d.x.g=Bv Z g d.c
 ok:lJ Z g d.c=0
noncomputable def D3 (Z:Fx) (cs:List Cm) (g:Gp) (i:Nat):Bool:=match cs[i]? with|some c=>jl c.par g.last&&decide (lJ Z g c=0)|none=>false
noncomputable def uK (Z:Fx) (cs:List Cm) (g:Gp) (k:Nat):List Nat:=(((bB Z cs cs.length).take k).map λp=>p.2.toNat).filter (D3 Z cs g)
theorem GO{cs:List Cm}{q:Dk×Int}(hq:(bB Z cs cs.length)[k]? =some q)(hi:q.2=(i:Int))(h:D3 Z cs g i=true):uK Z cs g (k+1)=uK Z cs g k++[i]:=by
 unfold uK;rw[nz hq,gj,List.filter_append];simp[hi,h]
theorem BN{cs:List Cm}{q:Dk×Int}(hq:(bB Z cs cs.length)[k]? =some q)(hi:q.2=(i:Int))(h:D3 Z cs g i=false):uK Z cs g (k+1)=uK Z cs g k:=by
 unfold uK;rw[nz hq,gj,List.filter_append];simp[hi,h]
theorem GP{cs:List Cm}{c:Cm}(hc:cs[i]? =some c)(h:¬jl c.par g.last=true):D3 Z cs g i=false:=by simp[D3,hc,h]
theorem GQ{cs:List Cm}{c:Cm}(hc:cs[i]? =some c)(h:¬lJ Z g c=0):D3 Z cs g i=false:=by simp[D3,hc,h]
theorem GR{cs:List Cm}{c:Cm}(hc:cs[i]? =some c)(h:jl c.par g.last=true)(h2:lJ Z g c=0):D3 Z cs g i=true:=by simp[D3,hc,h,h2]
theorem nmn{cs:List Cm}(h:i∈uK Z cs g k):∃c,cs[i]? =some c/\(dk (aQ Z c),(i:Int))∈(bB Z cs cs.length):=by
 obtain⟨h1,_⟩:=vz.1 h;obtain⟨p,hp,rfl⟩:=bU.1 h1;have tv:=List.mem_of_mem_take hp;obtain⟨j,c,e1,e2,e3,e4⟩:=XM Z cs _ p tv;refine⟨c,by rw[e1];exact e3,?_⟩;have e:p=(dk (aQ Z c),((p.2.toNat:Nat):Int)):=by
  obtain⟨p1,p2⟩:=p;simp only at e1 e4 ⊢;rw[e4,e1];rfl
 rw[<-e];exact tv
noncomputable def BO (Z:Fx) (cs:List Cm) (g:Gp) (i:Nat):Int×Int×List UInt8:=match cs[i]? with|some c=>(vQ g.ms c.author,c.author,dn (aQ Z c))|none=>(0,0,[])
theorem oc.key{cs:List Cm}{d:Cd}(h:oc Z cs g d):kyD d=BO Z cs g (pf d):=by simp only[kyD,BO,h.at_,h.since,h.id]
noncomputable def Jx (Z:Fx) (cs:List Cm) (g:Gp) (i j:Nat):Bool:=decide (ky3 (BO Z cs g i) (BO Z cs g j)<=0)
noncomputable def Jy (Z:Fx) (cs:List Cm) (g:Gp):List Nat:=(uK Z cs g (bB Z cs cs.length).length).mergeSort (Jx Z cs g)
theorem GS{f g:Nat->Int}(hf:jh f)(hg:jh g)(h:dn f=dn g):dk f=dk g:=by
 have key:∀i,i<32->f i=g i:=by
  intro i hi;have h1:=V8 f hf i hi;have h2:=V8 g hg i hi;rw[<-h1,<-h2,h]
 unfold dk;congr 1;rw[key 0 zQ,key 1 zQ,key 2 zQ,key 3 zQ,key 4 zQ,key 5 zQ,key 6 zQ,key 7 zQ,key 8 zQ,key 9 zQ,key 10 zQ,key 11 zQ,key 12 zQ,key 13 zQ,key 14 zQ,key 15 zQ,key 16 zQ,key 17 zQ,key 18 zQ,key 19 zQ,key 20 zQ,key 21 zQ,key 22 zQ,key 23 zQ,key 24 zQ,key 25 zQ,key 26 zQ,key 27 zQ,key 28 zQ,key 29 zQ,key 30 zQ,key 31 zQ]
theorem GU(hZ:FxOk Z){cs:List Cm}:∀a∈uK Z cs g k,∀b∈uK Z cs g k,Jx Z cs g a b=true->Jx Z cs g b a=true->a=b:=by
 intro a ha b hb h1 h2;obtain⟨c,hc,hm⟩:=nmn ha;obtain⟨c2,aN,aF⟩:=nmn hb;simp only[Jx,decide_eq_true_eq]at h1 h2;have h3:=CO.ky3.anti (BO Z cs g a) (BO Z cs g b);have h4:=MA (x:=BO Z cs g a) (y:=BO Z cs g b) zM;simp only[BO,hc,aN]at h4;have h5:dk (aQ Z c)=dk (aQ Z c2):=GS (hZ.byt _ _) (hZ.byt _ _) h4;have nd:=ngk Z cs cs.length;obtain⟨i,hi⟩:=jL.1 hm;obtain⟨j,hj⟩:=jL.1 aF;have tw:=nE hi;have Dn:=nE hj;have xf:i=j:=by
  have e1:((bB Z cs cs.length).map (·.1))[i]? =some (dk (aQ Z c)):=by rw[ra,hi];rfl
  have e2:((bB Z cs cs.length).map (·.1))[j]? =some (dk (aQ Z c)):=by rw[ra,hj,h5];rfl
  exact(List.getElem?_inj (by rw[fl];exact tw) nd).1 (e1.trans e2.symm)
 subst xf;rw[hi]at hj;have:=(Prod.mk.inj (Option.some.inj hj)).2;omega
instance:Inhabited Cd:=⟨⟨0,⟨0,0,λ_=>0,0,[],none,0,[],none,0,[],none,0,[],none,0,λ_=>0,0,0⟩,λ_=>0,0,kL⟩⟩
theorem nBo{α:Type}[Inhabited α]{cf:α->α->Int}(h:CO cf)(xs:List α):(gu cf xs).Pairwise (λa b=>cf a b<=0):=by
 have hs:=(Go.Sort.pdq_sorts (Go.Proofs.ltOf cf) h.swo xs.toArray 0 xs.toArray.size (Go.Lib.bitLen xs.toArray.size) true true (cZ _) (ao _) (Or.inl rfl)).2;have hl:(gu cf xs).length=xs.toArray.size:=by rw[Mh h.swo];simp
 rw[List.pairwise_iff_getElem];intro i j hi hj xf;have h2:=hs i j (cZ _) xf zM;simp only[Go.Proofs.ltOf,decide_eq_false_iff_not]at h2;have e:∀k (hk:k<(gu cf xs).length),(Go.Sort.pdq (Go.Proofs.ltOf cf) xs.toArray 0 xs.toArray.size (Go.Lib.bitLen xs.toArray.size) true true)[k]! =(gu cf xs)[k]:=by
  intro k hk;unfold gu at hk ⊢;rw[Array.length_toList]at hk;rw[Array.getElem_toList];exact getElem!_pos (Go.Sort.pdq (Go.Proofs.ltOf cf) xs.toArray 0 xs.toArray.size (Go.Lib.bitLen xs.toArray.size) true true) k hk
 rw[e i hi,e j hj]at h2;have:=h.anti ((gu cf xs)[i]) ((gu cf xs)[j]);omega
theorem GV(hZ:FxOk Z){cs:List Cm}{ds:List Cd}(hm:ds.map pf=uK Z cs g (bB Z cs cs.length).length)(hd:∀d∈ds,oc Z cs g d):(gu rkI ds).map pf=Jy Z cs g:=by
 have hp:(gu rkI ds).Perm ds:=nYg CO.rkI.swo ds;have yn:((gu rkI ds).map pf).Perm (uK Z cs g (bB Z cs cs.length).length):=hm▸hp.map pf;have tv:(Jy Z cs g).Perm (uK Z cs g (bB Z cs cs.length).length):=List.mergeSort_perm _ _;refine n2j (le:=Jx Z cs g) (λa ha b hb=>GU hZ a (yn.mem_iff.1 ha) b (yn.mem_iff.1 hb)) ?_ ?_ (yn.trans tv.symm)
 ·rw[List.pairwise_map];refine(nBo CO.rkI ds).imp_of_mem ?_;intro a b ha hb h;have h1:=(hd a (hp.mem_iff.1 ha)).key;have h2:=(hd b (hp.mem_iff.1 hb)).key;simp only[Jx,decide_eq_true_eq,<-h1,<-h2];exact h
 refine List.pairwise_mergeSort (λa b c h1 h2=>?_) (λa b=>?_) _
 ·simp only[Jx,decide_eq_true_eq]at *;exact CO.ky3.trans _ _ _ h1 h2
 have:=CO.ky3.anti (BO Z cs g a) (BO Z cs g b);simp only[Jx,Bool.or_eq_true,decide_eq_true_eq];omega
structure D4 (F:ae) (x:Gv):Prop where
 ms:D5 oE 3 F x.ma x.g.ms
 ns:D5 gh 2 F x.na x.g.ns
 mn:x.g.ms.length<=10000
 nn:x.g.ns.length<=80000
theorem D4.mono{F':ae}{x:Gv}(h:D4 F x)(hF:∀p∈F,p∈F'):D4 F' x:=⟨h.ms.mono hF,h.ns.mono hF,h.mn,h.nn⟩
theorem D4.lies{x:Gv}(h:D4 F x)(hW:∀p∈F,p.1<N/\W.heap[p.1]? =some p.2):aL N W x:=⟨h.ms.at hW,h.ns.at hW,h.mn,h.nn⟩
def aW (K:Nat) (x:Gv):Prop:=(∀q,x.ma=some q->x.g.ms=[]\/K<=q.block)/\(∀q,x.na=some q->x.g.ns=[]\/K<=q.block)
theorem D4.new{x:Gv}{K:Nat}(h:D4 F x)(hF:∀p∈F,K<=p.1):aW K x:=⟨h.ms.ge hF,h.ns.ge hF⟩
theorem nEk(hZ:FxOk Z)(G:Gv)(c:Cm)(dD:cI c)(N:Nat)(w:World)(hN:N<=w.heap.size)(hG:aL N w G)(hC:dJ N w c)(hg:Glb w):Calls prog 101 #[.agg (aX G),.agg (dY c)] w (λe w'=>∃(X:Gv) (F':ae),e= .returned (.tuple #[.agg (aX X),.int .i64 (lJ Z G.g c)])/\Below w.heap.size w w'/\(∀p∈F',w.heap.size<=p.1/\w'.heap[p.1]? =some p.2)/\X.g=tu Z G.g c/\D4 F' X):=by
 refine(nKe hZ G c dD N w hN hG hC hg).mono ?_;rintro e w' ⟨X,rfl,hb,hg9,gn,u9,Dl⟩;obtain⟨F1,hF1,BJ⟩:=gn.ms.fs u9;obtain⟨F2,XT,hs2⟩:=gn.ns.fs Dl;refine⟨X,F1++F2,rfl,hb,λp hp=>(cO.1 hp).elim (hF1 p) (XT p),hg9,BJ.mono (λp hp=>cO.2 (.inl hp)),hs2.mono (λp hp=>cO.2 (.inr hp)),gn.mn,gn.nn⟩
theorem MG{xs:List Cd}(hl:xs.length<=1000000){cap:Nat}(bT:(Rw.row b cap sp).Fit 143 xs)(h:W.heap[b]? =some (cD mD 101 xs sp))(bk:Nat)(MH:∀w:World,aI (· =b) W w->MB w bk):Calls prog 164 #[.slice (some ⟨b,0,none⟩) xs.length cap,.func (.func 281) #[] #[ptr bk 0]] W (λe w'=>∃bK,e= .returned ((λ_=>.tuple #[]) (Rw.row b cap bK))/\aI (· =b) W w'/\(Rw.row b cap bK).Fit 143 (gu rkI xs)/\w'.heap[b]? =some (cD mD 101 (gu rkI xs) bK)):=by
 have xb:∀ys:List Cd,ys.length=xs.length->∀(m:Nat) (os:Array Obj),aI (· =b) W (Go.Proofs.sortWorldK mD 143 W b 0 m ys.toArray os):=λys hy m os=>(vN (n:=m) (os:=os) D1 h (ys:=ys) hy).1;have hc:=Go.Proofs.AnyQ.slices_SortFunc_eq Go.Proofs.Tryz.laySC 143 isAgg101 sizeOf101 mD D1 njj rkI CO.rkI.swo 281 #[ptr bk 0] b 0 cap xs.toArray W (Go.Proofs.enters_of func281 zT rfl) (λm os dk hd x y=>adh x y bk _ (MH _ (by have:=xb dk.toList (by rw[Array.length_toList,hd];simp) m os;simpa using this))) (nHl D1 h) (aM.1 h).1 jZ;change Calls prog 164 _ _ _ at hc;refine hc.mono ?_;rintro e w' ⟨rfl,n,os,rfl⟩;have hp:=vN (n:=n) (os:=os) D1 h (ys:=gu rkI xs) (Mh CO.rkI.swo xs);exact⟨sp,rfl,hp.1,by simp only[Rw.Fit,Mh CO.rkI.swo];exact bT,hp.2⟩
def uL (w:World) (b N:Nat):Prop:=N<=b/\∃b',N<=b'/\w.heap[b]? =some (.cells #[.slice (some ⟨b',0,none⟩) 3 3] 372 (0,0))/\w.heap[b']? =some (.cells #[.func (.func 227) #[] #[],.func (.func 228) #[] #[],.func (.func 229) #[] #[]] 257 (0,0))
theorem uL.keep{w:World}{X:Nat->Prop}(h:uL w b N)(hk:aI X w W)(hX:∀k,X k->k<N):uL W b N:=by
 obtain⟨h0,b',eI,h1,h2⟩:=h;have l1:=(aM.1 h1).1;have l2:=(aM.1 h2).1;refine⟨h0,b',eI,?_,?_⟩
 ·rw[hk.block b l1 (λhx=>by have:=hX _ hx;omega)];exact h1
 rw[hk.block b' l2 (λhx=>by have:=hX _ hx;omega)];exact h2
theorem uL.at{w:World}(h:uL w b N):MB w b:=⟨h.2.choose,h.2.choose_spec.2⟩
theorem nao(b:Nat)(w:World):Calls prog 226 #[.slice (some ⟨b,0,none⟩) 3 3] w (cu w (λb1:Nat=>.func (.func 281) #[] #[ptr b1 0]) (λb1 w1=>w.heap.size<=b1/\w1.heap[b1]? =some (.cells #[.slice (some ⟨b,0,none⟩) 3 3] 372 (0,0)))):=by
 refine enter (vs:=[_]) func226 rfl ntmps226 rfl ?_;refine B 2 ?_;refine yX ?_;intro b1 w1 aR aY gA eK iH;refine B 10 ?_;refine jG b1 results226 rfl A1 rfl ?_;exact λW hS=>⟨by omega,hS.old A0 aR aY trivial⟩
theorem nPk(w:World):Calls prog 165 #[] w (cu w (λb1:Nat=>.func (.func 281) #[] #[ptr b1 0]) (λb1 w1=>uL w1 b1 w.heap.size)):=by
 refine enter (vs:=[]) func165 rfl ntmps165 rfl ?_;refine B 7 ?_;refine EK underlying372 sizeOf257 zeroValue257 rfl rfl rfl rfl rfl rfl rfl ?_;refine yV ?_;intro b1 w1 aR aY gA eK iH;refine nu (α:=Nat) (v:=λb9:Nat=>.func (.func 281) #[] #[ptr b9 0]) (Φ:=λW b9 w9=>W.heap.size<=b9/\w9.heap[b9]? =some (.cells #[.slice (some ⟨b1,0,none⟩) 3 3] 372 (0,0))) call226 rfl rfl rfl (λW hS=>nao b1 W) ?_;rintro W9 b9 w9 lF vF ⟨eN,eQ⟩;have mz:=(lF.links w1 A0).size;have hzw:=(lF.links w A1).size;refine B 4 ?_;refine jG b9 results165 rfl A2 rfl ?_;exact λW hS=>⟨by omega,b1,by omega,hS.old A0 eQ zX trivial,hS.old A1 aR aY trivial⟩
theorem nCk(bk:Nat)(w:World):Calls prog 273 #[.slice none 0 0,.int .i64 0,.int .i64 0,.func (.func 281) #[] #[ptr bk 0]] w (av w (.tuple #[])):=by
 refine enter (vs:=[_,_,_,_]) func273 rfl ntmps273 rfl ?_;refine B 8 ?_;refine CJ.loop (α:=Nat) (λj=>[(0,.slice none 0 0),(1,.int .i64 0),(2,.int .i64 0),(3,.func (.func 281) #[] #[ptr bk 0]),(8,.int .i64 1)]) (λj=>[]) (λj=>[w]) (λj=>Gh.no) (λj=>True) (λj=>0) 0 True.intro zR rfl rfl z1 ?_;rintro j _;refine Xx ?_;exact bJ (.inr rfl) results273 RS.n A0 trivial rfl
theorem noo(bk:Nat)(l:Int)(w:World):Calls prog 225 #[.slice none 0 0,.int .i64 0,.int .i64 0,.int .i64 l,.func (.func 281) #[] #[ptr bk 0]] w (av w (.tuple #[])):=by
 refine enter (vs:=[_,_,_,_,_]) func225 rfl ntmps225 rfl ?_;refine B 11 ?_;refine CJ.loop (α:=Nat) (λj=>[(0,.slice none 0 0),(1,.int .i64 0),(2,.int .i64 0),(3,.int .i64 l),(4,.func (.func 281) #[] #[ptr bk 0])]) (λj=>[]) (λj=>[w]) (λj=>Gh.no) (λj=>True) (λj=>0) 0 True.intro zR rfl rfl z1 ?_;rintro j _;refine Xy ?_;refine call call273 rfl rfl rfl (λW hS=>nCk bk W) ?_;refine B 7 ?_;exact bJ (.inl rfl) results225 RS.n A0 trivial rfl
theorem nDm(bk:Nat)(w:World):Calls prog 164 #[.slice none 0 0,.func (.func 281) #[] #[ptr bk 0]] w (av w (.tuple #[])):=by
 refine enter (vs:=[_,_]) func164 rfl ntmps164 rfl ?_;refine Xz ?_;refine B 1 ?_;refine call call225 rfl rfl rfl (λW hS=>noo bk _ W) ?_;refine B 1 ?_;exact bJ (.inr rfl) results164 RS.n A0 trivial rfl
theorem nZi(hZ:FxOk Z)(cs:List Cm)(hcs:cs.length<=1000)(dD:∀c∈cs,cI c)(N:Nat)(la:Option Addr)(lc:Nat)(w:World)(hN:N<=w.heap.size)(aJ:ah dY 73 N w la cs)(hC:∀c∈cs,dJ N w c)(ia:Option Addr)(ic:Nat)(ta:Option Addr)(tc:Nat)(hp:mj Z cs N w ⟨ia,ic,ta,tc⟩)(G:Gv)(hG:aL N w G)(hg:Glb w):Calls prog 102 #[.agg (xq Z cs la lc ⟨ia,ic,ta,tc⟩),.agg (aX G)] w (λe w'=>∃ds:List Cd,(ds.map pf=Jy Z cs G.g/\∀d∈ds,oc Z cs G.g d/\aL w'.heap.size w' d.x/\aW w.heap.size d.x)/\nC w mD 143 101 ds id e w'):=by
 have eC:=hg.lt;have hpl:=Pr Z cs cs.length;have mr:((bB Z cs cs.length).map (·.1)).length=(bB Z cs cs.length).length:=fl ..;have xb:((bB Z cs cs.length).map (·.2)).length=(bB Z cs cs.length).length:=fl ..;have BP:=hp.ids;have BQ:=hp.at_;dsimp only at BP BQ;refine nN (ky []) [] (vs:=[_,_]) func102 rfl ntmps102 rfl (Jd w) ?_;refine B 2 ?_;refine yX ?_;intro b2 w2 aH aF dS cE cX;refine yX ?_;intro b3 w3 aC ay cS bV cL;refine B 7 ?_;refine rr (.slice ta ((bB Z cs cs.length).map (·.2)).length tc) (aa isAgg44 rfl A1 aH aF trivial rfl) ?_;refine B 5 ?_;refine CJ.loop (α:=((Rw×List Cd)×ae)×Nat) (λp9=>[(2,ptr b2 0),(3,ptr b3 0),(4,p9.1.1.1.val p9.1.1.2.length),(11,.slice ta ((bB Z cs cs.length).map (·.2)).length tc),(12,.int .i64 (((bB Z cs cs.length).map (·.2)).length:Int)),(13,.int .i64 (p9.2:Int))]) (λp9=>p9.1.1.1.hp mD 101 p9.1.1.2++[]) (λp9=>[w3,w2,w]) (λp9=>ky p9.1.2) (λp9=>p9.2<=((bB Z cs cs.length).map (·.2)).length/\p9.1.1.1.Fr (ky p9.1.2) [w3,w2,w]/\p9.1.1.1.Fit 143 p9.1.1.2/\p9.1.1.2.map pf=uK Z cs G.g p9.2/\(∀d∈p9.1.1.2,oc Z cs G.g d/\D4 p9.1.2 d.x)/\p9.1.1.2.length<=p9.2/\∀q∈p9.1.2,w.heap.size<=q.1) (λp9=>((bB Z cs cs.length).map (·.2)).length-p9.2) (((.nil,[]),[]),0) ⟨cZ _,True.intro,rfl,rfl,by simp,ao _,by simp⟩ zR rfl rfl z1 ?_
 rintro⟨⟨⟨r,ds⟩,F⟩,k⟩ ⟨hk,bG,al,bO,tz,Ou,BR⟩;dsimp only at hk bG al bO tz Ou BR ⊢;have cM:r.ge w3.heap.size:=Rw.ge_fz bG A0;refine B 6 ?_;refine aK ?_ ?_
 ·intro aj;refine B 5 ?_;obtain⟨q,hq⟩:=nk (bB Z cs cs.length) k zM;obtain⟨i,c,MJ,tw,hc,XU⟩:=XM Z cs _ q (cC hq);have Tt:((bB Z cs cs.length).map (·.2))[k]? =some ((i:Nat):Int):=by rw[ra,hq,wI,MJ]
  have Et:((bB Z cs cs.length).map (·.1))[k]? =some (dk (aQ Z c)):=by rw[ra,hq,wI,XU]
  have hcm:=cC hc;obtain⟨ba,oa,csa,ta,fra,rfl,hba,BS,TL⟩:=BQ.get zM;obtain⟨bq,oq,WQ,tq,WR,rfl,WS,sd,se⟩:=BP.get zM;obtain⟨bl,ol,csl,tl,frl,rfl,jH,uM,ml⟩:=aJ.get zM;refine B 3 ?_;refine rv rfl rfl rfl (aa (v:=.int .i64 (i:Int)) isAgg3 rfl A2 BS zX TM XV) ?_;refine B 7 ?_;refine rr (.slice (some ⟨bl,ol,none⟩) cs.length lc) (aa isAgg24 rfl A1 aH aF MK rfl) ?_;refine B 2 ?_;refine rq (.agg (dY c)) (ag isAgg99 sizeOf99 rfl A2 uM zX TM (ni ml hc rfl)) (va (np ml hc rfl)) ?_;refine aU zeroValue99 rfl rfl ?_;refine yW ?_;intro b7 gg ow;refine aZ (i:=0) rfl sizeOf99 rfl rfl rfl rfl rfl rfl ?_;refine B 4 ?_;by_cases XW:jl c.par G.g.last=true
  ·refine B 2 ?_;refine zTh ?_;refine B 1 ?_;refine zRh ?_;refine rq (.bool false) (jM ui zQ nQ rfl rfl rfl) (congrArg (λq=>Value.bool (!q)) XW) ?_;refine B 7 ?_;refine rr (.agg (aX G)) (af isAgg57 sizeOf57 rfl A0 aC ay MK rfl) ?_;refine rr (.agg (dY c)) (aP (i:=0) rfl isAgg99 sizeOf99 rfl rfl) ?_;refine ML (γ:=Gv) (v:=λX=>.tuple #[.agg (aX X),.int .i64 (lJ Z G.g c)]) (Φ:=λF X=>X.g=tu Z G.g c/\D4 F X) call101 rfl rfl rfl (λW hS=>nEk hZ G c (dD c hcm) N W (aS hN (hS.links w A2).size) (hG.up (ao _) (hS.same A2 hN zU TN)) ((hC c hcm).up (ao _) (hS.same A2 hN zU TN)) (hg.old hS A2 zU TN)) ?_;rintro Xn F2 ⟨fk,gP⟩ XT;obtain⟨e,he⟩:∃e,lJ Z G.g c=e:=⟨_,rfl⟩;rw[he];refine B 3 ?_;refine rj ?_;refine yW ?_;intro b8 wt wu;refine Jm ?_;refine B 9 ?_;refine aK ?_ ?_
   ·intro aN;refine ng (E':=[(2,_),(3,_),(4,_),(5,_),(6,_),(7,_),(8,_),(9,_),(11,_),(12,_),(13,_),(14,_),(15,_),(16,_),(17,_),(18,_),(19,_),(20,_),(21,_),(22,_),(23,_),(24,_),(25,_),(26,_),(27,_),(28,_),(29,_),(30,_),(31,_),(32,_),(33,_),(34,_),(35,_)]) zR ?_;refine nJ 15 [14] [([],some _),([],some _),([],some (.agg (dY c))),([],some _),([3],some (.slice (some ⟨bq,oq,none⟩) ((bB Z cs cs.length).map (·.1)).length ic)),([],some _),([4,5],some _),([6],some (.agg (dg (aQ Z c)))),([],some (.agg (aX G))),([],some _),([9],some (.int .i64 c.author)),([8,10],some (.int .i64 (vQ G.g.ms c.author))),([],some (.agg (aX Xn))),([1,2,7,11,12],some (.agg (dF (⟨(i:Int),c,aQ Z c,vQ G.g.ms c.author,Xn⟩:Cd)))),([13],none)] (λcv L' H'=>match cv with| []=>L'=[w3,w2,w]/\H'=[(b8,.cells (aX Xn) 57 (0,0)),(b7,.cells (dY c) 99 (0,0))]++(r.hp mD 101 ds++[])| [v1]=>∃(Pt:Nat),v1= .slice (some ⟨Pt,0,none⟩) 1 1/\L'=[w3,w2,w]/\H'=[(Pt,.cells (dF (⟨(i:Int),c,aQ Z c,vQ G.g.ms c.author,Xn⟩:Cd)) 101 (0,0)),(b8,.cells (aX Xn) 57 (0,0)),(b7,.cells (dY c) 99 (0,0))]++(r.hp mD 101 ds++[])/\w3.heap.size<=Pt|_=>False) zT ⟨rfl,rfl⟩ zT zT zT zT zT zT (pc zW (pc zW (pc MM (pc (by exact λcv L' H' hd hP=>X.val rfl rfl (ak underlying92 rfl sizeOf41 rfl) R2) (pc MM (pc zW (pc (by exact λcv L' H' hd hP=>X.val rfl rfl (cx underlying41 sizeOf34 rfl rfl zM zM) R2) (pc MM (pc MM (pc xh (pc MM (pc MM (pc MM (pc zvc (pk (pn)))))))))))))))) ?_ ?_
    ·refine sc rfl rfl rfl ?_ ?_
     ·intro cv L' H' hl hP F Q' hk;obtain rfl:=ja hl;obtain⟨rfl,rfl⟩:=hP;refine k9 underlying194 sizeOf101 zeroValue101 rfl rfl rfl rfl rfl rfl rfl ?_;intro b_ Gm Xq;exact OJ.done (hk _ _ _ ⟨b_,rfl,rfl,rfl,Gm.1⟩)
     exact sn
    intro cv L' H' hl hP;obtain⟨v1,rfl⟩:=dd hl;obtain⟨Pt,rfl,rfl,rfl,adj⟩:=hP;refine oY (r:=r) (xs:=ds) (zs:=[(⟨(i:Int),c,aQ Z c,vQ G.g.ms c.author,Xn⟩:Cd)]) (enc:=mD) (m:=143) (H0:=[(Pt,.cells (dF (⟨(i:Int),c,aQ Z c,vQ G.g.ms c.author,Xn⟩:Cd)) 101 (0,0)),(b8,.cells (aX Xn) 57 (0,0)),(b7,.cells (dY c) 99 (0,0))]) (H1:=[]) wQ BD D1 rfl rfl rfl rfl (dt.one (z:=(⟨(i:Int),c,aQ Z c,vQ G.g.ms c.author,Xn⟩:Cd)) D1 njj underlying194 (bL.own (i:=0) rfl)) al bG z1 DO ?_;intro b51 adk adl MN MO;replace MN:=yb MN;refine B 8 ?_;refine FI ?_;refine mx ?_;refine PJ.again (((Rw.row b51 adk adl,ds++[(⟨(i:Int),c,aQ Z c,vQ G.g.ms c.author,Xn⟩:Cd)]),F2++F),k+1) ⟨by dsimp only;omega,MN.elim (λh=>Rw.Fr_at bG h) (λh=>.inr h),MO,by dsimp only;rw[GO hq MJ (GR hc XW (by rw[he];assumption)),gj,bO];rfl,λd hd=>(cO.1 hd).elim (λh=>⟨(tz d h).1,(tz d h).2.mono (λp hp=>cO.2 (.inr hp))⟩) (λh=>by rw[qd.1 h];exact⟨⟨Int.natCast_nonneg _,hc,rfl,rfl,fk.trans (if_pos (by rw[he];assumption)),by rw[he];assumption⟩,gP.mono (λp hp=>cO.2 (.inl hp))⟩),by dsimp only;rw[cF,BH];omega,λq hq=>(cO.1 hq).elim (λh=>(XT q h).not A2) (BR q)⟩ dL zR rfl rfl z1
   intro aN;refine Ms ?_;refine PJ.again (((r,ds),F2++F),k+1) ⟨by dsimp only;omega,bG,al,by dsimp only;rw[BN hq MJ (GQ hc (by rw[he];assumption))];exact bO,λd hd=>⟨(tz d hd).1,(tz d hd).2.mono (λp hp=>cO.2 (.inr hp))⟩,by dsimp only;omega,λq hq=>(cO.1 hq).elim (λh=>(XT q h).not A2) (BR q)⟩ dL zR rfl rfl z1
  refine B 2 ?_;refine zTh ?_;refine B 1 ?_;refine zRh ?_;refine rq (.bool true) (jM ui zQ nQ rfl rfl rfl) (congrArg (λq=>Value.bool (!q)) (Bool.eq_false_iff.2 XW)) ?_;refine B 11 ?_;refine mx ?_;refine PJ.again (((r,ds),F),k+1) ⟨by dsimp only;omega,bG,al,by dsimp only;rw[BN hq MJ (GP hc XW)];exact bO,tz,by dsimp only;omega,BR⟩ dL zR rfl rfl z1
 intro aj;refine B 6 ?_;have hke:k=(bB Z cs cs.length).length:=by omega
 rw[hke]at bO;refine B 2 ?_;refine nu (α:=Nat) (v:=λb:Nat=>.func (.func 281) #[] #[ptr b 0]) (Φ:=λW b w1=>uL w1 b W.heap.size) call165 rfl rfl rfl (λW hS=>nPk W) ?_;intro Wk bk wk vw FL MH;have WN:=FL.size;refine wU (r:=r) (enc:=mD) (m:=143) (t:=101) (xs:=ds) (ys:=gu rkI ds) (H0:=[]) (H1:=[]) (v:=λ_=>.tuple #[]) rfl call164 rfl rfl rfl (λhr W hS=>?_) (λb cap sp hr W hS h=>?_) ?_
 ·subst hr;have h0:ds=[]:=al;subst h0;exact(nDm bk W).mono λe w2 h=>⟨h.1,ja (Mh CO.rkI.swo []),h.2⟩
 ·subst hr;have jH:b<Wk.heap.size:=vw.lt (b,_) A0;exact MG zM al h bk (λw9 hk9=>((MH.keep (X:=λk=>k=b) ((hS.links wk A0).mono (λk _ hx=>by rcases hx with hx|hx;(exact hx.elim);simpa[Rw.hp]using hx)) (λk hk=>by omega)).keep hk9 (λk hk=>by omega)).at)
 intro r2 da mM mO jA;have dN:=mO _ cM;refine B 9 ?_;refine bH (.inl rfl) results102 (RS.t rfl RS.n) λW hS=>?_;have td:(gu rkI ds).Perm ds:=nYg CO.rkI.swo ds;refine⟨gu rkI ds,⟨GV hZ bO (λd hd=>(tz d hd).1),λd hd=>⟨(tz d (td.mem_iff.1 hd)).1,(tz d (td.mem_iff.1 hd)).2.lies hS.fzLies,(tz d (td.mem_iff.1 hd)).2.new BR⟩⟩,r2,?_,?_,Rw.ge_mono dN zM,da,?_⟩
 ·show Ending.returned (r.val ds.length)=Ending.returned (r2.val (gu rkI ds).length);rw[jA,Mh CO.rkI.swo]
 ·exact(hS.links w A3).below (λk hk hx=>by rcases hx with hx|hx;(exact hx);simp only[dX,dE]at hx;have:=Rw.mem_ge dN hx;omega)
 cases r2 with
  |nil=>trivial
  |row b cap sp=>exact hS.own (b,_) vv
instance:Inhabited Cm:=⟨⟨0,0,λ_=>0,0,[],none,0,[],none,0,[],none,0,[],none,0,λ_=>0,0,0⟩⟩
def vW:Cd:=default
def sH {α:Type} (cf:α->Cm) (l:List α) (d:α):Bool:=l.any λx=>decide ((cf x).author≠(cf d).author)&&(cf x).chs.any (uH (cf d).author)
def xu {α:Type} (cf:α->Cm) (b:Option α) (d:α):Option α:=match b with|none=>some d|some w=>if vP (cf w).chs<vP (cf d).chs then some d else some w
def MP {α:Type} (cf:α->Cm) (s:List α×Option α) (d:α):List α×Option α:=if sH cf s.1 d=true then s else(s.1++[d],xu cf s.2 d)
def fy {α:Type} (cf:α->Cm) (l:List α) (k:Nat):List α×Option α:=(l.take k).foldl (MP cf) ([],none)
theorem Pu{α:Type}{cf:α->Cm}{l:List α}{d:α}(h:l[k]? =some d):fy cf l (k+1)=MP cf (fy cf l k) d:=by unfold fy;rw[nz h,DP];rfl
theorem XX{α:Type}(cf:α->Cm)(l:List α):∀k,(∀x∈(fy cf l k).1,x∈l)/\∀x,(fy cf l k).2=some x->x∈l
 |0=>⟨λx hx=>by simp[fy]at hx,λx hx=>by simp[fy]at hx⟩
 |k+1=>by
  have ih:=XX cf l k;by_cases hk:k<l.length
  ·obtain⟨d,hd⟩:=nk l k hk;have hm:=cC hd;rw[Pu hd];unfold MP;split
   ·exact ih
   refine⟨λx hx=>?_,λx hx=>?_⟩
   ·rcases cO.1 hx with hx|hx
    ·exact ih.1 x hx
    rw[qd.1 hx];exact hm
   dsimp only[xu]at hx;split at hx
   ·cases hx;exact hm
   rename_i w hw;split at hx
   ·cases hx;exact hm
   cases hx;exact ih.2 _ hw
  have e:fy cf l (k+1)=fy cf l k:=by unfold fy;rw[iZ zM,iZ zM]
  rw[e];exact ih
theorem nGn{α:Type}(cf:α->Cm)(l:List α):∀k,(fy cf l k).1.length<=k
 |0=>by simp[fy]
 |k+1=>by
  have ih:=nGn cf l k;by_cases hk:k<l.length
  ·obtain⟨d,hd⟩:=nk l k hk;rw[Pu hd];unfold MP;split
   ·omega
   rw[cF,BH];omega
  have e:fy cf l (k+1)=fy cf l k:=by unfold fy;rw[iZ zM,iZ zM]
  rw[e];omega
theorem nbl{α β:Type}{f:α->β}{p:β->Bool}{q:α->Bool}:∀{l:List α},(∀x∈l,p (f x)=q x)->(l.map f).any p=l.any q
 | [],_=>rfl
 |x::l,h=>by simp only[eE,List.any_cons,h x A0,nbl λy hy=>h y (.tail _ hy)]
theorem nFn{α β:Type}{cf:α->Cm}{cg:β->Cm}(f:α->β){l:List α}(h:∀d∈l,cg (f d)=cf d):∀k,fy cg (l.map f) k=((fy cf l k).1.map f,(fy cf l k).2.map f)
 |0=>rfl
 |k+1=>by
  have ih:=nFn f h k;have BT:=XX cf l k;by_cases hk:k<l.length
  ·obtain⟨d,hd⟩:=nk l k hk;have hm:=cC hd;have zJ:(l.map f)[k]? =some (f d):=by rw[ra,hd];rfl
   rw[Pu zJ,Pu hd,ih];have e1:sH cg ((fy cf l k).1.map f) (f d)=sH cf (fy cf l k).1 d:=by
    unfold sH;rw[h d hm];exact nbl λx hx=>by rw[h x (BT.1 x hx)]
   have e2:xu cg ((fy cf l k).2.map f) (f d)=(xu cf (fy cf l k).2 d).map f:=by
    cases hw:(fy cf l k).2 with
    |none=>rfl
    |some w=>
     simp only[xu,wI,h d hm,h w (BT.2 w hw)];split<;>rfl
   unfold MP;dsimp only;rw[e1];split
   ·rfl
   rw[e2];simp
  have e1:fy cg (l.map f) (k+1)=fy cg (l.map f) k:=by unfold fy;rw[iZ (by rw[fl];omega),iZ (by rw[fl];omega)]
  have e2:fy cf l (k+1)=fy cf l k:=by unfold fy;rw[iZ zM,iZ zM]
  rw[e1,e2,ih]
def GW (cs:List Cm) (i:Nat):Cm:=(cs[i]?).getD default
noncomputable def D6 (Z:Fx) (cs:List Cm) (g:Gp):Option Nat:=(fy (GW cs) (Jy Z cs g) (Jy Z cs g).length).2
theorem adn{cs:List Cm}{ds:List Cd}(hm:ds.map pf=Jy Z cs g)(hd:∀d∈ds,oc Z cs g d):D6 Z cs g=(fy (·.c) ds ds.length).2.map pf:=by
 unfold D6;rw[<-hm,fl,nFn (cf:=(·.c)) pf (λd h=>by unfold GW;rw[(hd d h).at_];rfl)]
theorem aL.toG{K:Nat}{w:World}{x:Gv}(h:aL N w x)(hn:aW K x)(hS:St G L H W)(hw:w∈L)(hN:N<=w.heap.size)(ho:∀b,K<=b->b<N->¬G.X b/\bE H b):aL W.heap.size W x:=
 ⟨h.ms.toG hS hw hN (λb off e=>(hn.1 _ e).imp id (λh=>ho b h)),h.ns.toG hS hw hN (λb off e=>(hn.2 _ e).imp id (λh=>ho b h)),h.mn,h.nn⟩
theorem aW.mono{K K':Nat}{x:Gv}(h:aW K x)(hk:K'<=K):aW K' x:=⟨λq e=>(h.1 q e).imp id (aS hk),λq e=>(h.2 q e).imp id (aS hk)⟩
theorem XY{α:Type}{cf:α->Cm}{l:List α}{d:α}(h:l[k]? =some d)(hs:sH cf (fy cf l k).1 d=true):fy cf l (k+1)=fy cf l k:=by rw[Pu h];unfold MP;rw[if_pos hs]
theorem yo{α:Type}{cf:α->Cm}{l:List α}{d:α}(h:l[k]? =some d)(hs:sH cf (fy cf l k).1 d=false):fy cf l (k+1)=((fy cf l k).1++[d],xu cf (fy cf l k).2 d):=by rw[Pu h];unfold MP;rw[if_neg (by rw[hs];decide)]
theorem nPm(hZ:FxOk Z)(cs:List Cm)(hcs:cs.length<=1000)(dD:∀c∈cs,cI c)(N:Nat)(la:Option Addr)(lc:Nat)(w:World)(hN:N<=w.heap.size)(aJ:ah dY 73 N w la cs)(hC:∀c∈cs,dJ N w c)(ia:Option Addr)(ic:Nat)(ta:Option Addr)(tc:Nat)(hp:mj Z cs N w ⟨ia,ic,ta,tc⟩)(G:Gv)(hG:aL N w G)(hg:Glb w):Calls prog 52 #[.agg (xq Z cs la lc ⟨ia,ic,ta,tc⟩),.agg (aX G)] w (cu w (λq:Cd×Bool=>.tuple #[.agg (dF q.1),.bool q.2]) (λq w'=>(q.2=true/\D6 Z cs G.g=some (pf q.1)/\oc Z cs G.g q.1/\aL w'.heap.size w' q.1.x/\aW w.heap.size q.1.x)\/(q.2=false/\D6 Z cs G.g=none))):=by
 have eC:=hg.lt;have hpl:=Pr Z cs cs.length;refine enter (vs:=[_,_]) func52 rfl ntmps52 rfl ?_;refine B 2 ?_;refine yX ?_;intro b2 w2 aH aF dS cE cX;refine yX ?_;intro b3 w3 aC ay cS bV cL;refine Pw ?_;refine yW ?_;intro b4 dQ dV;refine B 11 ?_;refine rr (.agg (xq Z cs la lc ⟨ia,ic,ta,tc⟩)) (af isAgg92 sizeOf92 rfl A1 aH aF zL rfl) ?_;refine LV ?_;refine GX (enc:=mD) (m:=143) (t:=101) (v:=id) (Φ:=λW w9 ds=>ds.map pf=Jy Z cs G.g/\∀d∈ds,oc Z cs G.g d/\aL w9.heap.size w9 d.x/\aW W.heap.size d.x) call102 rfl rfl rfl D1 (λW hS=>nZi hZ cs hcs dD N la lc W (aS hN (hS.links w A2).size) (aJ.up (ao _) (hS.same A2 hN zU zP)) (λc hc=>(hC c hc).up (ao _) (hS.same A2 hN zU zP)) ia ic ta tc (hp.up (ao _) (hS.same A2 hN zU zP)) G (hG.up (ao _) (hS.same A2 hN zU zP)) (hg.old hS A2 zU zP)) ?_;rintro W9 ds a9 c9 w9 lF vF ⟨bO,tz⟩ lf ado;have mz:=vF.size;have aht:=(lF.links w3 A0).size;have Ou:ds.length<=cs.length:=by
  have h1:=congrArg List.length bO;rw[fl]at h1;unfold Jy at h1;rw[List.length_mergeSort]at h1;unfold uK at h1;have h2:=Ad (D3 Z cs G.g) (((bB Z cs cs.length).take (bB Z cs cs.length).length).map λp=>p.2.toNat);rw[fl,kj]at h2;omega
 have TO:ah dF 143 w9.heap.size w9 a9 ds:=lf;have MQ:=(lF.lt (b4,_) A0);try dsimp only at MQ
 refine B 5 ?_;refine CJ.loop (α:=((Rw×Cd)×Bool)×Nat) (λp9=>[(2,ptr b2 0),(3,ptr b3 0),(4,ptr b4 0),(5,.bool p9.1.2),(6,p9.1.1.1.val (fy (λd:Cd=>d.c) ds p9.2).1.length),(12,.slice a9 ds.length c9),(13,.int .i64 (ds.length:Int)),(14,.int .i64 (p9.2:Int))]) (λp9=>[(b4,.cells (dF p9.1.1.2) 101 (0,0))]++(p9.1.1.1.hp mD 101 (fy (λd:Cd=>d.c) ds p9.2).1++[])) (λp9=>[w9,w3,w2,w]) (λp9=>Gh.no) (λp9=>p9.2<=ds.length/\p9.1.1.1.Fr Gh.no [w9,w3,w2,w]/\p9.1.1.1.Fit 143 (fy (λd:Cd=>d.c) ds p9.2).1/\((p9.1.2=false/\(fy (λd:Cd=>d.c) ds p9.2).2=none/\p9.1.1.2=vW)\/(p9.1.2=true/\(fy (λd:Cd=>d.c) ds p9.2).2=some p9.1.1.2))) (λp9=>ds.length-p9.2) (((.nil,vW),false),0) ⟨cZ _,True.intro,rfl,.inl ⟨rfl,rfl,rfl⟩⟩ zR rfl rfl z1 ?_;rintro⟨⟨⟨r,tA⟩,TP⟩,k⟩ ⟨hk,bG,al,BU⟩;dsimp only at hk bG al BU ⊢;have cM:r.ge w9.heap.size:=Rw.ge_of bG A0;have BT:=XX (λd:Cd=>d.c) ds k;have hlf:=nGn (λd:Cd=>d.c) ds k;refine B 6 ?_;refine aK ?_ ?_
 ·intro aj;refine B 5 ?_;obtain⟨b9,o9,cs9,t9,fr9,rfl,hb9,adp,TQ⟩:=TO.get zM;obtain⟨d,hd⟩:=nk ds k zM;have hn9:=ado _ rfl;try dsimp only at hn9
  refine B 2 ?_;refine rq (.agg (dF d)) (ag isAgg101 sizeOf101 rfl A0 adp zX TM (ni TQ hd rfl)) (va (np TQ hd rfl)) ?_;refine Pw ?_;refine yW ?_;intro b8 wt wu;refine MR ?_;refine B 6 ?_;have adr:∀W,St Gh.no [w9,w3,w2,w] ([(b8,.cells (dF d) 101 (0,0)),(b4,.cells (dF tA) 101 (0,0))]++(r.hp mD 101 (fy (λd:Cd=>d.c) ds k).1++[])) W->r.At mD 101 (fy (λd:Cd=>d.c) ds k).1 W:=λW hS=>by
   cases r with
   |nil=>trivial
   |row b cap sp=>exact hS.own (b,_) vv
  refine call call103 rfl rfl rfl (λW hS=>by
   obtain⟨a5,c5,he5,hs5⟩:=Rw.sl D1 al (adr W hS) (ao W.heap.size);rw[he5];exact n0i (λx=>decide (x.c.author≠d.c.author)&&x.c.chs.any (uH d.c.author)) 104 [ptr b8 0] call104 (fy (λd:Cd=>d.c) ds k).1 zM W.heap.size a5 c5 W (ao _) hs5 (λj x hx W2 hB=>by
    have WH:=(BT.1 x (cC hx));have hxc:x.c∈cs:=cC (tz x WH).1.at_;have cb:=(dD x.c hxc).few.chs;have hwl:=(hS.links w A3).size;exact BG d x zM N b8 W2 (aS hN (aS hwl hB.size)) (((hC x.c hxc).chs.up (ao _) (hS.same A3 hN zU TN)).up (ao _) (λq hq=>hB.block q zM)) (by rw[hB.block b8 (hS.lt (b8,_) A0)];exact hS.own (b8,_) A0))) (v:=.bool (sH (λd:Cd=>d.c) (fy (λd:Cd=>d.c) ds k).1 d)) ?_
  refine B 5 ?_;have hx:=hd;refine B 4 ?_;refine aK ?_ ?_
  ·intro aN;refine SR ?_;refine PJ.again (((r,tA),TP),k+1) ⟨by dsimp only;omega,bG,by dsimp only;rw[XY hd gO];exact al,by dsimp only;rw[XY hd gO];exact BU⟩ dL ⟨rfl,rfl,rfl,rfl,by rw[XY hd gO];rfl,rfl,rfl,rfl,trivial⟩ (by rw[XY hd gO];rfl) rfl z1
  intro aN;refine B 3 ?_;have bY:sH (λd:Cd=>d.c) (fy (λd:Cd=>d.c) ds k).1 d=false:=by assumption
  refine B 2 ?_;refine TR ?_;refine k9 underlying194 sizeOf101 zeroValue101 rfl rfl rfl rfl rfl rfl rfl ?_;refine yW ?_;intro K8 aa8 aa9;refine oY (r:=r) (xs:=(fy (λd:Cd=>d.c) ds k).1) (zs:=[d]) (enc:=mD) (m:=143) (H0:=[(K8,.cells (dF d) 101 (0,0)),(b8,.cells (dF d) 101 (0,0)),(b4,.cells (dF tA) 101 (0,0))]) (H1:=[]) wQ BD D1 rfl rfl rfl rfl (dt.one (z:=d) D1 njj underlying194 (bL.own (i:=0) rfl)) al bG z1 DO ?_;intro FH wR wS oZ mN;replace oZ:=yb oZ;refine B 4 ?_;have hdm:=cC hd;have hdc:d.c∈cs:=cC (tz d hdm).1.at_;have ahu:=(dD d.c hdc).few.chs;have sI:(Rw.row FH wR wS).ge w.heap.size:=by rcases oZ with h|h;(have:=Rw.ge_at cM h;show w.heap.size<=FH;omega);(show w.heap.size<=FH;omega)
  have agG:w.heap.size<=FH:=sI;refine CJ.dropAt (i:=0) rfl zZ ?_;rcases BU with⟨rfl,aR,rfl⟩|⟨rfl,aR⟩
  ·refine zHg ?_;refine nl 6 [.det [] _,.det [0] _,.det [1] _,.det [2] undef,.det [2,3] undef,.det [2] undef] zT (xc zO (xc Py (xc zO (xc zN (xc zN (xc zN (xn))))))) zT zT zT (λab=>?_);refine B 7 ?_;refine TR ?_;refine zVh ?_;refine SR ?_;refine PJ.again (((Rw.row FH wR wS,d),true),k+1) ⟨by dsimp only;omega,oZ.elim (λh=>Rw.Fr_at bG h) (λh=>.inr h),by dsimp only;rw[yo hd bY];exact mN,.inr ⟨rfl,by dsimp only;rw[yo hd bY];dsimp only;rw[aR];rfl⟩⟩ dL ⟨rfl,rfl,rfl,rfl,by rw[yo hd bY];rfl,rfl,rfl,rfl,trivial⟩ (by rw[yo hd bY];rfl) rfl z1
  have jb:=(BT.2 tA aR);have hbc:tA.c∈cs:=cC (tz tA jb).1.at_;have jH:=(dD tA.c hbc).few.chs;refine zHg ?_;refine nl 6 [.det [] _,.det [0] _,.det [1] _,.det [2] _,.det [2,3] (.int .i64 (vP d.c.chs:Int)),.det [2] _] zT (xc zO (xc Py (xc zO (xc (by exact λab=>X.val rfl rfl (RV.re (v':=.agg (dF d)) (aP (i:=0) rfl isAgg101 sizeOf101 rfl rfl) (rfl)) (λ_ _=>rfl)) (xc (by exact λab=>nf call106 rfl rfl (λW hS _=>nDh d zM N W (aS hN (hS.links w A3).size) ((hC d.c hdc).chs.up (ao _) (hS.same A3 hN zU zQd))) (λ_=>rfl)) (xc (by exact λab=>X.val rfl rfl (RV.re (v':=.agg (dF tA)) (aP (i:=1) rfl isAgg101 sizeOf101 rfl rfl) (rfl)) (λ_ _=>rfl)) (xn))))))) zT zT zT (λab=>?_);refine call call106 rfl rfl rfl (λW hS=>nDh tA zM N W (aS hN (hS.links w A3).size) ((hC tA.c hbc).chs.up (ao _) (hS.same A3 hN zU zQd))) (v:=.int .i64 (vP tA.c.chs:Int)) ?_;refine B 4 ?_;refine aK ?_ ?_
  ·intro cN;refine B 1 ?_;refine TR ?_;refine zVh ?_;refine SR ?_;refine PJ.again (((Rw.row FH wR wS,d),true),k+1) ⟨by dsimp only;omega,oZ.elim (λh=>Rw.Fr_at bG h) (λh=>.inr h),by dsimp only;rw[yo hd bY];exact mN,.inr ⟨rfl,by dsimp only;rw[yo hd bY];dsimp only;rw[aR];exact if_pos dL⟩⟩ dL ⟨rfl,rfl,rfl,rfl,by rw[yo hd bY];rfl,rfl,rfl,rfl,trivial⟩ (by rw[yo hd bY];rfl) rfl z1
  intro cN;refine wT ?_;refine PJ.again (((Rw.row FH wR wS,tA),true),k+1) ⟨by dsimp only;omega,oZ.elim (λh=>Rw.Fr_at bG h) (λh=>.inr h),by dsimp only;rw[yo hd bY];exact mN,.inr ⟨rfl,by dsimp only;rw[yo hd bY];dsimp only;rw[aR];exact if_neg dL⟩⟩ dL ⟨rfl,rfl,rfl,rfl,by rw[yo hd bY];rfl,rfl,rfl,rfl,trivial⟩ (by rw[yo hd bY];rfl) rfl z1
 intro aj;refine B 7 ?_;refine rr (.agg (dF tA)) (aP (i:=0) rfl isAgg101 sizeOf101 rfl rfl) ?_;refine B 1 ?_;refine MR ?_;refine B 4 ?_;have hke:k=ds.length:=by omega
 rw[hke]at BU;have hwI:=adn bO (λd hd=>(tz d hd).1);refine bH (.inl rfl) results52 (RS.wA (i:=0) rfl isAgg101 sizeOf101 rfl (aV rfl) (RS.t rfl RS.n)) λW hS=>⟨(tA,TP),rfl,?_,?_⟩
 ·exact(hS.links w A3).below (λk hk hx=>by rcases hx with hx|hx;(exact hx);simp only[dz,eY,dX,dE,gj,eE,iD,cO,cP,fG,or_false]at hx;rcases hx with hx|hx;(omega);(have:=Rw.mem_ge cM hx;omega))
 rcases BU with⟨h1,h2,_⟩|⟨h1,h2⟩
 ·exact .inr ⟨h1,by rw[hwI,h2];rfl⟩
 have jb:=(XX (λd:Cd=>d.c) ds ds.length).2 tA h2;have XZ:=tz tA jb;exact .inl ⟨h1,by rw[hwI,h2];rfl,XZ.1,XZ.2.1.toG XZ.2.2 hS A0 (ao _) (λb hb aH=>⟨λh=>h,TM⟩),XZ.2.2.mono zM⟩
end Px
