/- Contracts of functions of the program. No condition beyond those stated. -/
import Derived.Test.YtpgobjebhigaoaaGreatDoorKe
import Derived.Test.YtpgobjebhigaoaaGreatDoorProg
import Derived.Shelf.SlSortCmp.WholeK
import Derived.Deep.RegionWith
import Derived.Handy
import Derived.Lib.Bytealg
import Derived.Laws.Externs
import Derived.Test.YtpgobjebhigaoaaGreatDoorLa
set_option linter.unusedSimpArgs false
set_option linter.unusedVariables false
set_option linter.unusedSectionVars false
set_option maxRecDepth 20000
set_option maxHeartbeats 8000000
namespace Px
open Go Go.RowKit Go.Proofs Go.Proofs.Tryz
theorem JC{ns:List Nd}(h:AD ns):∀(i:Nat) (x:Nd),ns[i]? =some x->(i:Int)+1<=x.at_
 |0,x,hx=>by have:=(h 0 x hx).1;omega
 |i+1,x,hx=>by
  obtain⟨y,hy⟩:=nj ns i (by have:=nF hx;omega);have h1:=JC h i y hy;have h2:=(h (i+1) x hx).2.2.1 y zM (by simpa using hy);omega
variable {Z:Fx} {G:Gh} {g:Gp} {F H:ad} {au d:Int} {ns:List Nd} {sp:List Value} {L:List World} {N N' b i j k:Nat} {a:Option Addr} {r:Rw} {v:Value} {W w':World}
theorem MA(h:AD ns):ns.length<=1023:=by
 by_cases h0:ns.length=0
 ·omega
 obtain⟨x,hx⟩:=nj ns (ns.length-1) zM;have h1:=JC h _ x hx;have h2:=(h _ x hx).2.1;omega
theorem nln(h:eH g=true):g.ns.length<=1023/\g.ms.length<=1023:=by
 have h1:=AU.1 h;have h2:=MA (F9.1 h1.1.2.2.2);refine⟨h2,?_⟩;have h3:=congrArg List.length h1.2.2.1;rw[fy]at h3;have:=ncm g.ns;omega
def MB (f e:Int) (id:Nat->Int) (a b:Value):Array Value:=#[.int .i64 f,.int .i64 e,.int .u8 (id 0),.int .u8 (id 1),.int .u8 (id 2),.int .u8 (id 3),.int .u8 (id 4),.int .u8 (id 5),.int .u8 (id 6),.int .u8 (id 7),.int .u8 (id 8),.int .u8 (id 9),.int .u8 (id 10),.int .u8 (id 11),.int .u8 (id 12),.int .u8 (id 13),.int .u8 (id 14),.int .u8 (id 15),.int .u8 (id 16),.int .u8 (id 17),.int .u8 (id 18),.int .u8 (id 19),.int .u8 (id 20),.int .u8 (id 21),.int .u8 (id 22),.int .u8 (id 23),.int .u8 (id 24),.int .u8 (id 25),.int .u8 (id 26),.int .u8 (id 27),.int .u8 (id 28),.int .u8 (id 29),.int .u8 (id 30),.int .u8 (id 31),a,b]
theorem GS(f e:Int)(id:Nat->Int)(r r':Rw)(n m:Nat):nU (Value.agg (MB f e id (r.val n) (r'.val m))).cells.toList=true:=by cases r<;>cases r'<;>rfl
def kJ (e:Int) (l:List Ch):List Mb:=(l.filter λx=> !decide (x.kind=2)).map λy=>⟨y.dev,e,y.ver⟩
theorem n1m{e:Int}{l:List Ch}{x:Ch}(hx:l[j]? =some x)(h:¬x.kind=2)(F:List Mb):F++kJ e (l.take (j+1))=(F++kJ e (l.take j))++[⟨x.dev,e,x.ver⟩]:=by rw[nC hx];simp[kJ,h]
theorem BM{e:Int}{l:List Ch}{x:Ch}(hx:l[j]? =some x)(h:x.kind=2)(F:List Mb):F++kJ e (l.take (j+1))=F++kJ e (l.take j):=by rw[nC hx];simp[kJ,h]
theorem nyj(e:Int)(l:List Ch):(kJ e l).length<=l.length:=by unfold kJ;rw[fy];exact Ap _ _
theorem Tx(e:Int)(l:List Ch)(F:List Mb):F++kJ e (l.take 0)=F:=by simp[kJ]
noncomputable def BN (Z:Fx) (g:Gp) (c:Cm):Gp:=⟨g.folder,c.epoch,aR Z c,ou (g.ms.filter (λx=> !eS c.chs x)++kJ c.epoch c.chs),bD (dn g.ns c.chs) c.author c.path⟩
theorem BO(hd:dV d)(l:List Int):(bD ns d l).length<=ns.length+10:=by
 unfold bD;split
 ·rw[n3g];have h1:=n3k (kv:=dc ns) hd l;have h2:=Pu ns;omega
 simp
theorem Rw.val_new{n cp:Nat}(h:r.ge k)(e:r.val n= .slice a n cp):∀q,a=some q->k<=q.block:=by
 intro q hq;cases r with
 |nil=>simp only[Rw.val,Value.slice.injEq]at e;rw[<-e.1]at hq;cases hq
 |row b cap sp=>simp only[Rw.val,Value.slice.injEq]at e;rw[<-e.1]at hq;cases hq;exact h
theorem GU(hZ:FxOk Z)(G:Gv)(c:Cm)(dM:cI c)(N:Nat)(w:World)(hN:N<=w.heap.size)(hG:aM N w G)(hC:dQ N w c)(hg:Glb w)(hv:eH G.g=true)(jj:qO c=0)(hf:kH G.g c=true)(dG:gq G.g c.author c.chs=0)(hb:uT G.g c=true)(hw:xx c=true)(o5:BI Z G.g c=true)(e:Int)(XX:mm (dn G.g.ns c.chs) c.author=e)(he:e=0):Calls prog 101 #[.agg (aZ G),.agg (dZ c)] w (yx w (BN Z G.g c) 0):=by
 have oV:=AU.1 hv;have PO:=oV.1.2.2.1;have sK:=oV.1.2.1;have ei:=Mc.1 jj;have xv:=ei.e1;have xw:=ei.e2;obtain⟨h1,h2,h3⟩:=PN hf;have pL:=ei.au;have uw:=dM.few.chs;have wH:=dM.few.bxs;have PE:=dM.few.wes;have ew:=hg.lt;obtain⟨XV,pZ,L6⟩:=nUk hv dG;obtain⟨PB,uq⟩:=nvl XV;have O7:=hG.nn;have mh:=Xv c.chs G.g.ns;obtain⟨T,hT⟩:∃T,dn G.g.ns c.chs=T:=⟨_,rfl⟩;rw[hT]at XX mh;have hpl:=ei.pl;have kD:∀y∈c.path,cE y:=λy hy=>by obtain⟨i,hi⟩:=iQ.1 hy;exact ei.path i y hi
 have ahD:=nln hv;refine GM ?_;refine yV ?_;intro b2 w2 aI aE dY cA db;refine yX ?_;intro b3 w3 aJ aD dr bY cR;refine qV ?_;refine yW ?_;intro b4 dD dH;refine Tu ?_;intro Wn an cn wn hJ od sL pW;have sM:=hJ.sizes;replace sM:=yb sM;have Bh:=od.size;have pR:=hJ.under;replace pR:=yg pR;refine Tv ?_;refine nK 15 [13] [([],some _),([0],some _),([],some _),([],some _),([1,2,3],some (.bool true)),([4],some _),([5],some _),([6],some _),([6,7],some _),([6],some _),([6,9],some _),([6],some _),([6,11],some _),([6,10,12],none),([6],some _)] (λcv L' H'=>match cv with| []=>L'=[wn,w3,w2,w]/\H'=[(b4,.cells (aZ kS) 57 (0,0))]| [v1]=>∃(aw:Option Addr) (cw:Nat) (ww:World),v1= .slice aw (ie c.author c.chs).length cw/\L'=[ww,wn,w3,w2,w]/\H'=[(b4,.cells (aZ kS) 57 (0,0))]/\ah eR 5 ww.heap.size ww aw (ie c.author c.chs)/\∀q,aw=some q->wn.heap.size<=q.block|_=>False) zT ⟨rfl,rfl⟩ zT zT zT zT zT zT (pc XR (pc pX (pc zW (pc zW (pc pX (pc XS (pc zW (pc XT (pc pX (pc xr (pc pX (pc GP (pc pX (pk (pc zW (pn)))))))))))))))) ?_ ?_
 ·exact XU
 intro cv L' H' hl hP;obtain⟨v1,rfl⟩:=di hl;obtain⟨aw,cw,ww,rfl,rfl,rfl,pY,sN⟩:=hP;refine zEi ?_;refine nK 10 [7] [([],some (.agg (aZ G))),([],some _),([1],some _),([],some _),([3],some (.slice c.ca c.chs.length c.cc)),([0,2,4],some (.int .i64 (lu G.g c.author c.chs))),([],some (.agg (dZ c))),([6],none),([],some _),([8],some (.agg #[.int .i64 c.sr,.int .i64 c.ss]))] (λcv L' H'=>match cv with| []=>L'=[ww,wn,w3,w2,w]/\H'=[(b4,.cells (aZ kS) 57 (0,0))]| [v1]=>∃(bm:Nat) (wm:World),v1= .slice (some ⟨bm,0,none⟩) 32 32/\L'=[wm,ww,wn,w3,w2,w]/\H'=[(b4,.cells (aZ kS) 57 (0,0))]/\wm.heap[bm]? =some (.cells (dg (oi Z c)) 34 (0,0))/\wn.heap.size<=bm|_=>False) zT ⟨rfl,rfl⟩ zT zT zT zT zT zT (pc rH (pc xr (pc rH (pc GP (pc rH (pc rH (pc rH (pk (pc Tg (pc rH (pn))))))))))) ?_ ?_
 ·exact zoj
 intro cv L' H' hl hP;obtain⟨v1,rfl⟩:=di hl;obtain⟨bm,wm,rfl,rfl,rfl,jh,hgm⟩:=hP;refine zEf ?_;refine S2 ?_;refine B 6 ?_;refine zLe ?_;refine nk 6 [.det [] _,.det [0] _,.det [] _,.det [2] _,.det [] _,.det [4] (.agg (dg (aR Z c)))] zT (xc AX (xc (by exact λae=>X.val rfl rfl (aa isAgg3 rfl A4 aI aE zL rfl) (λ_ _=>rfl)) (xc (by exact λae=>X.val rfl rfl (ak underlying99 rfl sizeOf3 rfl) (λ_ _=>rfl)) (xc (by exact λae=>X.val rfl rfl (aa isAgg3 rfl A3 aJ aD zL rfl) (λ_ _=>rfl)) (xc zWd (xc zNd (xn))))))) zT zT zT (λae=>?_);refine z6f ?_;refine GR ?_;refine B 4 ?_;have xh:=(aL.1 jh).1;refine zIe ?_;refine Tw 14 [3,8,9,10,13] [([],some (.agg (aZ G))),([],some _),([1],some (.slice c.ca c.chs.length c.cc)),([0,2],none),([],some _),([4],some _),([],some _),([6],some (.slice c.pa c.path.length c.pc)),([3,5,7],none),([8],none),([9],none),([9],some (.int .i64 e)),([],some _),([10,12],none)] (λcv L' H'=>match cv with| []=>L'=[wm,ww,wn,w3,w2,w]/\H'=[(b4,.cells (aZ (⟨⟨G.g.folder,c.epoch,aR Z c,[],[]⟩,none,0,none,0⟩:Gv)) 57 (0,0))]| [v1]=>∃(ta:Option Addr) (tc:Nat) (wr:World),v1= .agg #[.slice ta T.length tc]/\L'=[wr,wm,ww,wn,w3,w2,w]/\H'=[(b4,.cells (aZ (⟨⟨G.g.folder,c.epoch,aR Z c,[],[]⟩,none,0,none,0⟩:Gv)) 57 (0,0))]/\ah gf 2 wr.heap.size wr ta T/\(∀b off,ta=some ⟨b,off,none⟩->T=[]\/b<N\/wm.heap.size<=b)/\wm.heap.size<=wr.heap.size| [v1,v2]=>∃(ta:Option Addr) (tc:Nat) (wr:World) (r8:Rw),v1= .agg #[.slice ta T.length tc]/\v2= .tuple #[.agg #[r8.val (bD T c.author c.path).length],.int .i64 e]/\L'=[wr,wm,ww,wn,w3,w2,w]/\H'=[(b4,.cells (aZ (⟨⟨G.g.folder,c.epoch,aR Z c,[],[]⟩,none,0,none,0⟩:Gv)) 57 (0,0))]++(r8.hp fw 355 (bD T c.author c.path)++[])/\ah gf 2 wr.heap.size wr ta T/\(∀b off,ta=some ⟨b,off,none⟩->T=[]\/b<N\/wm.heap.size<=b)/\wm.heap.size<=wr.heap.size/\Rw.Fr Gh.no [wr,wm,ww,wn,w3,w2,w] r8/\r8.Fit 2 (bD T c.author c.path)/\r8.ge wr.heap.size| [v1,v2,v3]=>∃(ta:Option Addr) (tc:Nat) (wr:World) (r8:Rw),v1= .agg #[.slice ta T.length tc]/\v2= .tuple #[.agg #[r8.val (bD T c.author c.path).length],.int .i64 e]/\v3= .tuple #[.agg #[r8.val (bD T c.author c.path).length],.int .i64 e]/\L'=[wr,wm,ww,wn,w3,w2,w]/\H'=[(b4,.cells (aZ (⟨⟨G.g.folder,c.epoch,aR Z c,[],[]⟩,none,0,none,0⟩:Gv)) 57 (0,0))]++(r8.hp fw 355 (bD T c.author c.path)++[])/\ah gf 2 wr.heap.size wr ta T/\(∀b off,ta=some ⟨b,off,none⟩->T=[]\/b<N\/wm.heap.size<=b)/\wm.heap.size<=wr.heap.size/\Rw.Fr Gh.no [wr,wm,ww,wn,w3,w2,w] r8/\r8.Fit 2 (bD T c.author c.path)/\r8.ge wr.heap.size| [v1,v2,v3,v4]=>∃(ta:Option Addr) (tc:Nat) (wr:World) (r8:Rw),v1= .agg #[.slice ta T.length tc]/\v2= .tuple #[.agg #[r8.val (bD T c.author c.path).length],.int .i64 e]/\v3= .tuple #[.agg #[r8.val (bD T c.author c.path).length],.int .i64 e]/\v4= .agg #[r8.val (bD T c.author c.path).length]/\L'=[wr,wm,ww,wn,w3,w2,w]/\H'=[(b4,.cells (aZ (⟨⟨G.g.folder,c.epoch,aR Z c,[],[]⟩,none,0,none,0⟩:Gv)) 57 (0,0))]++(r8.hp fw 355 (bD T c.author c.path)++[])/\ah gf 2 wr.heap.size wr ta T/\(∀b off,ta=some ⟨b,off,none⟩->T=[]\/b<N\/wm.heap.size<=b)/\wm.heap.size<=wr.heap.size/\Rw.Fr Gh.no [wr,wm,ww,wn,w3,w2,w] r8/\r8.Fit 2 (bD T c.author c.path)/\r8.ge wr.heap.size| [v1,v2,v3,v4,v5]=>∃(ta:Option Addr) (tc:Nat) (wr:World) (r8:Rw),v1= .agg #[.slice ta T.length tc]/\v2= .tuple #[.agg #[r8.val (bD T c.author c.path).length],.int .i64 e]/\v3= .tuple #[.agg #[r8.val (bD T c.author c.path).length],.int .i64 e]/\v4= .agg #[r8.val (bD T c.author c.path).length]/\v5= .tuple #[]/\L'=[wr,wm,ww,wn,w3,w2,w]/\H'=[(b4,.cells (setCells (aZ (⟨⟨G.g.folder,c.epoch,aR Z c,[],[]⟩,none,0,none,0⟩:Gv)) 35 [r8.val (bD T c.author c.path).length]) 57 (0,0))]++(r8.hp fw 355 (bD T c.author c.path)++[])/\ah gf 2 wr.heap.size wr ta T/\(∀b off,ta=some ⟨b,off,none⟩->T=[]\/b<N\/wm.heap.size<=b)/\wm.heap.size<=wr.heap.size/\Rw.Fr Gh.no [wr,wm,ww,wn,w3,w2,w] r8/\r8.Fit 2 (bD T c.author c.path)/\r8.ge wr.heap.size|_=>False) zT ⟨rfl,rfl⟩ zT zT zT zT zT zT zT (pc JB (pc GP (pc JB (pk (pc xr (pc JB (pc zBc (pc JB (pk (pk (pk (pc (λcv L' H' hd hP=>match cv,hd,hP with| [],hd,hP=>(absurd (show false=true from hd) zQ)| [v1],hd,hP=>(absurd (show false=true from hd) zQ)| [v1,v2],hd,hP=>(absurd (show false=true from hd) zQ)| [v1,v2,v3],hd,hP=>zTc| [v1,v2,v3,v4],hd,hP=>zQc| [v1,v2,v3,v4,v5],hd,hP=>zNc|_::_::_::_::_::_::_,_,hP=>hP.elim) (pc SM (pk (pn))))))))))))))) ?_ ?_
 ·exact z8i
 intro cv L' H' hl hP;obtain⟨v1,v2,v3,v4,v5,rfl⟩:=iB hl;obtain⟨ta,tc,wr,r8,rfl,rfl,rfl,rfl,rfl,rfl,rfl,oL,eX,mH,kI,eT,eU⟩:=hP;refine B 6 ?_;refine XQ ?_;refine B 14 ?_;refine rr (.slice G.ma G.g.ms.length G.mc) (aa isAgg52 rfl A5 aI aE GV rfl) ?_;refine Am (enc:=kR) (m:=3) (t:=210) (xs:=G.g.ms) (v:=id) (first:=[]) (cap:=[]) rfl call160 rfl rfl rfl (λW hS=>Bu G.g.ms zM N G.ma G.mc W (aS hN (hS.links w A6).size) (hG.ms.up (ao _) (hS.same A6 hN zU (by simp only[Over,n0,fj,eg,dN,dC,and_true];(repeat' apply And.intro);all_goals first|omega|exact True.intro|exact Rw.over (Rw.ge_mono eU zM))))) ?_;intro r9 Ty BP;have vY:=Rw.ge_of Ty A0;refine B 1 ?_;refine wZ (r:=r9) (enc:=kR) (m:=3) (t:=210) (xs:=G.g.ms) (ys:=(G.g.ms.filter λx=> !eS c.chs x)) (H0:=[]) (H1:=[(b4,.cells (setCells (aZ (⟨⟨G.g.folder,c.epoch,aR Z c,[],[]⟩,none,0,none,0⟩:Gv)) 35 [r8.val (bD T c.author c.path).length]) 57 (0,0))]++(r8.hp fw 355 (bD T c.author c.path)++[])) (v:=λr=>r.val (G.g.ms.filter λx=> !eS c.chs x).length) rfl call159 rfl rfl rfl (λhr W hS=>?_) (λb cap sp hr W hS h=>?_) ?_
 ·subst hr;have h0:G.g.ms=[]:=BP;rw[h0];exact(nHh 156 [ptr b3 0] call156 W).mono λe w2 h=>⟨h.1,rfl,h.2⟩
 ·subst hr;have hbA:wr.heap.size<=b:=vY;have hzz:=(hS.links w A6).size;have ahE:=(hS.links w3 A4).size;have ahF:=(aL.1 aJ).1;exact nNk (eS c.chs) 156 [ptr b3 0] call156 G.g.ms zM b cap sp W h BP (λj x hx W2 hK Tr=>Ms c dM.few N b3 x W2 (aS hN (aS hzz hK.size)) (hC.up (ao _) (λk hk=>(hK.block k zM zM).trans (hS.same A6 hN zU (by simp only[Over,n0,fj,eg,dN,dC,and_true];(repeat' apply And.intro);all_goals first|omega|exact True.intro|exact Rw.over (Rw.ge_mono eU zM)|exact Rw.over (Rw.ge_mono vY zM)) k hk))) (by rw[hK.block b3 zM zM];exact hS.old A4 aJ aD (by simp only[bE,ne,fj,eg,dN,dC,and_true];(repeat' apply And.intro);all_goals first|omega|exact True.intro|exact Rw.off_ge eU zM|exact Rw.off_ge vY zM)))
 intro XY MC Tz TA adl;have TB:=Tz Ty;have MD:=TA _ vY;refine B 1 ?_;refine OJ.perm (H':=[(b4,.cells (MB G.g.folder c.epoch (aR Z c) (.slice none 0 0) (r8.val (bD T c.author c.path).length)) 57 (0,0))]++(r8.hp fw 355 (bD T c.author c.path)++(XY.hp kR 210 (G.g.ms.filter λx=> !eS c.chs x)++[]))) (by simp only[eg,dN,fj];exact List.perm_append_comm) ?_;refine kq (i:=0) rfl sizeOf52 rfl rfl rfl (Rw.val_size _ _) (aT rfl) (Rw.val_one _ _) ?_;refine B 6 ?_;refine rr (.slice c.ca c.chs.length c.cc) (aa isAgg95 rfl A4 aJ aD (by simp only[bE,ne,book,fj,eg,dN,iH,dC,fk,qx,rV,ne_eq,and_true];(repeat' apply And.intro);all_goals first|omega|exact True.intro|exact Rw.off_ge eU zM|exact Rw.off_ge MD zM) rfl) ?_;refine B 5 ?_;have tX:=Tx c.epoch c.chs (G.g.ms.filter λx=> !eS c.chs x);refine CJ.reH (H':=[(b4,.cells (MB G.g.folder c.epoch (aR Z c) (XY.val ((G.g.ms.filter λx=> !eS c.chs x)++kJ c.epoch (c.chs.take 0)).length) (r8.val (bD T c.author c.path).length)) 57 (0,0))]++(r8.hp fw 355 (bD T c.author c.path)++(XY.hp kR 210 ((G.g.ms.filter λx=> !eS c.chs x)++kJ c.epoch (c.chs.take 0))++[]))) (by rw[tX,Rw.val_cells];rfl) ?_;refine CJ.loop (α:=Rw×Nat) (λp=>[(2,ptr b2 0),(3,ptr b3 0),(4,ptr b4 0),(121,.slice c.ca c.chs.length c.cc),(122,.int .i64 (c.chs.length:Int)),(123,.int .i64 (p.2:Int))]) (λp=>[(b4,.cells (MB G.g.folder c.epoch (aR Z c) (p.1.val ((G.g.ms.filter λx=> !eS c.chs x)++kJ c.epoch (c.chs.take p.2)).length) (r8.val (bD T c.author c.path).length)) 57 (0,0))]++(r8.hp fw 355 (bD T c.author c.path)++(p.1.hp kR 210 ((G.g.ms.filter λx=> !eS c.chs x)++kJ c.epoch (c.chs.take p.2))++[]))) (λp=>[wr,wm,ww,wn,w3,w2,w]) (λp=>Gh.no) (λp=>p.2<=c.chs.length/\p.1.Fr Gh.no [wr,wm,ww,wn,w3,w2,w]/\p.1.Fit 3 ((G.g.ms.filter λx=> !eS c.chs x)++kJ c.epoch (c.chs.take p.2))) (λp=>c.chs.length-p.2) (XY,0) ⟨dx _,TB,by rw[tX];exact MC⟩ zR rfl rfl z1 ?_
 rintro⟨r,j⟩ ⟨hj,bH,al⟩;dsimp only at hj bH al ⊢;have cO:r.ge wr.heap.size:=Rw.ge_of bH A0;have uS:=Ap (λx=> !eS c.chs x) G.g.ms;have rB:=nyj c.epoch (c.chs.take j);rw[kx]at rB;refine B 6 ?_;refine aO ?_ ?_
 ·intro aj;refine B 5 ?_;obtain⟨bo,oo,cs0,to,fA,iV,fG,hcs,ar⟩:=hC.chs.get zM;obtain⟨x,hx⟩:=nj c.chs j zM;rw[iV];refine B 2 ?_;refine rq (.agg (eR x)) (ag isAgg233 sizeOf233 rfl A6 hcs zZ (by simp only[bE,ne,fj,eg,dN,dC,and_true];(repeat' apply And.intro);all_goals first|omega|exact True.intro|exact Rw.off_ge eU zM|exact Rw.off_ge cO zM) (nl ar hx rfl)) (va (nq ar hx rfl)) ?_;refine LY ?_;refine yW ?_;intro jH Ft Fu;refine LZ ?_;refine B 9 ?_;refine aO ?_ ?_
  ·intro aQ;refine B 6 ?_;refine rv rfl rfl rfl (aa isAgg3 rfl A4 aJ aD (by simp only[bE,ne,book,fj,eg,dN,iH,dC,fk,qx,rV,ne_eq,and_true];(repeat' apply And.intro);all_goals first|omega|exact True.intro|exact Rw.off_ge eU zM|exact Rw.off_ge cO zM) rfl) ?_;refine B 2 ?_;refine rv rfl rfl rfl (bL underlying210 zeroValue210 (bA.c sizeOf3 (bA.c sizeOf3 (bA.c sizeOf3 (bA.n)))) rfl rfl) ?_;refine lj underlying52 sizeOf210 zeroValue210 rfl rfl rfl rfl rfl rfl rfl ?_;refine yW ?_;intro adm agS agT;refine o8 (r:=r) (xs:=((G.g.ms.filter λx=> !eS c.chs x)++kJ c.epoch (c.chs.take j))) (zs:=[(⟨x.dev,c.epoch,x.ver⟩:Mb)]) (enc:=kR) (m:=3) (H0:=(adm,.cells #[.int .i64 x.dev,.int .i64 c.epoch,.int .i64 x.ver] 210 (0,0))::(jH,.cells (eR x) 233 (0,0))::(b4,.cells (MB G.g.folder c.epoch (aR Z c) (r.val ((G.g.ms.filter λx=> !eS c.chs x)++kJ c.epoch (c.chs.take j)).length) (r8.val (bD T c.author c.path).length)) 57 (0,0))::r8.hp fw 355 (bD T c.author c.path)) (H1:=[]) wU Bs xm rfl rfl rfl rfl (dy.one (z:=(⟨x.dev,c.epoch,x.ver⟩:Mb)) xm Xl underlying52 (bN.own (i:=0) rfl)) al bH z1 xZ ?_;intro adn TC TD BQ GW;replace BQ:=yb BQ;refine B 1 ?_;refine kq (i:=2) rfl sizeOf52 rfl rfl rfl rfl (aT rfl) rfl ?_;refine ME ?_;refine PJ.again (Rw.row adn TC TD,j+1) ⟨by dsimp only;omega,BQ.elim (λh=>Rw.Fr_at bH h) (λh=>.inr h),by rw[n1m hx gM];exact GW⟩ dE zR (by rw[n1m hx gM];rfl) rfl z1
  intro aQ;refine wY ?_;refine PJ.again (r,j+1) ⟨by dsimp only;omega,bH,by rw[BM hx zM];exact al⟩ dE zR (by rw[BM hx zM];rfl) rfl z1
 intro aj;refine B 6 ?_;have bT:c.chs.take j=c.chs:=jo zM;rw[bT]at al ⊢;refine B 3 ?_;have ahG:=nyj c.epoch c.chs;refine wZ (r:=r) (enc:=kR) (m:=3) (t:=210) (xs:=((G.g.ms.filter λx=> !eS c.chs x)++kJ c.epoch c.chs)) (ys:=ou ((G.g.ms.filter λx=> !eS c.chs x)++kJ c.epoch c.chs)) (H0:=(b4,.cells (MB G.g.folder c.epoch (aR Z c) (r.val ((G.g.ms.filter λx=> !eS c.chs x)++kJ c.epoch c.chs).length) (r8.val (bD T c.author c.path).length)) 57 (0,0))::r8.hp fw 355 (bD T c.author c.path)) (H1:=[]) (v:=λ_=>.tuple #[]) rfl call161 rfl rfl rfl (λhr W hS=>?_) (λb cap sp hr W hS h=>?_) ?_
 ·subst hr;have h0:((G.g.ms.filter λx=> !eS c.chs x)++kJ c.epoch c.chs)=[]:=al;rw[h0];exact(nQm W).mono λe w2 h=>⟨h.1,BC,h.2⟩
 ·subst hr;exact Tq (by rw[cC];omega) al h
 intro r11 uH agU TE MF;have BR:=TE _ cO;refine B 5 ?_;refine aV (i:=0) rfl sizeOf57 rfl rfl rfl rfl rfl (GS _ _ _ _ _ _ _) ?_;refine B 4 ?_;refine bJ (.inl rfl) results101 (RS.wA (i:=0) rfl isAgg57 sizeOf57 rfl (aT rfl) (RS.t rfl RS.n)) λW hS=>?_;have ado:r8.At fw 355 (bD T c.author c.path) W:=by
  cases r8 with
  |nil=>trivial
  |row b cap sp=>exact hS.own (b,_) vE
 have TF:r11.At kR 210 (ou ((G.g.ms.filter λx=> !eS c.chs x)++kJ c.epoch c.chs)) W:=by
  cases r11 with
  |nil=>trivial
  |row b cap sp=>exact hS.own (b,_) vE
 obtain⟨a,cp,si,adp⟩:=Rw.sl (xs:=ou ((G.g.ms.filter λx=> !eS c.chs x)++kJ c.epoch c.chs)) xm uH TF (ao W.heap.size);obtain⟨a8,Je,he8,qI⟩:=Rw.sl Si eT ado (ao W.heap.size);have h1:r.val ((G.g.ms.filter λx=> !eS c.chs x)++kJ c.epoch c.chs).length= .slice a (ou ((G.g.ms.filter λx=> !eS c.chs x)++kJ c.epoch c.chs)).length cp:=by rw[<-To ((G.g.ms.filter λx=> !eS c.chs x)++kJ c.epoch c.chs),<-MF];exact si
 have hvl:=nln hv;have ov:=BO (ns:=T) pL c.path;have ahH:=nyj c.epoch c.chs;refine⟨⟨BN Z G.g c,a,cp,a8,Je⟩,?_,?_,rfl,⟨adp,by rw[<-hT]at qI;exact qI,?_,?_⟩,Rw.val_new (Rw.ge_mono BR zM) si,Rw.val_new (Rw.ge_mono eU zM) he8⟩
 ·show Ending.returned (.tuple #[.agg (MB G.g.folder c.epoch (aR Z c) (r.val ((G.g.ms.filter λx=> !eS c.chs x)++kJ c.epoch c.chs).length) (r8.val (bD T c.author c.path).length)),.int .i64 0])=_;rw[h1,he8,<-hT];rfl
 ·exact(hS.links w A6).below (λk hk hx=>by rcases hx with hx|hx;(exact hx);simp only[dC,fj,eg,dN,ga,eF,iz,cS,cP,fm,or_false]at hx;rcases hx with hx|hx|hx;(omega);(have:=Rw.mem_ge eU hx;omega);(have:=Rw.mem_ge BR hx;omega))
 ·show(ou ((G.g.ms.filter λx=> !eS c.chs x)++kJ c.epoch c.chs)).length<=10000;rw[To,cC];omega
 show(bD (dn G.g.ns c.chs) c.author c.path).length<=80000;rw[hT];omega
noncomputable def lL (Z:Fx) (g:Gp) (c:Cm):Int:=
 if eH g=true then(if qO c=0 then(if kH g c=true then(if gq g c.author c.chs=0 then(if uT g c=true then(if xx c=true then(if BI Z g c=true then mm (dn g.ns c.chs) c.author else 222)else 220)else 220)else 221)else 220)else 220)else 1
noncomputable def tE (Z:Fx) (g:Gp) (c:Cm):Gp:=if lL Z g c=0 then BN Z g c else vV
theorem BS{l:List Ch}(hv:eH g=true):gq g au l=0\/gq g au l=221:=by
 unfold gq;rw[if_pos hv];split<;>simp
theorem nOe(hZ:FxOk Z)(G:Gv)(c:Cm)(dM:cI c)(N:Nat)(w:World)(hN:N<=w.heap.size)(hG:aM N w G)(hC:dQ N w c)(hg:Glb w):Calls prog 101 #[.agg (aZ G),.agg (dZ c)] w (yx w (tE Z G.g c) (lL Z G.g c)):=by
 have key:∀e:Int,lL Z G.g c=e->e≠0->Calls prog 101 #[.agg (aZ G),.agg (dZ c)] w (yx w vV e)->Calls prog 101 #[.agg (aZ G),.agg (dZ c)] w (yx w (tE Z G.g c) (lL Z G.g c)):=by
  intro e he h0 h;have:tE Z G.g c=vV:=by unfold tE;rw[he,if_neg h0]
  rw[this,he];exact h
 cases hv:eH G.g with
 |false=>exact key 1 (by simp[lL,hv]) zQ (BD hZ G c dM N w hN hG hC hg hv)
 |true=>
  rcases GF c with jj|jj
  ·cases hf:kH G.g c with
   |false=>exact key 220 (by simp[lL,hv,jj,hf]) zQ (BG hZ G c dM N w hN hG hC hg hv jj hf)
   |true=>
    rcases BS (au:=c.author) (l:=c.chs) hv with dG|dG
    ·cases hb:uT G.g c with
     |false=>exact key 220 (by simp[lL,hv,jj,hf,dG,hb]) zQ (GN hZ G c dM N w hN hG hC hg hv jj hf dG hb)
     |true=>
      cases hw:xx c with
      |false=>exact key 220 (by simp[lL,hv,jj,hf,dG,hb,hw]) zQ (GO hZ G c dM N w hN hG hC hg hv jj hf dG hb hw)
      |true=>
       cases o5:BI Z G.g c with
       |false=>exact key 222 (by simp[lL,hv,jj,hf,dG,hb,hw,o5]) zQ (BJ hZ G c dM N w hN hG hC hg hv jj hf dG hb hw o5)
       |true=>
        have e1:lL Z G.g c=mm (dn G.g.ns c.chs) c.author:=by simp[lL,hv,jj,hf,dG,hb,hw,o5]
        by_cases he:mm (dn G.g.ns c.chs) c.author=0
        ·have e2:lL Z G.g c=0:=e1.trans he;have e3:tE Z G.g c=BN Z G.g c:=by unfold tE;rw[e2,if_pos rfl]
         rw[e2,e3];exact GU hZ G c dM N w hN hG hC hg hv jj hf dG hb hw o5 0 he rfl
        exact key _ e1 he (BL hZ G c dM N w hN hG hC hg hv jj hf dG hb hw o5 _ rfl he)
    exact key 221 (by simp[lL,hv,jj,hf,dG]) zQ (BH hZ G c dM N w hN hG hC hg hv jj hf dG)
  exact key 220 (by simp[lL,hv,jj]) zQ (BF hZ G c dM N w hN hG hC hg hv jj)
theorem BT{l:List Value}(h:l.all (λu=>u.oneCell')=true):∀u∈l,u.oneCell'=true:=λu hu=>pV.1 h u hu
def kK (x:Gv):List Value:=[.int .i64 x.g.folder,.int .i64 x.g.epoch,.int .u8 (x.g.last 0),.int .u8 (x.g.last 1),.int .u8 (x.g.last 2),.int .u8 (x.g.last 3),.int .u8 (x.g.last 4),.int .u8 (x.g.last 5),.int .u8 (x.g.last 6),.int .u8 (x.g.last 7),.int .u8 (x.g.last 8),.int .u8 (x.g.last 9),.int .u8 (x.g.last 10),.int .u8 (x.g.last 11),.int .u8 (x.g.last 12),.int .u8 (x.g.last 13),.int .u8 (x.g.last 14),.int .u8 (x.g.last 15),.int .u8 (x.g.last 16),.int .u8 (x.g.last 17),.int .u8 (x.g.last 18),.int .u8 (x.g.last 19),.int .u8 (x.g.last 20),.int .u8 (x.g.last 21),.int .u8 (x.g.last 22),.int .u8 (x.g.last 23),.int .u8 (x.g.last 24),.int .u8 (x.g.last 25),.int .u8 (x.g.last 26),.int .u8 (x.g.last 27),.int .u8 (x.g.last 28),.int .u8 (x.g.last 29),.int .u8 (x.g.last 30),.int .u8 (x.g.last 31),.slice x.ma x.g.ms.length x.mc,.slice x.na x.g.ns.length x.nc]
theorem n8i(x:Gv):(kK x).length=36:=rfl
theorem GX(x:Gv):∀u∈kK x,u.oneCell'=true:=BT rfl
def mJ (d:Cd):List Value:=[.int .i64 d.at_,.int .i64 d.c.folder,.int .i64 d.c.epoch,.int .u8 (d.c.par 0),.int .u8 (d.c.par 1),.int .u8 (d.c.par 2),.int .u8 (d.c.par 3),.int .u8 (d.c.par 4),.int .u8 (d.c.par 5),.int .u8 (d.c.par 6),.int .u8 (d.c.par 7),.int .u8 (d.c.par 8),.int .u8 (d.c.par 9),.int .u8 (d.c.par 10),.int .u8 (d.c.par 11),.int .u8 (d.c.par 12),.int .u8 (d.c.par 13),.int .u8 (d.c.par 14),.int .u8 (d.c.par 15),.int .u8 (d.c.par 16),.int .u8 (d.c.par 17),.int .u8 (d.c.par 18),.int .u8 (d.c.par 19),.int .u8 (d.c.par 20),.int .u8 (d.c.par 21),.int .u8 (d.c.par 22),.int .u8 (d.c.par 23),.int .u8 (d.c.par 24),.int .u8 (d.c.par 25),.int .u8 (d.c.par 26),.int .u8 (d.c.par 27),.int .u8 (d.c.par 28),.int .u8 (d.c.par 29),.int .u8 (d.c.par 30),.int .u8 (d.c.par 31),.int .i64 d.c.author,.slice d.c.ca d.c.chs.length d.c.cc,.slice d.c.pa d.c.path.length d.c.pc,.slice d.c.ba d.c.bxs.length d.c.bc,.slice d.c.wa d.c.wes.length d.c.wc,.int .u8 (d.c.conf 0),.int .u8 (d.c.conf 1),.int .u8 (d.c.conf 2),.int .u8 (d.c.conf 3),.int .u8 (d.c.conf 4),.int .u8 (d.c.conf 5),.int .u8 (d.c.conf 6),.int .u8 (d.c.conf 7),.int .u8 (d.c.conf 8),.int .u8 (d.c.conf 9),.int .u8 (d.c.conf 10),.int .u8 (d.c.conf 11),.int .u8 (d.c.conf 12),.int .u8 (d.c.conf 13),.int .u8 (d.c.conf 14),.int .u8 (d.c.conf 15),.int .u8 (d.c.conf 16),.int .u8 (d.c.conf 17),.int .u8 (d.c.conf 18),.int .u8 (d.c.conf 19),.int .u8 (d.c.conf 20),.int .u8 (d.c.conf 21),.int .u8 (d.c.conf 22),.int .u8 (d.c.conf 23),.int .u8 (d.c.conf 24),.int .u8 (d.c.conf 25),.int .u8 (d.c.conf 26),.int .u8 (d.c.conf 27),.int .u8 (d.c.conf 28),.int .u8 (d.c.conf 29),.int .u8 (d.c.conf 30),.int .u8 (d.c.conf 31),.int .i64 d.c.sr,.int .i64 d.c.ss,.int .u8 (d.id 0),.int .u8 (d.id 1),.int .u8 (d.id 2),.int .u8 (d.id 3),.int .u8 (d.id 4),.int .u8 (d.id 5),.int .u8 (d.id 6),.int .u8 (d.id 7),.int .u8 (d.id 8),.int .u8 (d.id 9),.int .u8 (d.id 10),.int .u8 (d.id 11),.int .u8 (d.id 12),.int .u8 (d.id 13),.int .u8 (d.id 14),.int .u8 (d.id 15),.int .u8 (d.id 16),.int .u8 (d.id 17),.int .u8 (d.id 18),.int .u8 (d.id 19),.int .u8 (d.id 20),.int .u8 (d.id 21),.int .u8 (d.id 22),.int .u8 (d.id 23),.int .u8 (d.id 24),.int .u8 (d.id 25),.int .u8 (d.id 26),.int .u8 (d.id 27),.int .u8 (d.id 28),.int .u8 (d.id 29),.int .u8 (d.id 30),.int .u8 (d.id 31),.int .i64 d.since,.int .i64 d.x.g.folder,.int .i64 d.x.g.epoch,.int .u8 (d.x.g.last 0),.int .u8 (d.x.g.last 1),.int .u8 (d.x.g.last 2),.int .u8 (d.x.g.last 3),.int .u8 (d.x.g.last 4),.int .u8 (d.x.g.last 5),.int .u8 (d.x.g.last 6),.int .u8 (d.x.g.last 7),.int .u8 (d.x.g.last 8),.int .u8 (d.x.g.last 9),.int .u8 (d.x.g.last 10),.int .u8 (d.x.g.last 11),.int .u8 (d.x.g.last 12),.int .u8 (d.x.g.last 13),.int .u8 (d.x.g.last 14),.int .u8 (d.x.g.last 15),.int .u8 (d.x.g.last 16),.int .u8 (d.x.g.last 17),.int .u8 (d.x.g.last 18),.int .u8 (d.x.g.last 19),.int .u8 (d.x.g.last 20),.int .u8 (d.x.g.last 21),.int .u8 (d.x.g.last 22),.int .u8 (d.x.g.last 23),.int .u8 (d.x.g.last 24),.int .u8 (d.x.g.last 25),.int .u8 (d.x.g.last 26),.int .u8 (d.x.g.last 27),.int .u8 (d.x.g.last 28),.int .u8 (d.x.g.last 29),.int .u8 (d.x.g.last 30),.int .u8 (d.x.g.last 31),.slice d.x.ma d.x.g.ms.length d.x.mc,.slice d.x.na d.x.g.ns.length d.x.nc]
theorem D9(d:Cd):(mJ d).length=143:=by simp only[mJ,ec,lF]
theorem nnj(d:Cd):∀u∈mJ d,u.oneCell'=true:=BT rfl
def eI (k:Dk):List Value:=k.1.map (Value.int .u8)
theorem JD(k:Dk):(eI k).length=32:=by simp[eI,k.2]
theorem n3h(k:Dk):∀u∈eI k,u.oneCell'=true:=by
 intro u hu;obtain⟨x,_,rfl⟩:=bU.1 hu;rfl
def dk (f:Nat->Int):Dk:=⟨[f 0,f 1,f 2,f 3,f 4,f 5,f 6,f 7,f 8,f 9,f 10,f 11,f 12,f 13,f 14,f 15,f 16,f 17,f 18,f 19,f 20,f 21,f 22,f 23,f 24,f 25,f 26,f 27,f 28,f 29,f 30,f 31],rfl⟩
theorem GY(f:Nat->Int):(eI (dk f)).toArray=dg f:=rfl
theorem adu(f g:Nat->Int):fE f g=decide (dk f=dk g):=by
 have h:=XZ (dk f).1 (dk g).1 (by rw[(dk f).2,(dk g).2]);have e:decide (dk f=dk g)=decide ((dk f).1=(dk g).1):=by simp only[Subtype.ext_iff]
 rw[e,<-h];rfl
theorem GZ:prog.info? 57=some Tryz.t57:=by kernel_rfl
theorem G0:prog.info? 101=some Tryz.t101:=by kernel_rfl
theorem G3:prog.info? 34=some Tryz.t34:=by kernel_rfl
theorem MG:lT prog 46 57 36:=⟨underlying46,Tryz.t57,.agg #[.int .i64 0,.int .i64 0,.int .u8 0,.int .u8 0,.int .u8 0,.int .u8 0,.int .u8 0,.int .u8 0,.int .u8 0,.int .u8 0,.int .u8 0,.int .u8 0,.int .u8 0,.int .u8 0,.int .u8 0,.int .u8 0,.int .u8 0,.int .u8 0,.int .u8 0,.int .u8 0,.int .u8 0,.int .u8 0,.int .u8 0,.int .u8 0,.int .u8 0,.int .u8 0,.int .u8 0,.int .u8 0,.int .u8 0,.int .u8 0,.int .u8 0,.int .u8 0,.int .u8 0,.int .u8 0,.slice none 0 0,.slice none 0 0],GZ,rfl,rfl,rfl,by decide⟩
theorem BU:lT prog 194 101 143:=⟨underlying194,Tryz.t101,.agg #[.int .i64 0,.int .i64 0,.int .i64 0,.int .u8 0,.int .u8 0,.int .u8 0,.int .u8 0,.int .u8 0,.int .u8 0,.int .u8 0,.int .u8 0,.int .u8 0,.int .u8 0,.int .u8 0,.int .u8 0,.int .u8 0,.int .u8 0,.int .u8 0,.int .u8 0,.int .u8 0,.int .u8 0,.int .u8 0,.int .u8 0,.int .u8 0,.int .u8 0,.int .u8 0,.int .u8 0,.int .u8 0,.int .u8 0,.int .u8 0,.int .u8 0,.int .u8 0,.int .u8 0,.int .u8 0,.int .u8 0,.int .i64 0,.slice none 0 0,.slice none 0 0,.slice none 0 0,.slice none 0 0,.int .u8 0,.int .u8 0,.int .u8 0,.int .u8 0,.int .u8 0,.int .u8 0,.int .u8 0,.int .u8 0,.int .u8 0,.int .u8 0,.int .u8 0,.int .u8 0,.int .u8 0,.int .u8 0,.int .u8 0,.int .u8 0,.int .u8 0,.int .u8 0,.int .u8 0,.int .u8 0,.int .u8 0,.int .u8 0,.int .u8 0,.int .u8 0,.int .u8 0,.int .u8 0,.int .u8 0,.int .u8 0,.int .u8 0,.int .u8 0,.int .u8 0,.int .u8 0,.int .i64 0,.int .i64 0,.int .u8 0,.int .u8 0,.int .u8 0,.int .u8 0,.int .u8 0,.int .u8 0,.int .u8 0,.int .u8 0,.int .u8 0,.int .u8 0,.int .u8 0,.int .u8 0,.int .u8 0,.int .u8 0,.int .u8 0,.int .u8 0,.int .u8 0,.int .u8 0,.int .u8 0,.int .u8 0,.int .u8 0,.int .u8 0,.int .u8 0,.int .u8 0,.int .u8 0,.int .u8 0,.int .u8 0,.int .u8 0,.int .u8 0,.int .u8 0,.int .u8 0,.int .u8 0,.int .i64 0,.int .i64 0,.int .i64 0,.int .u8 0,.int .u8 0,.int .u8 0,.int .u8 0,.int .u8 0,.int .u8 0,.int .u8 0,.int .u8 0,.int .u8 0,.int .u8 0,.int .u8 0,.int .u8 0,.int .u8 0,.int .u8 0,.int .u8 0,.int .u8 0,.int .u8 0,.int .u8 0,.int .u8 0,.int .u8 0,.int .u8 0,.int .u8 0,.int .u8 0,.int .u8 0,.int .u8 0,.int .u8 0,.int .u8 0,.int .u8 0,.int .u8 0,.int .u8 0,.int .u8 0,.int .u8 0,.slice none 0 0,.slice none 0 0],G0,rfl,rfl,rfl,by decide⟩
theorem n6k:lT prog 41 34 32:=⟨underlying41,Tryz.t34,.agg #[.int .u8 0,.int .u8 0,.int .u8 0,.int .u8 0,.int .u8 0,.int .u8 0,.int .u8 0,.int .u8 0,.int .u8 0,.int .u8 0,.int .u8 0,.int .u8 0,.int .u8 0,.int .u8 0,.int .u8 0,.int .u8 0,.int .u8 0,.int .u8 0,.int .u8 0,.int .u8 0,.int .u8 0,.int .u8 0,.int .u8 0,.int .u8 0,.int .u8 0,.int .u8 0,.int .u8 0,.int .u8 0,.int .u8 0,.int .u8 0,.int .u8 0,.int .u8 0],G3,rfl,rfl,rfl,by decide⟩
theorem G4:uV prog 34 sO:=TG underlying34 underlying5 sizeOf5 isAgg5
theorem nUl(p:Cd->Bool)(f:Nat)(cap:List Value)(ax:dU prog f)(xs:List Cd)(ck:xs.length<=1000000)(N:Nat)(a:Option Addr)(cp:Nat)(w:World)(hN:N<=w.heap.size)(aN:ah dO 143 N w a xs)(hp:∀(j:Nat) (x:Cd),xs[j]? =some x->∀W,Below w.heap.size w W->Calls prog f (.agg (dO x)::cap).toArray W (av W (.bool (p x)))):Calls prog 166 #[.slice a xs.length cp,.func (.func f) #[] cap.toArray] w (cu w (λi:Int=>.int .i64 i) (λi _=>cZ p xs i)):=by
 refine enter (vs:=[_,_]) func166 rfl ntmps166 rfl ?_;refine Jj ?_;rintro j ⟨hj,er⟩;refine B 6 ?_;refine aO ?_ ?_
 ·intro aj;refine B 11 ?_;obtain⟨bo,oo,cs0,to,fA,rfl,fG,hcs,ar⟩:=aN.get zM;obtain⟨x,hx⟩:=nj xs j zM;refine B 5 ?_;refine rq (.agg (dO x)) (ag isAgg101 sizeOf101 rfl A0 hcs zZ trivial (nl ar hx rfl)) (va (nq ar hx rfl)) ?_;refine Jk ?_;refine aO ?_ ?_
  ·intro aQ;refine B 12 ?_;refine jM (j:Int) results166 rfl A0 rfl ?_;exact Jl
  exact Gs
 intro aj;refine B 11 ?_;refine jM (-1:Int) results166 rfl A0 rfl ?_;exact Gt
theorem nRi(p:Cd->Bool)(f:Nat)(cap:List Value)(ax:dU prog f)(xs:List Cd)(ck:xs.length<=1000000)(N:Nat)(a:Option Addr)(cp:Nat)(w:World)(hN:N<=w.heap.size)(aN:ah dO 143 N w a xs)(hp:∀(j:Nat) (x:Cd),xs[j]? =some x->∀W,Below w.heap.size w W->Calls prog f (.agg (dO x)::cap).toArray W (av W (.bool (p x)))):Calls prog 103 #[.slice a xs.length cp,.func (.func f) #[] cap.toArray] w (av w (.bool (xs.any p))):=by
 refine enter (vs:=[_,_]) func103 rfl ntmps103 rfl ?_;refine B 9 ?_;refine nr (α:=Int) (v:=λi:Int=>.int .i64 i) (Φ:=λ_ i _=>cZ p xs i) call166 rfl rfl rfl (λW hS=>nUl p f cap ax xs ck N a cp W (aS hN (hS.links w A0).size) (aN.up (ao _) (hS.same A0 hN zU trivial)) (λj x hx W2 hB=>hp j x hx W2 (((hS.links w A0).below Lw).trans (hB.mono (hS.links w A0).size)))) ?_;intro Wi i wi sC sD hi;refine B 5 ?_;refine ay results103 rfl A1 ?_;exact vb hi.any
def mo (l:List Dk) (k:Dk):Int:=match l.findIdx? (λx=>decide (x=k))with|some i=>(i:Int)|none=> -1
theorem nbn{l:List Dk}{k x:Dk}(er:fY (λy=>decide (y=k)) l j)(hx:l[j]? =some x)(h:decide (x=k)=true):(j:Int)=mo l k:=by
 have e:l.findIdx? (λy=>decide (y=k))=some j:=by
  rw[V4];have hl:=nF hx;obtain⟨_,TH⟩:=gA.1 hx;refine⟨hl,by rw[TH];exact h,λi hi=>?_⟩;have:=er i l[i] hi (gR _);simp[this]
 unfold mo;rw[e]
theorem MH{l:List Dk}{k:Dk}(er:fY (λy=>decide (y=k)) l j)(hj:¬j<l.length):(-1:Int)=mo l k:=by
 have e:l.findIdx? (λy=>decide (y=k))=none:=by
  rw[List.findIdx?_eq_none_iff];intro x hx;have:=List.any_eq_false.1 (nNc er hj) x hx;simpa using this
 unfold mo;rw[e]
def TI (k:Dk):Array Value:=(eI k).toArray
theorem MJ(f:Nat->Int)(k:Dk):lS (dg f).toList (TI k).toList=decide (k=dk f):=by
 have h:=XZ (dk f).1 k.1 (by rw[(dk f).2,k.2]);have e:decide (k=dk f)=decide ((dk f).1=k.1):=by simp only[Subtype.ext_iff];exact decide_eq_decide.2 ⟨Eq.symm,Eq.symm⟩
 rw[e,<-h];rfl
theorem MK(f:Nat->Int)(k:Dk):iX (kA 32 [.i]) (dg f).toList (TI k).toList=true:=n6h 32 (dk f).1 k.1 (dk f).2 k.2
theorem BV(xs:List Dk)(ck:xs.length<=1000000)(N:Nat)(a:Option Addr)(cp:Nat)(w:World)(hN:N<=w.heap.size)(aN:ah TI 32 N w a xs)(f:Nat->Int):Calls prog 100 #[.slice a xs.length cp,.agg (dg f)] w (av w (.int .i64 (mo xs (dk f)))):=by
 refine enter (vs:=[_,_]) func100 rfl ntmps100 rfl ?_;refine B 2 ?_;refine yX ?_;intro b3 w3 aJ aD dr bY cR;refine B 12 ?_;refine CJ.loop (α:=Nat) (λj=>[(0,.slice a xs.length cp),(3,ptr b3 0),(7,.int .i64 (xs.length:Int)),(8,.int .i64 (j:Int))]) (λj=>[]) (λj=>[w3,w]) (λj=>Gh.no) (λj=>j<=xs.length/\fY (λy=>decide (y=dk f)) xs j) (λj=>xs.length-j) 0 ⟨dx _,λi x hi=>absurd hi zM⟩ zR rfl rfl z1 ?_;rintro j ⟨hj,er⟩;refine B 6 ?_;refine aO ?_ ?_
 ·intro aj;refine B 11 ?_;obtain⟨bo,oo,cs0,to,fA,rfl,fG,hcs,ar⟩:=aN.get zM;obtain⟨x,hx⟩:=nj xs j zM;refine ng (E':=[(0,_),(3,_),(5,_),(7,_),(8,_),(9,_),(10,_)]) zR ?_;refine nk 5 [.det [] _,.det [] _,.det [] _,.det [1,2] _,.det [3] _] zT (xc (by exact λae=>X.val rfl rfl (af isAgg34 sizeOf34 rfl A0 aJ aD trivial rfl) (λ_ _=>rfl)) (xc zO (xc zO (xc zfe (xc (by exact λae=>X.val rfl rfl (RV.re (v':=.agg (TI x)) (ag isAgg34 sizeOf34 rfl A1 hcs zZ trivial (nl ar hx rfl)) (va (nq ar hx rfl))) (λ_ _=>rfl)) (xn)))))) zT zT zT (λae=>?_);refine rq (.bool (decide (x=dk f))) (fF uB zQ nX rfl rfl (MK f x)) (vb (MJ f x)) ?_;refine B 2 ?_;refine aO ?_ ?_
  ·intro aQ;refine B 12 ?_;exact zDk
  intro aQ;refine B 7 ?_;refine PJ.again (j+1) ⟨by omega,er.next hx (decide_eq_false gM)⟩ zM zR rfl rfl z1
 intro aj;refine B 11 ?_;exact zDk
theorem BW(d x:Cd)(ck:x.c.chs.length<=1000)(N:Nat)(b:Nat)(w:World)(hN:N<=w.heap.size)(aN:ah eR 5 N w x.c.ca x.c.chs)(aP:w.heap[b]? =some (.cells (dO d) 101 (0,0))):Calls prog 104 #[.agg (dO x),ptr b 0] w (av w (.bool (decide (x.c.author≠d.c.author)&&x.c.chs.any (uU d.c.author)))):=by
 have aX:¬Gh.no.X b:=λh=>h;have mB:=(aL.1 aP).1;refine enter (vs:=[_,_]) func104 rfl ntmps104 rfl ?_;refine B 2 ?_;refine yX ?_;intro b2 w2 aI aE dY cA db;refine B 7 ?_;refine rr (.int .i64 x.c.author) (aa isAgg3 rfl A0 aI aE trivial rfl) ?_;refine B 2 ?_;refine zXh ?_;refine B 2 ?_;refine nh (t:=11) rfl (λaj=>?_) (λaj=>?_)
 ·replace aj:=ya aj;refine rr (.agg (dO x)) (af isAgg101 sizeOf101 rfl A0 aI aE trivial rfl) ?_;refine B 2 ?_;refine zXh ?_;refine call call105 rfl rfl rfl (λW hS=>n2n x ck N W (aS hN (hS.links w A1).size) (aN.up (ao _) (hS.same A1 hN zU zP)) d.c.author) ?_;refine B 5 ?_;refine ay results104 rfl A1 ?_;exact vb qC
 replace aj:=ya aj;refine B 10 ?_;refine ay results104 rfl A1 ?_;exact vb qC
noncomputable def bC (Z:Fx) (cs:List Cm):Nat->List (Dk×Int)
 |0=>[]
 |j+1=>match cs[j]? with
  |none=>bC Z cs j
  |some c=>if dk (aR Z c)∈(bC Z cs j).map (·.1)then bC Z cs j else bC Z cs j++[(dk (aR Z c),(j:Int))]
theorem X2{cs:List Cm}{c:Cm}(hc:cs[j]? =some c)(h:dk (aR Z c)∈(bC Z cs j).map (·.1)):bC Z cs (j+1)=bC Z cs j:=by simp only[bC,hc,if_pos h]
theorem X3{cs:List Cm}{c:Cm}(hc:cs[j]? =some c)(h:¬dk (aR Z c)∈(bC Z cs j).map (·.1)):bC Z cs (j+1)=bC Z cs j++[(dk (aR Z c),(j:Int))]:=by simp only[bC,hc,if_neg h]
theorem PR(Z:Fx)(cs:List Cm):∀j,(bC Z cs j).length<=j
 |0=>ao _
 |j+1=>by
  have:=PR Z cs j;unfold bC;split
  ·omega
  split
  ·omega
  rw[cC,BX];omega
theorem n6j(Z:Fx)(cs:List Cm):∀j,((bC Z cs j).map (·.1)).Nodup
 |0=>List.nodup_nil
 |j+1=>by
  have:=n6j Z cs j;unfold bC;split
  ·exact this
  split
  ·exact this
  rename_i h;rw[ga,List.nodup_append];refine⟨this,by simp,?_⟩;intro a ha b hb e;simp only[eF,iz,ql]at hb;subst hb;subst e;exact h ha
theorem X4(Z:Fx)(cs:List Cm):∀(j:Nat) (p:Dk×Int),p∈bC Z cs j->∃(i:Nat) (c:Cm),p.2=(i:Int)/\i<j/\cs[i]? =some c/\p.1=dk (aR Z c)
 |0,p,h=>by simp[bC]at h
 |j+1,p,h=>by
  have ih:=X4 Z cs j p;unfold bC at h;split at h
  ·obtain⟨i,c,h1,h2,h3⟩:=ih h;exact⟨i,c,h1,by omega,h3⟩
  rename_i c hc;split at h
  ·obtain⟨i,c,h1,h2,h3⟩:=ih h;exact⟨i,c,h1,by omega,h3⟩
  rcases cS.1 h with h|h
  ·obtain⟨i,c,h1,h2,h3⟩:=ih h;exact⟨i,c,h1,by omega,h3⟩
  simp only[ql]at h;subst h;exact⟨j,c,rfl,by omega,hc,rfl⟩
def lM (l:List (Dk×Int)):List (Dk×Bool):=l.map λp=>(p.1,true)
theorem X5(l:List (Dk×Int)):(lM l).map (·.1)=l.map (·.1):=by simp[lM]
theorem nhn(l:List (Dk×Int))(k:Dk):(mq (lM l) k).getD false=decide (k∈l.map (·.1)):=by
 by_cases h:k∈l.map (·.1)
 ·cases e:mq (lM l) k with
  |none=>rw[nZj,X5]at e;exact absurd h e
  |some v=>
   obtain⟨q,hq,rfl⟩:=ML.1 e;have h2:=PS hq;obtain⟨p,_,hp⟩:=bU.1 (cB h2);have:q.2=true:=(Prod.mk.inj hp).2.symm;simp[this,h]
 have e:mq (lM l) k=none:=by rw[nZj,X5];exact h
 simp[e,h]
theorem nyn{l:List (Dk×Int)}{k:Dk}(h:k∈l.map (·.1)):iY (lM l) k true=lM l:=by
 unfold iY;cases hi:fg k (lM l) 0 with
 |none=>have:=X6.1 hi;rw[X5]at this;exact absurd h this
 |some q=>
  obtain⟨i,v⟩:=q;have h2:=PS hi;obtain⟨p,_,hp⟩:=bU.1 (cB h2);have hv:v=true:=(Prod.mk.inj hp).2.symm;subst hv;apply vr;intro n;rw[X7];split
  ·rename_i e;subst e;rw[if_pos (gA.1 h2).1,h2]
  rfl
theorem nwn{l:List (Dk×Int)}{k:Dk}{j:Int}(h:¬k∈l.map (·.1)):iY (lM l) k true=lM (l++[(k,j)]):=by
 unfold iY;cases hi:fg k (lM l) 0 with
 |none=>simp[lM]
 |some q=>
  have h2:=PS (l:=lM l) (i:=q.1) (v:=q.2) hi;have:k∈(lM l).map (·.1):=bU.2 ⟨_,cB h2,rfl⟩;rw[X5]at this;exact absurd this h
theorem nin(o:Option Bool):(o.map Value.bool).getD (.bool false)= .bool (o.getD false):=by cases o<;>rfl
theorem nak{l:List (Dk×Int)}{p:Dk×Int}:(l++[p]).map (·.1)=l.map (·.1)++[p.1]:=by simp
theorem nYj{l:List (Dk×Int)}{p:Dk×Int}:(l++[p]).map (·.2)=l.map (·.2)++[p.2]:=by simp
structure Pv where
 ia:Option Addr
 ic:Nat
 ta:Option Addr
 tc:Nat
noncomputable def xy (Z:Fx) (cs:List Cm) (la:Option Addr) (lc:Nat) (p:Pv):Array Value:=#[.slice la cs.length lc,.slice p.ia ((bC Z cs cs.length).map (·.1)).length p.ic,.slice p.ta ((bC Z cs cs.length).map (·.2)).length p.tc]
structure mr (Z:Fx) (cs:List Cm) (N:Nat) (w:World) (p:Pv):Prop where
 ids:ah TI 32 N w p.ia ((bC Z cs cs.length).map (·.1))
 at_:ah (λx=>(ai x).toArray) 1 N w p.ta ((bC Z cs cs.length).map (·.2))
theorem mr.up{cs:List Cm}{w:World}{p:Pv}(h:mr Z cs N w p)(hN:N<=N')(hw:∀k,k<N->w'.heap[k]? =w.heap[k]?):mr Z cs N' w' p:=⟨h.ids.up hN hw,h.at_.up hN hw⟩
theorem newPool(hZ:FxOk Z)(cs:List Cm)(hcs:cs.length<=1000)(dM:∀c∈cs,cI c)(N:Nat)(la:Option Addr)(lc:Nat)(w:World)(hN:N<=w.heap.size)(aN:ah dZ 73 N w la cs)(hC:∀c∈cs,dQ N w c)(hg:Glb w):Calls prog 22 #[.slice la cs.length lc] w (cu w (λp:Pv=>.agg (xy Z cs la lc p)) (λp w1=>mr Z cs w1.heap.size w1 p/\(∀q,p.ia=some q->w.heap.size<=q.block)/\∀q,p.ta=some q->w.heap.size<=q.block)):=by
 have ew:=hg.lt;refine enter (vs:=[_]) func22 rfl ntmps22 rfl ?_;refine B 2 ?_;refine aY zeroValue92 rfl rfl ?_;refine yW ?_;intro b2 cA db;refine B 6 ?_;refine kq (i:=0) rfl sizeOf24 rfl rfl rfl rfl (aT rfl) rfl ?_;refine B 4 ?_;refine adx sO Value.bool rfl rfl ?_;intro b3 bY cR;replace bY:=yb bY;try simp only[bE,and_true,ne_eq]at cR
 refine B 12 ?_;refine CJ.loop (α:=((Rw×Rw)×Mq)×Nat) (λp=>[(2,ptr b2 0),(3,.map (some b3)),(10,.slice la cs.length lc),(11,.int .i64 (cs.length:Int)),(12,.int .i64 (p.2:Int))]) (λp=>[(b3,p.1.2.obj sO Value.bool (lM (bC Z cs p.2))),(b2,.cells #[.slice la cs.length lc,p.1.1.1.val ((bC Z cs p.2).map (·.1)).length,p.1.1.2.val ((bC Z cs p.2).map (·.2)).length] 92 (0,0))]++(p.1.1.1.hp eI 34 ((bC Z cs p.2).map (·.1))++(p.1.1.2.hp ai 3 ((bC Z cs p.2).map (·.2))++[]))) (λp=>[w]) (λp=>Gh.no) (λp=>p.2<=cs.length/\p.1.1.1.Fr Gh.no [w]/\p.1.1.1.Fit 32 ((bC Z cs p.2).map (·.1))/\p.1.1.2.Fr Gh.no [w]/\p.1.1.2.Fit 1 ((bC Z cs p.2).map (·.2))/\p.1.2.Ok (lM (bC Z cs p.2))) (λp=>cs.length-p.2) (((.nil,.nil),Mq.mk [] 0),0) ⟨dx _,True.intro,rfl,True.intro,rfl,Mq.nil⟩ zR rfl rfl z1 ?_;rintro⟨⟨⟨r1,r2⟩,m⟩,j⟩ ⟨hj,jx,ez,gE,iZ,hm⟩;dsimp only at hj jx ez gE iZ hm ⊢;have iy:r1.ge w.heap.size:=Rw.ge_of jx A0;have dW:r2.ge w.heap.size:=Rw.ge_of gE A0;refine B 6 ?_;refine aO ?_ ?_
 ·intro aj;refine B 5 ?_;obtain⟨bo,oo,cs0,to,fA,iV,fG,hcs,ar⟩:=aN.get zM;obtain⟨c,hc⟩:=nj cs j zM;have hcm:=cB hc;have hpl:=PR Z cs j;refine B 2 ?_;refine rv rfl rfl rfl (cL underlying24 sizeOf99 (congrArg (λq=>some (Value.slice q cs.length lc)) iV) rfl zM zM) ?_;refine rq (.agg (dZ c)) (ag isAgg99 sizeOf99 rfl A0 hcs zZ (by simp only[bE,ne,fj,eg,dN,dC,and_true];(repeat' apply And.intro);all_goals first|omega|exact True.intro|exact Rw.off_ge iy zM|exact Rw.off_ge dW zM) (nl ar hc rfl)) (va (nq ar hc rfl)) ?_;refine aY zeroValue99 rfl rfl ?_;refine yW ?_;intro b5 iu iv;refine B 1 ?_;refine aV (i:=0) rfl sizeOf99 rfl rfl rfl rfl rfl rfl ?_;refine B 5 ?_;refine call call49 rfl rfl rfl (λW hS=>nXf hZ c (dM c hcm) N W (aS hN (hS.links w A0).size) ((hC c hcm).up (ao _) (hS.same A0 hN zU zHd)) (hg.old hS A0 zU zHd)) ?_;refine rT ?_;refine yW ?_;intro b6 gm kg;refine O2 ?_;refine B 4 ?_;by_cases vZ:(dk (aR Z c))∈((bC Z cs j).map (·.1))
  ·refine B 3 ?_;refine rq (.bool true) (v7 (m:=m) (k:=(dk (aR Z c))) underlying139 G4 zeroValue4 hm (bN.own (i:=2) rfl) rfl rfl) ((nin _).trans (vb ((nhn _ _).trans (decide_eq_true vZ)))) ?_;refine B 9 ?_;refine JF (i:=2) (k:=(dk (aR Z c))) (v:=true) rfl hm underlying139 G4 rfl rfl rfl rfl ?_;intro m2 aE;refine ME ?_;refine PJ.again (((r1,r2),m2),j+1) ⟨by dsimp only;omega,jx,by rw[X2 hc vZ];exact ez,gE,by rw[X2 hc vZ];exact iZ,by rw[X2 hc vZ];rw[nyn vZ]at aE;exact aE⟩ dE zR (by rw[X2 hc vZ,nyn vZ];rfl) rfl z1
  refine B 3 ?_;refine rq (.bool false) (v7 (m:=m) (k:=(dk (aR Z c))) underlying139 G4 zeroValue4 hm (bN.own (i:=2) rfl) rfl rfl) ((nin _).trans (vb ((nhn _ _).trans (decide_eq_false vZ)))) ?_;refine B 4 ?_;refine ng (E':=[(2,_),(3,_),(4,_),(5,_),(6,_),(10,_),(11,_),(12,_),(13,_),(14,_),(15,_),(16,_),(17,_),(18,_),(19,_),(20,_),(21,_),(22,_)]) zR ?_;refine Pg 11 [3,4,8,9] [([],some _),([0],some _),([],some _),([2],none),([1,3],none),([],some _),([5],some _),([],some _),([7],none),([6,8],none),([],some _)] [[],[0],[],[0,1,2]] (λcv L' H'=>match cv with| [none,none,none,none]=>L'=[w]/\H'=[(b6,.cells (dg (aR Z c)) 34 (0,0)),(b5,.cells (dZ c) 99 (0,0)),(b3,m.obj sO Value.bool (lM (bC Z cs j))),(b2,.cells #[.slice la cs.length lc,r1.val ((bC Z cs j).map (·.1)).length,r2.val ((bC Z cs j).map (·.2)).length] 92 (0,0))]++(r1.hp eI 34 ((bC Z cs j).map (·.1))++(r2.hp ai 3 ((bC Z cs j).map (·.2))++[]))| [none,none,some v8,none]=>∃(gC:Nat),v8= .slice (some ⟨gC,0,none⟩) 1 1/\L'=[w]/\H'=[(gC,.cells #[.int .i64 (j:Int)] 3 (0,0)),(b6,.cells (dg (aR Z c)) 34 (0,0)),(b5,.cells (dZ c) 99 (0,0)),(b3,m.obj sO Value.bool (lM (bC Z cs j))),(b2,.cells #[.slice la cs.length lc,r1.val ((bC Z cs j).map (·.1)).length,r2.val ((bC Z cs j).map (·.2)).length] 92 (0,0))]++(r1.hp eI 34 ((bC Z cs j).map (·.1))++(r2.hp ai 3 ((bC Z cs j).map (·.2))++[]))/\ab [w] gC| [some v3,none,none,none]=>∃(gj:Nat),v3= .slice (some ⟨gj,0,none⟩) 1 1/\L'=[w]/\H'=[(gj,.cells (dg (aR Z c)) 34 (0,0)),(b6,.cells (dg (aR Z c)) 34 (0,0)),(b5,.cells (dZ c) 99 (0,0)),(b3,m.obj sO Value.bool (lM (bC Z cs j))),(b2,.cells #[.slice la cs.length lc,r1.val ((bC Z cs j).map (·.1)).length,r2.val ((bC Z cs j).map (·.2)).length] 92 (0,0))]++(r1.hp eI 34 ((bC Z cs j).map (·.1))++(r2.hp ai 3 ((bC Z cs j).map (·.2))++[]))/\ab [w] gj| [some v3,none,some v8,none]=>∃(gj:Nat) (gC:Nat),v3= .slice (some ⟨gj,0,none⟩) 1 1/\v8= .slice (some ⟨gC,0,none⟩) 1 1/\L'=[w]/\H'=[(gC,.cells #[.int .i64 (j:Int)] 3 (0,0)),(gj,.cells (dg (aR Z c)) 34 (0,0)),(b6,.cells (dg (aR Z c)) 34 (0,0)),(b5,.cells (dZ c) 99 (0,0)),(b3,m.obj sO Value.bool (lM (bC Z cs j))),(b2,.cells #[.slice la cs.length lc,r1.val ((bC Z cs j).map (·.1)).length,r2.val ((bC Z cs j).map (·.2)).length] 92 (0,0))]++(r1.hp eI 34 ((bC Z cs j).map (·.1))++(r2.hp ai 3 ((bC Z cs j).map (·.2))++[]))/\ab [w] gj/\ab [w] gC| [some v3,some v4,none,none]=>∃(gj:Nat) (iI:Nat) (eA:Nat) (eV:List Value),v3= .slice (some ⟨gj,0,none⟩) 1 1/\v4= .slice (some ⟨iI,0,none⟩) (((bC Z cs j).map (·.1))++[(dk (aR Z c))]).length eA/\L'=[w]/\H'=[(gj,.cells (dg (aR Z c)) 34 (0,0)),(b6,.cells (dg (aR Z c)) 34 (0,0)),(b5,.cells (dZ c) 99 (0,0)),(b3,m.obj sO Value.bool (lM (bC Z cs j))),(b2,.cells #[.slice la cs.length lc,r1.val ((bC Z cs j).map (·.1)).length,r2.val ((bC Z cs j).map (·.2)).length] 92 (0,0))]++((Rw.row iI eA eV).hp eI 34 (((bC Z cs j).map (·.1))++[(dk (aR Z c))])++(r2.hp ai 3 ((bC Z cs j).map (·.2))++[]))/\ab [w] gj/\(r1.isAt iI\/ab [w] iI)/\(Rw.row iI eA eV).Fit 32 (((bC Z cs j).map (·.1))++[(dk (aR Z c))])| [some v3,some v4,some v8,none]=>∃(gj:Nat) (iI:Nat) (eA:Nat) (eV:List Value) (gC:Nat),v3= .slice (some ⟨gj,0,none⟩) 1 1/\v4= .slice (some ⟨iI,0,none⟩) (((bC Z cs j).map (·.1))++[(dk (aR Z c))]).length eA/\v8= .slice (some ⟨gC,0,none⟩) 1 1/\L'=[w]/\H'=[(gC,.cells #[.int .i64 (j:Int)] 3 (0,0)),(gj,.cells (dg (aR Z c)) 34 (0,0)),(b6,.cells (dg (aR Z c)) 34 (0,0)),(b5,.cells (dZ c) 99 (0,0)),(b3,m.obj sO Value.bool (lM (bC Z cs j))),(b2,.cells #[.slice la cs.length lc,r1.val ((bC Z cs j).map (·.1)).length,r2.val ((bC Z cs j).map (·.2)).length] 92 (0,0))]++((Rw.row iI eA eV).hp eI 34 (((bC Z cs j).map (·.1))++[(dk (aR Z c))])++(r2.hp ai 3 ((bC Z cs j).map (·.2))++[]))/\ab [w] gj/\(r1.isAt iI\/ab [w] iI)/\(Rw.row iI eA eV).Fit 32 (((bC Z cs j).map (·.1))++[(dk (aR Z c))])/\ab [w] gC| [some v3,some v4,some v8,some v9]=>∃(gj:Nat) (iI:Nat) (eA:Nat) (eV:List Value) (gC:Nat) (we:Nat) (po:Nat) (qW:List Value),v3= .slice (some ⟨gj,0,none⟩) 1 1/\v4= .slice (some ⟨iI,0,none⟩) (((bC Z cs j).map (·.1))++[(dk (aR Z c))]).length eA/\v8= .slice (some ⟨gC,0,none⟩) 1 1/\v9= .slice (some ⟨we,0,none⟩) (((bC Z cs j).map (·.2))++[(j:Int)]).length po/\L'=[w]/\H'=[(gC,.cells #[.int .i64 (j:Int)] 3 (0,0)),(gj,.cells (dg (aR Z c)) 34 (0,0)),(b6,.cells (dg (aR Z c)) 34 (0,0)),(b5,.cells (dZ c) 99 (0,0)),(b3,m.obj sO Value.bool (lM (bC Z cs j))),(b2,.cells #[.slice la cs.length lc,r1.val ((bC Z cs j).map (·.1)).length,r2.val ((bC Z cs j).map (·.2)).length] 92 (0,0))]++((Rw.row iI eA eV).hp eI 34 (((bC Z cs j).map (·.1))++[(dk (aR Z c))])++((Rw.row we po qW).hp ai 3 (((bC Z cs j).map (·.2))++[(j:Int)])++[]))/\ab [w] gj/\(r1.isAt iI\/ab [w] iI)/\(Rw.row iI eA eV).Fit 32 (((bC Z cs j).map (·.1))++[(dk (aR Z c))])/\ab [w] gC/\(r2.isAt we\/ab [w] we)/\(Rw.row we po qW).Fit 1 (((bC Z cs j).map (·.2))++[(j:Int)])|_=>False) zT ⟨rfl,rfl⟩ zT zT zT zT zT zT rfl (qc (by exact λcv L' H' _ _ hP=>X.val rfl rfl (ak underlying92 rfl sizeOf41 rfl) R2) (qc zcx (qc zcx (qk (qk (qc (by exact λcv L' H' _ _ hP=>X.val rfl rfl (ak underlying92 rfl sizeOf44 rfl) R2) (qc zcx (qc z1d (qk (qk (qc (by exact λcv L' H' _ _ hP=>X.val rfl rfl (ak underlying92 rfl sizeOf41 rfl) R2) (qn)))))))))))) ?_ ?_
  ·refine nc rfl rfl rfl rfl ?_ ?_
   ·intro cv L' H' hl hr hP F Q' hk;obtain⟨x3,x4,x8,x9,rfl⟩:=qz hl;rcases x3 with _|v3<;>rcases x4 with _|v4<;>rcases x8 with _|v8<;>rcases x9 with _|v9<;>try exact False.elim hP
    ·obtain⟨rfl,rfl⟩:=hP;refine zlh ?_;intro gj ha ho;exact OJ.done (hk _ _ _ ⟨gj,rfl,rfl,rfl,ha⟩)
    ·obtain⟨gC,rfl,rfl,rfl,jQ⟩:=hP;refine zlh ?_;intro gj ha ho;refine OJ.perm (List.Perm.swap _ _ _) ?_;exact OJ.done (hk _ _ _ ⟨gj,gC,rfl,rfl,rfl,rfl,ha,jQ⟩)
    ·exact az
    ·exact az
    ·exact az
    ·exact az
    exact az
   refine nc rfl rfl rfl rfl ?_ ?_
   ·intro cv L' H' hl hr hP F Q' hk;obtain⟨x3,x4,x8,x9,rfl⟩:=qz hl;rcases x3 with _|v3<;>rcases x4 with _|v4<;>rcases x8 with _|v8<;>rcases x9 with _|v9<;>try exact False.elim hP
    ·exact az
    ·exact az
    ·obtain⟨gj,rfl,rfl,rfl,i6⟩:=hP;refine o8 (r:=r1) (xs:=((bC Z cs j).map (·.1))) (zs:=[(dk (aR Z c))]) (enc:=eI) (m:=32) (H0:=[(gj,.cells (dg (aR Z c)) 34 (0,0)),(b6,.cells (dg (aR Z c)) 34 (0,0)),(b5,.cells (dZ c) 99 (0,0)),(b3,m.obj sO Value.bool (lM (bC Z cs j))),(b2,.cells #[.slice la cs.length lc,r1.val ((bC Z cs j).map (·.1)).length,r2.val ((bC Z cs j).map (·.2)).length] 92 (0,0))]) (H1:=r2.hp ai 3 ((bC Z cs j).map (·.2))++[]) rfl n6k JD rfl rfl rfl rfl (dy.one (z:=(dk (aR Z c))) JD n3h underlying41 (bN.own (i:=0) rfl)) ez jx z1 Lj ?_;intro iI eA eV i7 eB;exact OJ.done (hk _ _ _ ⟨gj,iI,eA,eV,rfl,rfl,rfl,rfl,i6,i7,eB⟩)
    ·obtain⟨gj,gC,rfl,rfl,rfl,rfl,i6,jQ⟩:=hP;refine o8 (r:=r1) (xs:=((bC Z cs j).map (·.1))) (zs:=[(dk (aR Z c))]) (enc:=eI) (m:=32) (H0:=[(gC,.cells #[.int .i64 (j:Int)] 3 (0,0)),(gj,.cells (dg (aR Z c)) 34 (0,0)),(b6,.cells (dg (aR Z c)) 34 (0,0)),(b5,.cells (dZ c) 99 (0,0)),(b3,m.obj sO Value.bool (lM (bC Z cs j))),(b2,.cells #[.slice la cs.length lc,r1.val ((bC Z cs j).map (·.1)).length,r2.val ((bC Z cs j).map (·.2)).length] 92 (0,0))]) (H1:=r2.hp ai 3 ((bC Z cs j).map (·.2))++[]) rfl n6k JD rfl rfl rfl rfl (dy.one (z:=(dk (aR Z c))) JD n3h underlying41 (bN.own (i:=1) rfl)) ez jx z1 Lj ?_;intro iI eA eV i7 eB;exact OJ.done (hk _ _ _ ⟨gj,iI,eA,eV,gC,rfl,rfl,rfl,rfl,rfl,i6,i7,eB,jQ⟩)
    ·exact az
    ·exact az
    exact az
   refine nc rfl rfl rfl rfl ?_ ?_
   ·intro cv L' H' hl hr hP F Q' hk;obtain⟨x3,x4,x8,x9,rfl⟩:=qz hl;rcases x3 with _|v3<;>rcases x4 with _|v4<;>rcases x8 with _|v8<;>rcases x9 with _|v9<;>try exact False.elim hP
    ·obtain⟨rfl,rfl⟩:=hP;refine wV ?_;intro gC ha ho;exact OJ.done (hk _ _ _ ⟨gC,rfl,rfl,rfl,ha⟩)
    ·exact az
    ·obtain⟨gj,rfl,rfl,rfl,i6⟩:=hP;refine wV ?_;intro gC ha ho;exact OJ.done (hk _ _ _ ⟨gj,gC,rfl,rfl,rfl,rfl,i6,ha⟩)
    ·exact az
    ·obtain⟨gj,iI,eA,eV,rfl,rfl,rfl,rfl,i6,i7,eB⟩:=hP;refine wV ?_;intro gC ha ho;exact OJ.done (hk _ _ _ ⟨gj,iI,eA,eV,gC,rfl,rfl,rfl,rfl,rfl,i6,i7,eB,ha⟩)
    ·exact az
    exact az
   refine nc rfl rfl rfl rfl ?_ ?_
   ·intro cv L' H' hl hr hP F Q' hk;obtain⟨x3,x4,x8,x9,rfl⟩:=qz hl;rcases x3 with _|v3<;>rcases x4 with _|v4<;>rcases x8 with _|v8<;>rcases x9 with _|v9<;>try exact False.elim hP
    ·exact az
    ·exact az
    ·exact az
    ·exact az
    ·exact az
    ·obtain⟨gj,iI,eA,eV,gC,rfl,rfl,rfl,rfl,rfl,i6,i7,eB,jQ⟩:=hP;refine o8 (r:=r2) (xs:=((bC Z cs j).map (·.2))) (zs:=[(j:Int)]) (enc:=ai) (m:=1) (H0:=[(gC,.cells #[.int .i64 (j:Int)] 3 (0,0)),(gj,.cells (dg (aR Z c)) 34 (0,0)),(b6,.cells (dg (aR Z c)) 34 (0,0)),(b5,.cells (dZ c) 99 (0,0)),(b3,m.obj sO Value.bool (lM (bC Z cs j))),(b2,.cells #[.slice la cs.length lc,r1.val ((bC Z cs j).map (·.1)).length,r2.val ((bC Z cs j).map (·.2)).length] 92 (0,0))]++(Rw.row iI eA eV).hp eI 34 (((bC Z cs j).map (·.1))++[(dk (aR Z c))])) (H1:=[]) rfl FL nu rfl rfl rfl rfl (dy.one (z:=(j:Int)) nu FP underlying44 (bN.own (i:=0) rfl)) iZ gE z1 Lj ?_;intro we po qW ow lv;exact OJ.done (hk _ _ _ ⟨gj,iI,eA,eV,gC,we,po,qW,rfl,rfl,rfl,rfl,rfl,rfl,i6,i7,eB,jQ,ow,lv⟩)
    exact az
   exact nn
  intro cv L' H' hl hr hP;obtain⟨x3,x4,x8,x9,rfl⟩:=qz hl;rcases x3 with _|v3<;>rcases x4 with _|v4<;>rcases x8 with _|v8<;>rcases x9 with _|v9
  ·exact az
  ·exact az
  ·exact az
  ·exact az
  ·exact az
  ·exact az
  ·exact az
  ·exact az
  ·exact az
  ·exact az
  ·exact az
  ·exact az
  ·exact az
  ·exact az
  ·exact az
  obtain⟨gj,iI,eA,eV,gC,we,po,qW,rfl,rfl,rfl,rfl,rfl,rfl,i6,i7,eB,jQ,ow,lv⟩:=hP;simp only[ab]at i6 jQ;refine kq (i:=5) rfl sizeOf41 rfl rfl rfl rfl (aT rfl) rfl ?_;refine B 1 ?_;refine kq (i:=5) rfl sizeOf44 rfl rfl rfl rfl (aT rfl) rfl ?_;refine B 5 ?_;refine JF (i:=4) (k:=(dk (aR Z c))) (v:=true) rfl hm underlying139 G4 rfl rfl rfl rfl ?_;intro m2 aE;refine ME ?_;refine Ar ?_;refine PJ.again (((Rw.row iI eA eV,Rw.row we po qW),m2),j+1) ⟨by dsimp only;omega,i7.elim (λh=>Rw.Fr_at jx h) (λh=>.inr h),by rw[X3 hc vZ,nak];exact eB,ow.elim (λh=>Rw.Fr_at gE h) (λh=>.inr h),by rw[X3 hc vZ,nYj];exact lv,by rw[X3 hc vZ,<-nwn vZ];exact aE⟩ dE zR (by rw[X3 hc vZ,nak,nYj,<-nwn vZ];rfl) rfl z1
 intro aj;refine B 6 ?_;have hpl:=PR Z cs j;have hje:j=cs.length:=by omega
 subst hje;refine B 2 ?_;refine aV (i:=1) rfl sizeOf92 rfl rfl rfl rfl rfl (by cases r1<;>cases r2<;>rfl) ?_;refine B 3 ?_;refine bJ (.inl rfl) results22 (RS.wA (i:=1) rfl isAgg92 sizeOf92 rfl (aT rfl) RS.n) λW hS=>?_;have BY:r1.At eI 34 ((bC Z cs cs.length).map (·.1)) W:=by
  cases r1 with
  |nil=>trivial
  |row b cap sp=>exact hS.own (b,_) vE
 have MM:r2.At ai 3 ((bC Z cs cs.length).map (·.2)) W:=by
  cases r2 with
  |nil=>trivial
  |row b cap sp=>exact hS.own (b,_) vE
 obtain⟨a1,c1,si,BZ⟩:=Rw.sl JD ez BY (ao W.heap.size);obtain⟨a2,c2,Ag,hs2⟩:=Rw.sl nu iZ MM (ao W.heap.size);refine⟨⟨a1,c1,a2,c2⟩,?_,?_,⟨BZ,hs2⟩,Rw.val_new iy si,Rw.val_new dW Ag⟩
 ·show Ending.returned (.agg #[.slice la cs.length lc,r1.val _,r2.val _])=_;rw[si,Ag];rfl
 exact(hS.links w A0).below (λk hk hx=>by rcases hx with hx|hx;(exact hx);simp only[dC,fk,fj,eg,dN,ga,eF,iz,cS,cP,fm,or_false]at hx;rcases hx with hx|hx|hx|hx;(omega);(omega);(have:=Rw.mem_ge iy hx;omega);(have:=Rw.mem_ge dW hx;omega))
structure CO {α:Type} (cf:α->α->Int):Prop where
 anti:∀x y,cf x y= -cf y x
 trans:∀x y z,cf x y<=0->cf y z<=0->cf x z<=0
theorem CO.swo{α:Type}{cf:α->α->Int}(h:CO cf):Go.Sort.SWO (Go.Proofs.ltOf cf):=by
 refine⟨λx=>?_,λx y z h1 h2=>?_,λx y z h1 h2=>?_⟩<;>simp only[Go.Proofs.ltOf,decide_eq_true_eq,decide_eq_false_iff_not]at*
 ·have:=h.anti x x;omega
 ·have a1:=h.anti x z;have a2:=h.anti y z;have a3:=h.anti z y;have a4:=h.anti x y
  have t1:=h.trans x y z zM zM;by_cases e:cf x z=0
  ·have t2:=h.trans z x y (by have:=h.anti z x;omega) zM;have:=h.anti y z;omega
  omega
 have a1:=h.anti x y;have a2:=h.anti y z;have a3:=h.anti x z
 have:=h.trans z y x zM zM;omega
def xz {α:Type} (f g:α->α->Int) (x y:α):Int:=if f x y=0 then g x y else f x y
theorem CO.lt{α:Type}{cf:α->α->Int}(h:CO cf){x y z:α}(h1:cf x y<=0)(h2:cf y z<=0)(h3:cf x y≠0\/cf y z≠0):cf x z≠0:=by
 intro e;have a1:=h.anti x z;have a2:=h.anti y z;have a3:=h.anti x y
 rcases h3 with h3|h3
 ·have:=h.trans y z x h2 zM;omega
 have:=h.trans z x y zM h1;omega
theorem CO.lex{α:Type}{f g:α->α->Int}(hf:CO f)(hg:CO g):CO (xz f g):=by
 refine⟨λx y=>?_,λx y z h1 h2=>?_⟩
 ·have a:=hf.anti x y;have b:=hg.anti x y
  unfold xz;by_cases e:f x y=0
  ·rw[if_pos e,if_pos zM];exact b
  rw[if_neg e,if_neg zM];exact a
 have a:=hf.lt (x:=x) (y:=y) (z:=z);have t:=hf.trans x y z;have u:=hg.trans x y z
 unfold xz at *;by_cases e1:f x y=0<;>by_cases e2:f y z=0<;>simp only[e1,e2,if_true,if_false]at h1 h2
 ·have z0:f x z=0:=by
   have t1:=t zM zM;have t2:=hf.trans z y x (by have:=hf.anti z y;omega) (by have:=hf.anti y x;omega);have:=hf.anti x z;omega
  rw[if_pos z0];exact u h1 h2
 ·rw[if_neg (a zM zM (.inr e2))];exact t zM zM
 ·rw[if_neg (a zM zM (.inl e1))];exact t zM zM
 rw[if_neg (a zM zM (.inl e1))];exact t zM zM
theorem CO.key{α β:Type}{cf:β->β->Int}(h:CO cf)(k:α->β):CO λx y=>cf (k x) (k y):=⟨λx y=>h.anti _ _,λx y z=>h.trans _ _ _⟩
theorem CO.int:CO cy:=by
 refine⟨λx y=>?_,λx y z h1 h2=>?_⟩
 ·unfold cy;(repeat' split)<;>omega
 unfold cy at *;(repeat' split)<;>simp_all<;>omega
theorem JG:∀(a b:List UInt8),Go.Lib.compareBytes a b=0->a=b
 | [],[],_=>rfl
 | [],_::_,h=>by simp[Go.Lib.compareBytes]at h
 |_::_,[],h=>by simp[Go.Lib.compareBytes]at h
 |x::a,y::b,h=>by
  unfold Go.Lib.compareBytes at h;by_cases h1:x<y
  ·simp[h1]at h
  by_cases h2:y<x
  ·simp[h1,h2]at h
  simp only[h1,h2,if_false]at h;have e:x=y:=UInt8.le_antisymm (UInt8.not_lt.1 h2) (UInt8.not_lt.1 h1);rw[e,JG a b h]
theorem X8(x y:UInt8):x<y\/x=y\/y<x:=by
 by_cases h1:x<y
 ·exact .inl h1
 by_cases h2:y<x
 ·exact .inr (.inr h2)
 exact .inr (.inl (UInt8.le_antisymm (UInt8.not_lt.1 h2) (UInt8.not_lt.1 h1)))
theorem TL{x y:UInt8}(a b:List UInt8)(h:x<y):Go.Lib.compareBytes (x::a) (y::b)= -1:=by unfold Go.Lib.compareBytes;rw[if_pos h]
theorem TM{x y:UInt8}(a b:List UInt8)(h:y<x):Go.Lib.compareBytes (x::a) (y::b)=1:=by unfold Go.Lib.compareBytes;rw[if_neg (λk=>UInt8.lt_irrefl x (UInt8.lt_trans k h)),if_pos h]
theorem nkj(x:UInt8)(a b:List UInt8):Go.Lib.compareBytes (x::a) (x::b)=Go.Lib.compareBytes a b:=by conv=>lhs;unfold Go.Lib.compareBytes;rw[if_neg (UInt8.lt_irrefl x),if_neg (UInt8.lt_irrefl x)]
theorem ncn:∀a b:List UInt8,Go.Lib.compareBytes a b= -Go.Lib.compareBytes b a
 | [],[]=>rfl
 | [],_::_=>rfl
 |_::_,[]=>rfl
 |x::a,y::b=>by
  rcases X8 x y with h|rfl|h
  ·rw[TL _ _ h,TM _ _ h]
  ·rw[nkj,nkj];exact ncn a b
  rw[TM _ _ h,TL _ _ h];rfl
theorem n8k:∀a b c:List UInt8,Go.Lib.compareBytes a b<=0->Go.Lib.compareBytes b c<=0->Go.Lib.compareBytes a c<=0
 | [],_,[],_,_=>by decide
 | [],_,_::_,_,_=>by show(-1:Int)<=0;decide
 |_::_,[],_,h1,_=>absurd (show(1:Int)<=0 from h1) zQ
 |_::_,_::_,[],_,h2=>absurd (show(1:Int)<=0 from h2) zQ
 |x::a,y::b,z::c,h1,h2=>by
  rcases X8 x y with h|rfl|h
  ·rcases X8 y z with k|rfl|k
   ·rw[TL _ _ (UInt8.lt_trans h k)];decide
   ·rw[TL _ _ h];decide
   rw[TM _ _ k]at h2;exact absurd h2 zQ
  ·rcases X8 x z with k|rfl|k
   ·rw[TL _ _ k];decide
   ·rw[nkj]at h1 h2 ⊢;exact n8k a b c h1 h2
   rw[TM _ _ k]at h2;exact absurd h2 zQ
  rw[TM _ _ h]at h1;exact absurd h1 zQ
theorem CO.bytes:CO Go.Lib.compareBytes:=⟨ncn,n8k⟩
def ky3 (x y:Int×Int×List UInt8):Int:=xz (λx y=>cy x.1 y.1) (xz (λx y=>cy x.2.1 y.2.1) (λx y=>Go.Lib.compareBytes x.2.2 y.2.2)) x y
theorem CO.ky3:CO ky3:=(CO.int.key (λx:Int×Int×List UInt8=>x.1)).lex ((CO.int.key (λx:Int×Int×List UInt8=>x.2.1)).lex (CO.bytes.key (λx:Int×Int×List UInt8=>x.2.2)))
theorem MN{x y:Int×Int×List UInt8}(h:ky3 x y=0):x.2.2=y.2.2:=by
 unfold Px.ky3 xz at h;split at h
 ·split at h
  ·exact JG _ _ h
  rename_i h1;exact absurd h h1
 rename_i h1;exact absurd h h1
theorem n8j{le:Nat->Nat->Bool}:∀{l l':List Nat},(∀a∈l,∀b∈l,le a b=true->le b a=true->a=b)->l.Pairwise (λa b=>le a b=true)->l'.Pairwise (λa b=>le a b=true)->l.Perm l'->l=l'
 | [],l',_,_,_,hp=>(List.nil_perm.1 hp).symm▸rfl
 |a::l,[],_,_,_,hp=>absurd hp.length_eq z1
 |a::l,b::l',ha,h1,h2,hp=>by
  have sP:a=b:=by
   have m1:a∈b::l':=hp.mem_iff.1 A0;have m2:b∈a::l:=hp.mem_iff.2 A0;rcases cP.1 m1 with e|m1
   ·exact e
   rcases cP.1 m2 with e|m2'
   ·exact e.symm
   exact ha a A0 b m2 ((List.pairwise_cons.1 h1).1 b m2') ((List.pairwise_cons.1 h2).1 a m1)
  subst sP;have tF:=hp.cons_inv;rw[n8j (λx hx y hy=>ha x (.tail _ hx) y (.tail _ hy)) (List.pairwise_cons.1 h1).2 (List.pairwise_cons.1 h2).2 tF]
section
open Go.Proofs Go.Shelf Go.Lib Go.Sort
theorem TN(x y:Cd)(W:World):Calls prog 227 #[.agg (mJ x).toArray,.agg (mJ y).toArray] W λe w'=>e= .returned (.int .i64 (cy x.since y.since))/\∃q BA,w'=grow (W.drewN q) BA:=by
 have kG:=λW'=>vS x.since y.since W';generalize cy x.since y.since=r at kG ⊢;unfold mJ
 go_enter func227,ntmps227
 go_wp2_with (go_at_call 125;refine(kG _).mono ?_;rintro e w' ⟨rfl,rfl⟩)
 go_ret
 exact XK
theorem TO(x y:Cd)(W:World):Calls prog 228 #[.agg (mJ x).toArray,.agg (mJ y).toArray] W λe w'=>e= .returned (.int .i64 (cy x.c.author y.c.author))/\∃q BA,w'=grow (W.drewN q) BA:=by
 have kG:=λW'=>vS x.c.author y.c.author W';generalize cy x.c.author y.c.author=r at kG ⊢;unfold mJ
 go_enter func228,ntmps228
 go_wp2_with (go_at_call 125;refine(kG _).mono ?_;rintro e w' ⟨rfl,rfl⟩)
 go_ret
 exact XK
end
theorem n1g{P:Program}{W:World}{b:Nat}:∀(zs:List Int) (off:Nat) (acc:List UInt8),(∀(i:Nat) (h:i<zs.length),W.cell? ⟨b,off+i,none⟩=some (.int .u8 zs[i]))->(Extern.Bytes.loadBytes ⟨b,off,none⟩ zs.length ⟨acc.toArray⟩).run P W= .ok ⟨(acc++zs.map λz=>z.toNat.toUInt8).toArray⟩ W
 | [],off,acc,_=>by simp[Extern.Bytes.loadBytes]
 |z::zs,off,acc,h=>by
  have h0:W.cell? ⟨b,off,none⟩=some (.int .u8 z):=h 0 z1;have ih:=n1g (P:=P) (W:=W) (b:=b) zs (off+1) (acc++[z.toNat.toUInt8]) (λi hi=>by
   have:=h (i+1) JH;rw[show off+1+i=off+(i+1) by omega];simpa using this)
  have e:(ByteArray.mk acc.toArray).push z.toNat.toUInt8=⟨(acc++[z.toNat.toUInt8]).toArray⟩:=by simp[ByteArray.push]
  have ha:(⟨b,off,none⟩:Addr).add 1=⟨b,off+1,none⟩:=rfl;simp only[ec,Extern.Bytes.loadBytes,Sem.run_bind];rw[show(load ⟨b,off,none⟩:Sem Value).run P W= .ok (.int .u8 z) W by simp[load,Sem.run,h0]];simp only[Result.andThen,e,ha];rw[ih];simp
section
open Go.Lib Go.Sort
theorem B0{P:Program}{b1 o1 c1 b2 o2 c2:Nat}{xs ys:List Int}(h1:∀(i:Nat) (h:i<xs.length),W.cell? ⟨b1,o1+i,none⟩=some (.int .u8 xs[i]))(h2:∀(i:Nat) (h:i<ys.length),W.cell? ⟨b2,o2+i,none⟩=some (.int .u8 ys[i])):(Extern.BytealgCompare.compare #[.slice (some ⟨b1,o1,none⟩) xs.length c1,.slice (some ⟨b2,o2,none⟩) ys.length c2]).run P W= .ok (.int .i64 (compareBytes (xs.map λz=>z.toNat.toUInt8) (ys.map λz=>z.toNat.toUInt8))) W:=by
 change Sem.run P (do pure (goInt (Extern.BytealgCompare.cmp (<-Extern.Bytes.bytesOf (.slice (some ⟨b1,o1,none⟩) xs.length c1)) (<-Extern.Bytes.bytesOf (.slice (some ⟨b2,o2,none⟩) ys.length c2))))) W=_;have e1:=n1g (P:=P) (W:=W) xs o1 [] h1;have e2:=n1g (P:=P) (W:=W) ys o2 [] h2;simp only[Extern.Bytes.bytesOf,Sem.run_bind,Sem.run_pure,Result.andThen];rw[show ByteArray.empty=⟨(#[]:Array UInt8)⟩from rfl,e1];simp only[eg];rw[e2];simp only[eg];rw[cmp_eq];rfl
theorem nvj{b1 o1 c1 b2 o2 c2:Nat}{xs ys:List Int}(h1:∀(i:Nat) (h:i<xs.length),W.cell? ⟨b1,o1+i,none⟩=some (.int .u8 xs[i]))(h2:∀(i:Nat) (h:i<ys.length),W.cell? ⟨b2,o2+i,none⟩=some (.int .u8 ys[i])):Calls prog 230 #[.slice (some ⟨b1,o1,none⟩) xs.length c1,.slice (some ⟨b2,o2,none⟩) ys.length c2] W λe w'=>e= .returned (.int .i64 (compareBytes (xs.map λz=>z.toNat.toUInt8) (ys.map λz=>z.toNat.toUInt8)))/\w'=W:=by
 have hr:=B0 (P:=prog) (c1:=c1) (c2:=c2) h1 h2;clear h1 h2
 go_enter func230,ntmps230
 go_wp2
 rw[run_callFunc_extern func282 zT zT zT (e:=Extern.BytealgCompare.compare) zT,hr];simp only[Result.andThen];rw[Oper.upon_value]
 go_wp2
 go_ret
 exact⟨rfl,rfl⟩
theorem TP{o2:Obj}{X:Array Value}{t:Nat}(q:Nat)(h:X[k]? =some v):(((W.alloc (.cells X t)).alloc o2).drewN q).cell? ⟨W.heap.size,k,none⟩=some v:=by
 rw[alloc_eq_grow,alloc_eq_grow,grow_grow];have:(W.heap++(#[.cells X t]++#[o2]))[W.heap.size]? =some (.cells X t):=by rw[Array.getElem?_append_right (ao _)];simp
 simp only[World.cell?,World.drewN,grow,this];exact h
theorem TQ{o1:Obj}{Y:Array Value}{t:Nat}(q:Nat)(h:Y[k]? =some v):(((W.alloc o1).alloc (.cells Y t)).drewN q).cell? ⟨W.heap.size+1,k,none⟩=some v:=by
 rw[alloc_eq_grow,alloc_eq_grow,grow_grow];have:(W.heap++(#[o1]++#[.cells Y t]))[W.heap.size+1]? =some (.cells Y t):=by rw[Array.getElem?_append_right zM];simp
 simp only[World.cell?,World.drewN,grow,this];exact h
theorem TR(X Y:Array Value)(xs ys:List Int)(hx:xs.length=32)(hy:ys.length=32)(hX:∀(i:Nat) (h:i<xs.length),X[74+i]? =some (.int .u8 xs[i]))(hY:∀(i:Nat) (h:i<ys.length),Y[74+i]? =some (.int .u8 ys[i]))(W:World):Calls prog 229 #[.agg X,.agg Y] W λe w'=>e= .returned (.int .i64 (compareBytes (xs.map λz=>z.toNat.toUInt8) (ys.map λz=>z.toNat.toUInt8)))/\∃q BA,w'=grow (W.drewN q) BA:=by
 have kG:∀q,Calls prog 230 #[.slice (some ⟨W.heap.size,74,none⟩) 32 32,.slice (some ⟨W.heap.size+1,74,none⟩) 32 32] (((W.alloc (.cells X 101)).alloc (.cells Y 101)).drewN q) λe w'=>e= .returned (.int .i64 (compareBytes (xs.map λz=>z.toNat.toUInt8) (ys.map λz=>z.toNat.toUInt8)))/\w'=((W.alloc (.cells X 101)).alloc (.cells Y 101)).drewN q:=by
  intro q;have:=nvj (W:=((W.alloc (.cells X 101)).alloc (.cells Y 101)).drewN q) (b1:=W.heap.size) (o1:=74) (c1:=32) (b2:=W.heap.size+1) (o2:=74) (c2:=32) (xs:=xs) (ys:=ys) (λi h=>TP _ (by simp[hX i h])) (λi h=>TQ _ (by simp[hY i h]));rw[hx,hy]at this;exact this
 generalize compareBytes (xs.map λz=>z.toNat.toUInt8) (ys.map λz=>z.toNat.toUInt8)=c at kG ⊢;clear hX hY
 go_enter func229,ntmps229
 go_wp2
 go_region_with (go_at_call 230;refine(kG _).mono ?_;rintro e w' ⟨rfl,rfl⟩)
 go_wp2
 go_ret
 exact⟨rfl,_,_,by rw[alloc_eq_grow,alloc_eq_grow,grow_grow];rfl⟩
end
theorem B2(f:Nat->Int):((dk f).1.map λz=>z.toNat.toUInt8)=dt f:=rfl
theorem TS(x y:Cd)(W:World):Calls prog 229 #[.agg (dO x),.agg (dO y)] W λe w'=>e= .returned (.int .i64 (Go.Lib.compareBytes (dt x.id) (dt y.id)))/\Gz W w':=by
 rw[<-B2,<-B2];have key:∀(z:Cd) (i:Nat) (h:i<(dk z.id).1.length),(dO z)[74+i]? =some (.int .u8 (dk z.id).1[i]):=by
  intro z i h;have h2:i<32:=by rw[(dk z.id).2]at h;exact h
  have e1:((dk z.id).1.map (Value.int .u8))[i]? =some (.int .u8 ((dk z.id).1[i]'h)):=by rw[rC,gR h];rfl
  have e2:(dg z.id)[i]? =((dk z.id).1.map (Value.int .u8))[i]? :=by rw[<-GY,DK];rfl
  exact(uW (k:=74) (n:=32) (r:=dg z.id) rfl i h2).trans (e2.trans e1)
 exact TR (dO x) (dO y) (dk x.id).1 (dk y.id).1 (dk x.id).2 (dk y.id).2 (key x) (key y) W
def X9:Nat->Nat
 |0=>227
 |1=>228
 |_=>229
def MO (w:World) (b:Nat):Prop:=∃b',w.heap[b]? =some (.cells #[.slice (some ⟨b',0,none⟩) 3 3] 372 (0,0))/\w.heap[b']? =some (.cells #[.func (.func 227) #[] #[],.func (.func 228) #[] #[],.func (.func 229) #[] #[]] 257 (0,0))
theorem MP(j:Nat)(h:j<3):(#[Value.func (.func 227) #[] #[],.func (.func 228) #[] #[],.func (.func 229) #[] #[]]:Array Value)[0+((j:Int)).toNat*1]? =some (.func (.func (X9 j)) #[] #[]):=by
 match j,h with
 |0,_=>rfl
 |1,_=>rfl
 |2,_=>rfl
theorem G5(j:Nat)(h:j<3):dU prog (X9 j):=by
 match j,h with
 |0,_=>exact call227
 |1,_=>exact call228
 |2,_=>exact call229
def xA (x y:Cd):Nat->Int
 |0=>cy x.since y.since
 |1=>cy x.c.author y.c.author
 |_=>Go.Lib.compareBytes (dt x.id) (dt y.id)
theorem TT(x y:Cd)(j:Nat)(h:j<3)(W:World):Calls prog (X9 j) #[.agg (dO x),.agg (dO y)] W λe w'=>e= .returned (.int .i64 (xA x y j))/\Gz W w':=by
 match j,h with
 |0,_=>exact TN x y W
 |1,_=>exact TO x y W
 |2,_=>exact TS x y W
def kyD (d:Cd):Int×Int×List UInt8:=(d.since,d.c.author,dt d.id)
def rkI (x y:Cd):Int:=if cy x.since y.since=0 then(if cy x.c.author y.c.author=0 then Go.Lib.compareBytes (dt x.id) (dt y.id)else cy x.c.author y.c.author)else cy x.since y.since
theorem MQ{x y:Cd}(h:∀i,i<j->xA x y i=0)(hj:j<3)(hn:¬xA x y j=0):xA x y j=rkI x y:=by
 have h0:=h 0;have h1:=h 1
 unfold rkI;simp only[xA]at h0 h1
 match j,hj with
 |0,_=>simp only[xA]at hn ⊢;rw[if_neg hn]
 |1,_=>simp only[xA]at hn ⊢;rw[if_pos (h0 zM),if_neg hn]
 |2,_=>simp only[xA]at hn ⊢;rw[if_pos (h0 zM),if_pos (h1 zM)]
theorem G6{x y:Cd}(h:∀i,i<3->xA x y i=0):0=rkI x y:=by
 have h0:=h 0 zM;have h1:=h 1 zM;have h2:=h 2 zM
 simp only[xA]at h0 h1 h2;unfold rkI;rw[if_pos h0,if_pos h1,h2]
theorem adF(x y:Cd)(b:Nat)(w:World)(hr:MO w b):Calls prog 281 #[.agg (dO x),.agg (dO y),ptr b 0] w λe w'=>e= .returned (.int .i64 (rkI x y))/\Gz w w':=by
 obtain⟨b2,hb,aI⟩:=hr;refine MR (vs:=[_,_,_]) func281 rfl ntmps281 rfl ?_;refine JI ?_;refine TU rfl rfl rfl (λW0 h0=>?_);refine TU rfl rfl rfl (λW1 h1=>?_);obtain⟨W2,h2⟩:∃W2,W2=W1.alloc (.cells (dO y) 101 (0,0)):=⟨_,rfl⟩;have fW:Gz w W1:=by rw[h1,h0];exact Gz.alloc _ _
 have dY:Gz w W2:=by rw[h2];exact fW.trans (Gz.alloc _ _)
 have ph:W2.heap[W1.heap.size]? =some (.cells (dO y) 101 (0,0)):=by rw[h2];exact heap_alloc_new _ _
 have Ya:W2.heap[W0.heap.size]? =some (.cells (dO x) 101 (0,0)):=by
  have e:W1.heap[W0.heap.size]? =some (.cells (dO x) 101 (0,0)):=by rw[h1];exact heap_alloc_new _ _
  rw[h2,(TV W1 _).block _ (aL.1 e).1];exact e
 have bS:∀{W:World},Gz W2 W->St Gh.no [W2,w] [] W:=λ{W} h=>TW (by
  intro v hv;simp only[cP,fm,or_false]at hv;rcases hv with rfl|rfl
  ·exact h.below
  exact(dY.trans h).below)
 refine pq (L:=[W2,w]) (λW e=>by rw[e];have:=bS (Gz.refl W2);rw[h2]at this ⊢;exact this) rfl rfl rfl (kp rfl) ?_;refine Ea ?_;refine CX.seq ?_;refine JI ?_;refine pq (L:=[W2,w]) (λW e=>by rw[e];have:=bS (Gz.refl W2);rw[h2]at this ⊢;exact this) rfl rfl rfl (aa (v:=.slice (some ⟨b2,0,none⟩) 3 3) isAgg372 rfl A1 hb zZ trivial rfl) ?_;refine pq (L:=[W2,w]) (λW e=>by rw[e];have:=bS (Gz.refl W2);rw[h2]at this ⊢;exact this) rfl rfl rfl (iP underlying372 rfl) ?_;refine pq (L:=[W2,w]) (λW e=>by rw[e];have:=bS (Gz.refl W2);rw[h2]at this ⊢;exact this) rfl rfl rfl (fh rfl) ?_;refine Ea ?_;refine CX.block ?_;refine CX.loop (α:=Nat×World) (λp=>[(2,ptr b 0),(3,ptr W0.heap.size 0),(4,ptr W1.heap.size 0),(9,.slice (some ⟨b2,0,none⟩) 3 3),(10,.int .i64 3),(11,.int .i64 (p.1:Int))]) (λp=>(· =p.2)) (λp=>p.1<=3/\(∀i,i<p.1->xA x y i=0)/\Gz W2 p.2) (λp=>3-p.1) (0,W2) ⟨by omega,λi h=>absurd h zM,Gz.refl _⟩ zR (λW e=>e.trans h2.symm) ?_;rintro⟨j,W⟩ ⟨hj,hz,hg⟩;dsimp only at hj hz hg ⊢;have hT:∀W',W'=W->St Gh.no [W2,w] [] W':=λW' e=>by rw[e];exact bS hg
 refine JI ?_;by_cases aj:j<3
 ·refine pq hT rfl rfl rfl (RV.re (v':=.bool true) (mZ rfl rfl) (vb (decide_eq_true zM))) ?_;refine Ea ?_;refine CX.seq ?_;refine CX.condT rfl ?_;refine CX.skip ?_;refine PX.next ?_;refine CX.seq ?_;refine CX.block ?_;refine JI ?_;refine pq hT rfl rfl rfl (cL underlying372 sizeOf257 rfl rfl zM zM) ?_;refine pq hT rfl rfl rfl (aa (v:=.func (.func (X9 j)) #[] #[]) isAgg257 rfl A1 aI zZ trivial (MP j aj)) ?_;refine pq hT rfl rfl rfl (kp rfl) ?_;refine Ea ?_;refine JI ?_;refine pq hT rfl rfl rfl (fh rfl) ?_;refine pq hT rfl rfl rfl (af isAgg101 sizeOf101 rfl A0 Ya zZ trivial rfl) ?_;refine pq hT rfl rfl rfl (af isAgg101 sizeOf101 rfl A0 ph zZ trivial rfl) ?_;refine MS (first:=[]) (cap:=[]) (v:=.int .i64 (xA x y j)) (T':=Gz W) rfl (G5 j aj) rfl rfl rfl (λW' e=>by rw[e];exact TT x y j aj W) ?_;refine OX.fix (λW3 G7=>?_);have ew:=hg.trans G7;have JJ:∀W',W'=W3->St Gh.no [W2,w] [] W':=λW' e=>by rw[e];exact bS ew
  refine pq JJ rfl rfl rfl (kp rfl) ?_;refine Ea ?_;refine JI ?_;refine pq JJ rfl rfl rfl (fh rfl) ?_;by_cases aQ:xA x y j=0
  ·refine pq JJ rfl rfl rfl (RV.re (v':=.bool false) (bM rfl rfl) (vb (by simp[aQ]))) ?_;refine Ea ?_;refine CX.condF rfl ?_;refine CX.skip ?_;refine PX.norBlock ?_;refine PX.next ?_;refine CX.region ?_;refine pq JJ rfl rfl rfl (qv rfl rfl zM zM) ?_;refine pq JJ rfl rfl rfl (fh rfl) ?_;refine OX.done ?_;exact PX.again (j+1,W3) ⟨by dsimp only;omega,λi hi=>by dsimp only at hi;by_cases e:i=j;(rw[e];exact aQ);exact hz i zM,ew⟩ dE zR (λW' e=>e)
  refine pq JJ rfl rfl rfl (RV.re (v':=.bool true) (bM rfl rfl) (vb (by simp[aQ]))) ?_;refine Ea ?_;refine CX.condT rfl ?_;refine JI ?_;refine pq JJ rfl rfl rfl (fh rfl) ?_;refine pq JJ rfl rfl rfl (kp rfl) ?_;refine Ea ?_;refine CX.ret ?_;refine PX.retBlock ?_;refine PX.retThen ?_;refine PX.retThen ?_;refine PX.retBlock ?_;refine PX.retThen ?_;exact JK (.inl rfl) results281 rfl (λW' e=>⟨congrArg (λn=>Ending.returned (.int .i64 n)) (MQ hz aj aQ),by rw[e];exact dY.trans ew⟩)
 refine pq hT rfl rfl rfl (RV.re (v':=.bool false) (mZ rfl rfl) (vb (decide_eq_false zM))) ?_;refine Ea ?_;refine CX.seq ?_;refine CX.condF rfl ?_;refine CX.exit ?_;refine PX.exThen ?_;refine PX.exThen ?_;refine PX.exHit ?_;refine PX.next ?_;refine JI ?_;refine pq hT rfl rfl rfl (kp rfl) ?_;refine Ea ?_;refine CX.ret ?_;exact JK (.inl rfl) results281 rfl (λW' e=>⟨congrArg (λn=>Ending.returned (.int .i64 n)) (G6 (λi hi=>hz i zM)),by rw[e];exact dY.trans hg⟩)
theorem CO.rkI:CO rkI:=CO.ky3.key kyD
def pr (d:Cd):Nat:=d.at_.toNat
structure ox (Z:Fx) (cs:List Cm) (g:Gp) (d:Cd):Prop where
 nn:0<=d.at_
 at_:cs[pr d]? =some d.c
 id:d.id=aR Z d.c
 since:d.since=vX g.ms d.c.author
 x:d.x.g=BN Z g d.c
 ok:lL Z g d.c=0
noncomputable def Eb (Z:Fx) (cs:List Cm) (g:Gp) (i:Nat):Bool:=match cs[i]? with|some c=>fE c.par g.last&&decide (lL Z g c=0)|none=>false
noncomputable def uX (Z:Fx) (cs:List Cm) (g:Gp) (k:Nat):List Nat:=(((bC Z cs cs.length).take k).map λp=>p.2.toNat).filter (Eb Z cs g)
theorem G8{cs:List Cm}{q:Dk×Int}(hq:(bC Z cs cs.length)[k]? =some q)(hi:q.2=(i:Int))(h:Eb Z cs g i=true):uX Z cs g (k+1)=uX Z cs g k++[i]:=by
 unfold uX;rw[nC hq,ga,List.filter_append];simp[hi,h]
theorem B3{cs:List Cm}{q:Dk×Int}(hq:(bC Z cs cs.length)[k]? =some q)(hi:q.2=(i:Int))(h:Eb Z cs g i=false):uX Z cs g (k+1)=uX Z cs g k:=by
 unfold uX;rw[nC hq,ga,List.filter_append];simp[hi,h]
theorem G9{cs:List Cm}{c:Cm}(hc:cs[i]? =some c)(h:¬fE c.par g.last=true):Eb Z cs g i=false:=by simp[Eb,hc,h]
theorem Ha{cs:List Cm}{c:Cm}(hc:cs[i]? =some c)(h:¬lL Z g c=0):Eb Z cs g i=false:=by simp[Eb,hc,h]
theorem Hd{cs:List Cm}{c:Cm}(hc:cs[i]? =some c)(h:fE c.par g.last=true)(h2:lL Z g c=0):Eb Z cs g i=true:=by simp[Eb,hc,h,h2]
theorem nUn{cs:List Cm}(h:i∈uX Z cs g k):∃c,cs[i]? =some c/\(dk (aR Z c),(i:Int))∈(bC Z cs cs.length):=by
 obtain⟨h1,_⟩:=vH.1 h;obtain⟨p,hp,rfl⟩:=bU.1 h1;have tF:=List.mem_of_mem_take hp;obtain⟨j,c,e1,e2,e3,e4⟩:=X4 Z cs _ p tF;refine⟨c,by rw[e1];exact e3,?_⟩;have e:p=(dk (aR Z c),((p.2.toNat:Nat):Int)):=by
  obtain⟨p1,p2⟩:=p;simp only at e1 e4 ⊢;rw[e4,e1];rfl
 rw[<-e];exact tF
noncomputable def B4 (Z:Fx) (cs:List Cm) (g:Gp) (i:Nat):Int×Int×List UInt8:=match cs[i]? with|some c=>(vX g.ms c.author,c.author,dt (aR Z c))|none=>(0,0,[])
theorem ox.key{cs:List Cm}{d:Cd}(h:ox Z cs g d):kyD d=B4 Z cs g (pr d):=by simp only[kyD,B4,h.at_,h.since,h.id]
noncomputable def JL (Z:Fx) (cs:List Cm) (g:Gp) (i j:Nat):Bool:=decide (ky3 (B4 Z cs g i) (B4 Z cs g j)<=0)
noncomputable def JM (Z:Fx) (cs:List Cm) (g:Gp):List Nat:=(uX Z cs g (bC Z cs cs.length).length).mergeSort (JL Z cs g)
theorem He{f g:Nat->Int}(hf:jq f)(hg:jq g)(h:dt f=dt g):dk f=dk g:=by
 have key:∀i,i<32->f i=g i:=by
  intro i hi;have h1:=WB f hf i hi;have h2:=WB g hg i hi;rw[<-h1,<-h2,h]
 unfold dk;congr 1;rw[key 0 zQ,key 1 zQ,key 2 zQ,key 3 zQ,key 4 zQ,key 5 zQ,key 6 zQ,key 7 zQ,key 8 zQ,key 9 zQ,key 10 zQ,key 11 zQ,key 12 zQ,key 13 zQ,key 14 zQ,key 15 zQ,key 16 zQ,key 17 zQ,key 18 zQ,key 19 zQ,key 20 zQ,key 21 zQ,key 22 zQ,key 23 zQ,key 24 zQ,key 25 zQ,key 26 zQ,key 27 zQ,key 28 zQ,key 29 zQ,key 30 zQ,key 31 zQ]
theorem Hf(hZ:FxOk Z){cs:List Cm}:∀a∈uX Z cs g k,∀b∈uX Z cs g k,JL Z cs g a b=true->JL Z cs g b a=true->a=b:=by
 intro a ha b hb h1 h2;obtain⟨c,hc,hm⟩:=nUn ha;obtain⟨c2,aQ,aE⟩:=nUn hb;simp only[JL,decide_eq_true_eq]at h1 h2;have h3:=CO.ky3.anti (B4 Z cs g a) (B4 Z cs g b);have h4:=MN (x:=B4 Z cs g a) (y:=B4 Z cs g b) zM;simp only[B4,hc,aQ]at h4;have h5:dk (aR Z c)=dk (aR Z c2):=He (hZ.byt _ _) (hZ.byt _ _) h4;have nd:=n6j Z cs cs.length;obtain⟨i,hi⟩:=iQ.1 hm;obtain⟨j,hj⟩:=iQ.1 aE;have tG:=nF hi;have DH:=nF hj;have xp:i=j:=by
  have e1:((bC Z cs cs.length).map (·.1))[i]? =some (dk (aR Z c)):=by rw[rC,hi];rfl
  have e2:((bC Z cs cs.length).map (·.1))[j]? =some (dk (aR Z c)):=by rw[rC,hj,h5];rfl
  exact(List.getElem?_inj (by rw[fy];exact tG) nd).1 (e1.trans e2.symm)
 subst xp;rw[hi]at hj;have:=(Prod.mk.inj (Option.some.inj hj)).2;omega
instance:Inhabited Cd:=⟨⟨0,⟨0,0,λ_=>0,0,[],none,0,[],none,0,[],none,0,[],none,0,λ_=>0,0,0⟩,λ_=>0,0,kS⟩⟩
theorem njp{α:Type}[Inhabited α]{cf:α->α->Int}(h:CO cf)(xs:List α):(gr cf xs).Pairwise (λa b=>cf a b<=0):=by
 have hs:=(Go.Sort.pdq_sorts (Go.Proofs.ltOf cf) h.swo xs.toArray 0 xs.toArray.size (Go.Lib.bitLen xs.toArray.size) true true (dx _) (ao _) (Or.inl rfl)).2;have hl:(gr cf xs).length=xs.toArray.size:=by rw[Mw h.swo];simp
 rw[List.pairwise_iff_getElem];intro i j hi hj xp;have h2:=hs i j (dx _) xp zM;simp only[Go.Proofs.ltOf,decide_eq_false_iff_not]at h2;have e:∀k (hk:k<(gr cf xs).length),(Go.Sort.pdq (Go.Proofs.ltOf cf) xs.toArray 0 xs.toArray.size (Go.Lib.bitLen xs.toArray.size) true true)[k]! =(gr cf xs)[k]:=by
  intro k hk;unfold gr at hk ⊢;rw[Array.length_toList]at hk;rw[Array.getElem_toList];exact getElem!_pos (Go.Sort.pdq (Go.Proofs.ltOf cf) xs.toArray 0 xs.toArray.size (Go.Lib.bitLen xs.toArray.size) true true) k hk
 rw[e i hi,e j hj]at h2;have:=h.anti ((gr cf xs)[i]) ((gr cf xs)[j]);omega
theorem Hg(hZ:FxOk Z){cs:List Cm}{ds:List Cd}(hm:ds.map pr=uX Z cs g (bC Z cs cs.length).length)(hd:∀d∈ds,ox Z cs g d):(gr rkI ds).map pr=JM Z cs g:=by
 have hp:(gr rkI ds).Perm ds:=nXg CO.rkI.swo ds;have yy:((gr rkI ds).map pr).Perm (uX Z cs g (bC Z cs cs.length).length):=hm▸hp.map pr;have tF:(JM Z cs g).Perm (uX Z cs g (bC Z cs cs.length).length):=List.mergeSort_perm _ _;refine n8j (le:=JL Z cs g) (λa ha b hb=>Hf hZ a (yy.mem_iff.1 ha) b (yy.mem_iff.1 hb)) ?_ ?_ (yy.trans tF.symm)
 ·rw[List.pairwise_map];refine(njp CO.rkI ds).imp_of_mem ?_;intro a b ha hb h;have h1:=(hd a (hp.mem_iff.1 ha)).key;have h2:=(hd b (hp.mem_iff.1 hb)).key;simp only[JL,decide_eq_true_eq,<-h1,<-h2];exact h
 refine List.pairwise_mergeSort (λa b c h1 h2=>?_) (λa b=>?_) _
 ·simp only[JL,decide_eq_true_eq]at *;exact CO.ky3.trans _ _ _ h1 h2
 have:=CO.ky3.anti (B4 Z cs g a) (B4 Z cs g b);simp only[JL,Bool.or_eq_true,decide_eq_true_eq];omega
structure Ec (F:ad) (x:Gv):Prop where
 ms:Ed oK 3 F x.ma x.g.ms
 ns:Ed gf 2 F x.na x.g.ns
 mn:x.g.ms.length<=10000
 nn:x.g.ns.length<=80000
theorem Ec.mono{F':ad}{x:Gv}(h:Ec F x)(hF:∀p∈F,p∈F'):Ec F' x:=⟨h.ms.mono hF,h.ns.mono hF,h.mn,h.nn⟩
theorem Ec.lies{x:Gv}(h:Ec F x)(hW:∀p∈F,p.1<N/\W.heap[p.1]? =some p.2):aM N W x:=⟨h.ms.at hW,h.ns.at hW,h.mn,h.nn⟩
def bh (K:Nat) (x:Gv):Prop:=(∀q,x.ma=some q->x.g.ms=[]\/K<=q.block)/\(∀q,x.na=some q->x.g.ns=[]\/K<=q.block)
theorem Ec.new{x:Gv}{K:Nat}(h:Ec F x)(hF:∀p∈F,K<=p.1):bh K x:=⟨h.ms.ge hF,h.ns.ge hF⟩
theorem nBk(hZ:FxOk Z)(G:Gv)(c:Cm)(dM:cI c)(N:Nat)(w:World)(hN:N<=w.heap.size)(hG:aM N w G)(hC:dQ N w c)(hg:Glb w):Calls prog 101 #[.agg (aZ G),.agg (dZ c)] w (λe w'=>∃(X:Gv) (F':ad),e= .returned (.tuple #[.agg (aZ X),.int .i64 (lL Z G.g c)])/\Below w.heap.size w w'/\(∀p∈F',w.heap.size<=p.1/\w'.heap[p.1]? =some p.2)/\X.g=tE Z G.g c/\Ec F' X):=by
 refine(nOe hZ G c dM N w hN hG hC hg).mono ?_;rintro e w' ⟨X,rfl,hb,hg9,gk,vl,Ku⟩;obtain⟨F1,hF1,BZ⟩:=gk.ms.fs vl;obtain⟨F2,Yb,hs2⟩:=gk.ns.fs Ku;refine⟨X,F1++F2,rfl,hb,λp hp=>(cS.1 hp).elim (hF1 p) (Yb p),hg9,BZ.mono (λp hp=>cS.2 (.inl hp)),hs2.mono (λp hp=>cS.2 (.inr hp)),gk.mn,gk.nn⟩
theorem MT{xs:List Cd}(hl:xs.length<=1000000){cap:Nat}(bW:(Rw.row b cap sp).Fit 143 xs)(h:W.heap[b]? =some (cD mJ 101 xs sp))(bk:Nat)(MU:∀w:World,aG (· =b) W w->MO w bk):Calls prog 164 #[.slice (some ⟨b,0,none⟩) xs.length cap,.func (.func 281) #[] #[ptr bk 0]] W (λe w'=>∃bK,e= .returned ((λ_=>.tuple #[]) (Rw.row b cap bK))/\aG (· =b) W w'/\(Rw.row b cap bK).Fit 143 (gr rkI xs)/\w'.heap[b]? =some (cD mJ 101 (gr rkI xs) bK)):=by
 have xj:∀ys:List Cd,ys.length=xs.length->∀(m:Nat) (os:Array Obj),aG (· =b) W (Go.Proofs.sortWorldK mJ 143 W b 0 m ys.toArray os):=λys hy m os=>(vU (n:=m) (os:=os) D9 h (ys:=ys) hy).1;have hc:=Go.Proofs.AnyQ.slices_SortFunc_eq Go.Proofs.Tryz.laySC 143 isAgg101 sizeOf101 mJ D9 nnj rkI CO.rkI.swo 281 #[ptr bk 0] b 0 cap xs.toArray W (Go.Proofs.enters_of func281 zT rfl) (λm os dk hd x y=>adF x y bk _ (MU _ (by have:=xj dk.toList (by rw[Array.length_toList,hd];simp) m os;simpa using this))) (nal D9 h) (aL.1 h).1 kh;change Calls prog 164 _ _ _ at hc;refine hc.mono ?_;rintro e w' ⟨rfl,n,os,rfl⟩;have hp:=vU (n:=n) (os:=os) D9 h (ys:=gr rkI xs) (Mw CO.rkI.swo xs);exact⟨sp,rfl,hp.1,by simp only[Rw.Fit,Mw CO.rkI.swo];exact bW,hp.2⟩
def uY (w:World) (b N:Nat):Prop:=N<=b/\∃b',N<=b'/\w.heap[b]? =some (.cells #[.slice (some ⟨b',0,none⟩) 3 3] 372 (0,0))/\w.heap[b']? =some (.cells #[.func (.func 227) #[] #[],.func (.func 228) #[] #[],.func (.func 229) #[] #[]] 257 (0,0))
theorem uY.keep{w:World}{X:Nat->Prop}(h:uY w b N)(hk:aG X w W)(hX:∀k,X k->k<N):uY W b N:=by
 obtain⟨h0,b',eJ,h1,h2⟩:=h;have l1:=(aL.1 h1).1;have l2:=(aL.1 h2).1;refine⟨h0,b',eJ,?_,?_⟩
 ·rw[hk.block b l1 (λhx=>by have:=hX _ hx;omega)];exact h1
 rw[hk.block b' l2 (λhx=>by have:=hX _ hx;omega)];exact h2
theorem uY.at{w:World}(h:uY w b N):MO w b:=⟨h.2.choose,h.2.choose_spec.2⟩
theorem n6n(b:Nat)(w:World):Calls prog 226 #[.slice (some ⟨b,0,none⟩) 3 3] w (cu w (λb1:Nat=>.func (.func 281) #[] #[ptr b1 0]) (λb1 w1=>w.heap.size<=b1/\w1.heap[b1]? =some (.cells #[.slice (some ⟨b,0,none⟩) 3 3] 372 (0,0)))):=by
 refine enter (vs:=[_]) func226 rfl ntmps226 rfl ?_;refine B 2 ?_;refine yX ?_;intro b1 w1 aP aX fW eb ir;refine B 10 ?_;refine jM b1 results226 rfl A1 rfl ?_;exact λW hS=>⟨by omega,hS.old A0 aP aX trivial⟩
theorem nXk(w:World):Calls prog 165 #[] w (cu w (λb1:Nat=>.func (.func 281) #[] #[ptr b1 0]) (λb1 w1=>uY w1 b1 w.heap.size)):=by
 refine enter (vs:=[]) func165 rfl ntmps165 rfl ?_;refine B 7 ?_;refine EU underlying372 sizeOf257 zeroValue257 rfl rfl rfl rfl rfl rfl rfl ?_;refine yV ?_;intro b1 w1 aP aX fW eb ir;refine nr (α:=Nat) (v:=λb9:Nat=>.func (.func 281) #[] #[ptr b9 0]) (Φ:=λW b9 w9=>W.heap.size<=b9/\w9.heap[b9]? =some (.cells #[.slice (some ⟨b1,0,none⟩) 3 3] 372 (0,0))) call226 rfl rfl rfl (λW hS=>n6n b1 W) ?_;rintro W9 b9 w9 lI vN ⟨gX,gY⟩;have mF:=(lI.links w1 A0).size;have hzw:=(lI.links w A1).size;refine B 4 ?_;refine jM b9 results165 rfl A2 rfl ?_;exact λW hS=>⟨by omega,b1,by omega,hS.old A0 gY zZ trivial,hS.old A1 aP aX trivial⟩
theorem ntk(bk:Nat)(w:World):Calls prog 273 #[.slice none 0 0,.int .i64 0,.int .i64 0,.func (.func 281) #[] #[ptr bk 0]] w (av w (.tuple #[])):=by
 refine enter (vs:=[_,_,_,_]) func273 rfl ntmps273 rfl ?_;refine B 8 ?_;refine CJ.loop (α:=Nat) (λj=>[(0,.slice none 0 0),(1,.int .i64 0),(2,.int .i64 0),(3,.func (.func 281) #[] #[ptr bk 0]),(8,.int .i64 1)]) (λj=>[]) (λj=>[w]) (λj=>Gh.no) (λj=>True) (λj=>0) 0 True.intro zR rfl rfl z1 ?_;rintro j _;refine XN ?_;exact bG (.inr rfl) results273 RS.n A0 trivial rfl
theorem n1n(bk:Nat)(l:Int)(w:World):Calls prog 225 #[.slice none 0 0,.int .i64 0,.int .i64 0,.int .i64 l,.func (.func 281) #[] #[ptr bk 0]] w (av w (.tuple #[])):=by
 refine enter (vs:=[_,_,_,_,_]) func225 rfl ntmps225 rfl ?_;refine B 11 ?_;refine CJ.loop (α:=Nat) (λj=>[(0,.slice none 0 0),(1,.int .i64 0),(2,.int .i64 0),(3,.int .i64 l),(4,.func (.func 281) #[] #[ptr bk 0])]) (λj=>[]) (λj=>[w]) (λj=>Gh.no) (λj=>True) (λj=>0) 0 True.intro zR rfl rfl z1 ?_;rintro j _;refine XO ?_;refine call call273 rfl rfl rfl (λW hS=>ntk bk W) ?_;refine B 7 ?_;exact bG (.inl rfl) results225 RS.n A0 trivial rfl
theorem nMm(bk:Nat)(w:World):Calls prog 164 #[.slice none 0 0,.func (.func 281) #[] #[ptr bk 0]] w (av w (.tuple #[])):=by
 refine enter (vs:=[_,_]) func164 rfl ntmps164 rfl ?_;refine XP ?_;refine B 1 ?_;refine call call225 rfl rfl rfl (λW hS=>n1n bk _ W) ?_;refine B 1 ?_;exact bG (.inr rfl) results164 RS.n A0 trivial rfl
theorem nqi(hZ:FxOk Z)(cs:List Cm)(hcs:cs.length<=1000)(dM:∀c∈cs,cI c)(N:Nat)(la:Option Addr)(lc:Nat)(w:World)(hN:N<=w.heap.size)(aN:ah dZ 73 N w la cs)(hC:∀c∈cs,dQ N w c)(ia:Option Addr)(ic:Nat)(ta:Option Addr)(tc:Nat)(hp:mr Z cs N w ⟨ia,ic,ta,tc⟩)(G:Gv)(hG:aM N w G)(hg:Glb w):Calls prog 102 #[.agg (xy Z cs la lc ⟨ia,ic,ta,tc⟩),.agg (aZ G)] w (λe w'=>∃ds:List Cd,(ds.map pr=JM Z cs G.g/\∀d∈ds,ox Z cs G.g d/\aM w'.heap.size w' d.x/\bh w.heap.size d.x)/\nB w mJ 143 101 ds id e w'):=by
 have ew:=hg.lt;have hpl:=PR Z cs cs.length;have mB:((bC Z cs cs.length).map (·.1)).length=(bC Z cs cs.length).length:=fy ..;have xj:((bC Z cs cs.length).map (·.2)).length=(bC Z cs cs.length).length:=fy ..;have B5:=hp.ids;have B6:=hp.at_;dsimp only at B5 B6;refine nM (kF []) [] (vs:=[_,_]) func102 rfl ntmps102 rfl (Js w) ?_;refine B 2 ?_;refine yX ?_;intro b2 w2 aI aE dY cA db;refine yX ?_;intro b3 w3 aJ aD dr bY cR;refine B 7 ?_;refine rr (.slice ta ((bC Z cs cs.length).map (·.2)).length tc) (aa isAgg44 rfl A1 aI aE trivial rfl) ?_;refine B 5 ?_;refine CJ.loop (α:=((Rw×List Cd)×ad)×Nat) (λp9=>[(2,ptr b2 0),(3,ptr b3 0),(4,p9.1.1.1.val p9.1.1.2.length),(11,.slice ta ((bC Z cs cs.length).map (·.2)).length tc),(12,.int .i64 (((bC Z cs cs.length).map (·.2)).length:Int)),(13,.int .i64 (p9.2:Int))]) (λp9=>p9.1.1.1.hp mJ 101 p9.1.1.2++[]) (λp9=>[w3,w2,w]) (λp9=>kF p9.1.2) (λp9=>p9.2<=((bC Z cs cs.length).map (·.2)).length/\p9.1.1.1.Fr (kF p9.1.2) [w3,w2,w]/\p9.1.1.1.Fit 143 p9.1.1.2/\p9.1.1.2.map pr=uX Z cs G.g p9.2/\(∀d∈p9.1.1.2,ox Z cs G.g d/\Ec p9.1.2 d.x)/\p9.1.1.2.length<=p9.2/\∀q∈p9.1.2,w.heap.size<=q.1) (λp9=>((bC Z cs cs.length).map (·.2)).length-p9.2) (((.nil,[]),[]),0) ⟨dx _,True.intro,rfl,rfl,by simp,ao _,by simp⟩ zR rfl rfl z1 ?_
 rintro⟨⟨⟨r,ds⟩,F⟩,k⟩ ⟨hk,bH,al,bF,tH,OO,B7⟩;dsimp only at hk bH al bF tH OO B7 ⊢;have cO:r.ge w3.heap.size:=Rw.ge_fz bH A0;refine B 6 ?_;refine aO ?_ ?_
 ·intro aj;refine B 5 ?_;obtain⟨q,hq⟩:=nj (bC Z cs cs.length) k zM;obtain⟨i,c,MV,tG,hc,Yc⟩:=X4 Z cs _ q (cB hq);have TH:((bC Z cs cs.length).map (·.2))[k]? =some ((i:Nat):Int):=by rw[rC,hq,wO,MV]
  have EB:((bC Z cs cs.length).map (·.1))[k]? =some (dk (aR Z c)):=by rw[rC,hq,wO,Yc]
  have hcm:=cB hc;obtain⟨ba,oa,csa,ta,fra,rfl,hba,B8,TX⟩:=B6.get zM;obtain⟨bq,oq,Xb,tq,Xc,rfl,Xd,sx,sy⟩:=B5.get zM;obtain⟨bl,ol,csl,tl,frl,rfl,jN,uZ,mv⟩:=aN.get zM;refine B 3 ?_;refine rv rfl rfl rfl (aa (v:=.int .i64 (i:Int)) isAgg3 rfl A2 B8 zZ TY Yd) ?_;refine B 7 ?_;refine rr (.slice (some ⟨bl,ol,none⟩) cs.length lc) (aa isAgg24 rfl A1 aI aE MW rfl) ?_;refine B 2 ?_;refine rq (.agg (dZ c)) (ag isAgg99 sizeOf99 rfl A2 uZ zZ TY (nl mv hc rfl)) (va (nq mv hc rfl)) ?_;refine aY zeroValue99 rfl rfl ?_;refine yW ?_;intro b7 fu lG;refine aV (i:=0) rfl sizeOf99 rfl rfl rfl rfl rfl rfl ?_;refine B 4 ?_;by_cases Ye:fE c.par G.g.last=true
  ·refine B 2 ?_;refine zOh ?_;refine B 1 ?_;refine zLh ?_;refine rq (.bool false) (jR uB zQ nX rfl rfl rfl) (congrArg (λq=>Value.bool (!q)) Ye) ?_;refine B 7 ?_;refine rr (.agg (aZ G)) (af isAgg57 sizeOf57 rfl A0 aJ aD MW rfl) ?_;refine rr (.agg (dZ c)) (aK (i:=0) rfl isAgg99 sizeOf99 rfl rfl) ?_;refine MX (γ:=Gv) (v:=λX=>.tuple #[.agg (aZ X),.int .i64 (lL Z G.g c)]) (Φ:=λF X=>X.g=tE Z G.g c/\Ec F X) call101 rfl rfl rfl (λW hS=>nBk hZ G c (dM c hcm) N W (aS hN (hS.links w A2).size) (hG.up (ao _) (hS.same A2 hN zU TZ)) ((hC c hcm).up (ao _) (hS.same A2 hN zU TZ)) (hg.old hS A2 zU TZ)) ?_;rintro Xn F2 ⟨fl,gO⟩ Yb;obtain⟨e,he⟩:∃e,lL Z G.g c=e:=⟨_,rfl⟩;rw[he];refine B 3 ?_;refine qV ?_;refine yW ?_;intro b8 ua uc;refine GR ?_;refine B 9 ?_;refine aO ?_ ?_
   ·intro aQ;refine ng (E':=[(2,_),(3,_),(4,_),(5,_),(6,_),(7,_),(8,_),(9,_),(11,_),(12,_),(13,_),(14,_),(15,_),(16,_),(17,_),(18,_),(19,_),(20,_),(21,_),(22,_),(23,_),(24,_),(25,_),(26,_),(27,_),(28,_),(29,_),(30,_),(31,_),(32,_),(33,_),(34,_),(35,_)]) zR ?_;refine nK 15 [14] [([],some _),([],some _),([],some (.agg (dZ c))),([],some _),([3],some (.slice (some ⟨bq,oq,none⟩) ((bC Z cs cs.length).map (·.1)).length ic)),([],some _),([4,5],some _),([6],some (.agg (dg (aR Z c)))),([],some (.agg (aZ G))),([],some _),([9],some (.int .i64 c.author)),([8,10],some (.int .i64 (vX G.g.ms c.author))),([],some (.agg (aZ Xn))),([1,2,7,11,12],some (.agg (dO (⟨(i:Int),c,aR Z c,vX G.g.ms c.author,Xn⟩:Cd)))),([13],none)] (λcv L' H'=>match cv with| []=>L'=[w3,w2,w]/\H'=[(b8,.cells (aZ Xn) 57 (0,0)),(b7,.cells (dZ c) 99 (0,0))]++(r.hp mJ 101 ds++[])| [v1]=>∃(PT:Nat),v1= .slice (some ⟨PT,0,none⟩) 1 1/\L'=[w3,w2,w]/\H'=[(PT,.cells (dO (⟨(i:Int),c,aR Z c,vX G.g.ms c.author,Xn⟩:Cd)) 101 (0,0)),(b8,.cells (aZ Xn) 57 (0,0)),(b7,.cells (dZ c) 99 (0,0))]++(r.hp mJ 101 ds++[])/\w3.heap.size<=PT|_=>False) zT ⟨rfl,rfl⟩ zT zT zT zT zT zT (pc zW (pc zW (pc MY (pc (by exact λcv L' H' hd hP=>X.val rfl rfl (ak underlying92 rfl sizeOf41 rfl) R2) (pc MY (pc zW (pc (by exact λcv L' H' hd hP=>X.val rfl rfl (cL underlying41 sizeOf34 rfl rfl zM zM) R2) (pc MY (pc MY (pc xr (pc MY (pc MY (pc MY (pc zuc (pk (pn)))))))))))))))) ?_ ?_
    ·refine sc rfl rfl rfl ?_ ?_
     ·intro cv L' H' hl hP F Q' hk;obtain rfl:=jt hl;obtain⟨rfl,rfl⟩:=hP;refine lj underlying194 sizeOf101 zeroValue101 rfl rfl rfl rfl rfl rfl rfl ?_;intro b_ GH XF;exact OJ.done (hk _ _ _ ⟨b_,rfl,rfl,rfl,GH.1⟩)
     exact sn
    intro cv L' H' hl hP;obtain⟨v1,rfl⟩:=di hl;obtain⟨PT,rfl,rfl,rfl,adH⟩:=hP;refine o8 (r:=r) (xs:=ds) (zs:=[(⟨(i:Int),c,aR Z c,vX G.g.ms c.author,Xn⟩:Cd)]) (enc:=mJ) (m:=143) (H0:=[(PT,.cells (dO (⟨(i:Int),c,aR Z c,vX G.g.ms c.author,Xn⟩:Cd)) 101 (0,0)),(b8,.cells (aZ Xn) 57 (0,0)),(b7,.cells (dZ c) 99 (0,0))]) (H1:=[]) wU BU D9 rfl rfl rfl rfl (dy.one (z:=(⟨(i:Int),c,aR Z c,vX G.g.ms c.author,Xn⟩:Cd)) D9 nnj underlying194 (bN.own (i:=0) rfl)) al bH z1 FX ?_;intro b51 adI adJ MZ M1;replace MZ:=yb MZ;refine B 8 ?_;refine Ar ?_;refine mD ?_;refine PJ.again (((Rw.row b51 adI adJ,ds++[(⟨(i:Int),c,aR Z c,vX G.g.ms c.author,Xn⟩:Cd)]),F2++F),k+1) ⟨by dsimp only;omega,MZ.elim (λh=>Rw.Fr_at bH h) (λh=>.inr h),M1,by dsimp only;rw[G8 hq MV (Hd hc Ye (by rw[he];assumption)),ga,bF];rfl,λd hd=>(cS.1 hd).elim (λh=>⟨(tH d h).1,(tH d h).2.mono (λp hp=>cS.2 (.inr hp))⟩) (λh=>by rw[ql.1 h];exact⟨⟨Int.natCast_nonneg _,hc,rfl,rfl,fl.trans (if_pos (by rw[he];assumption)),by rw[he];assumption⟩,gO.mono (λp hp=>cS.2 (.inl hp))⟩),by dsimp only;rw[cC,BX];omega,λq hq=>(cS.1 hq).elim (λh=>(Yb q h).not A2) (B7 q)⟩ dE zR rfl rfl z1
   intro aQ;refine ME ?_;refine PJ.again (((r,ds),F2++F),k+1) ⟨by dsimp only;omega,bH,al,by dsimp only;rw[B3 hq MV (Ha hc (by rw[he];assumption))];exact bF,λd hd=>⟨(tH d hd).1,(tH d hd).2.mono (λp hp=>cS.2 (.inr hp))⟩,by dsimp only;omega,λq hq=>(cS.1 hq).elim (λh=>(Yb q h).not A2) (B7 q)⟩ dE zR rfl rfl z1
  refine B 2 ?_;refine zOh ?_;refine B 1 ?_;refine zLh ?_;refine rq (.bool true) (jR uB zQ nX rfl rfl rfl) (congrArg (λq=>Value.bool (!q)) (Bool.eq_false_iff.2 Ye)) ?_;refine B 11 ?_;refine mD ?_;refine PJ.again (((r,ds),F),k+1) ⟨by dsimp only;omega,bH,al,by dsimp only;rw[B3 hq MV (G9 hc Ye)];exact bF,tH,by dsimp only;omega,B7⟩ dE zR rfl rfl z1
 intro aj;refine B 6 ?_;have hke:k=(bC Z cs cs.length).length:=by omega
 rw[hke]at bF;refine B 2 ?_;refine nr (α:=Nat) (v:=λb:Nat=>.func (.func 281) #[] #[ptr b 0]) (Φ:=λW b w1=>uY w1 b W.heap.size) call165 rfl rfl rfl (λW hS=>nXk W) ?_;intro Wk bk wk vF F4 MU;have W8:=F4.size;refine wZ (r:=r) (enc:=mJ) (m:=143) (t:=101) (xs:=ds) (ys:=gr rkI ds) (H0:=[]) (H1:=[]) (v:=λ_=>.tuple #[]) rfl call164 rfl rfl rfl (λhr W hS=>?_) (λb cap sp hr W hS h=>?_) ?_
 ·subst hr;have h0:ds=[]:=al;subst h0;exact(nMm bk W).mono λe w2 h=>⟨h.1,jt (Mw CO.rkI.swo []),h.2⟩
 ·subst hr;have jN:b<Wk.heap.size:=vF.lt (b,_) A0;exact MT zM al h bk (λw9 hk9=>((MU.keep (X:=λk=>k=b) ((hS.links wk A0).mono (λk _ hx=>by rcases hx with hx|hx;(exact hx.elim);simpa[Rw.hp]using hx)) (λk hk=>by omega)).keep hk9 (λk hk=>by omega)).at)
 intro r2 de mU mW jJ;have dW:=mW _ cO;refine B 9 ?_;refine bJ (.inl rfl) results102 (RS.t rfl RS.n) λW hS=>?_;have tB:(gr rkI ds).Perm ds:=nXg CO.rkI.swo ds;refine⟨gr rkI ds,⟨Hg hZ bF (λd hd=>(tH d hd).1),λd hd=>⟨(tH d (tB.mem_iff.1 hd)).1,(tH d (tB.mem_iff.1 hd)).2.lies hS.fzLies,(tH d (tB.mem_iff.1 hd)).2.new B7⟩⟩,r2,?_,?_,Rw.ge_mono dW zM,de,?_⟩
 ·show Ending.returned (r.val ds.length)=Ending.returned (r2.val (gr rkI ds).length);rw[jJ,Mw CO.rkI.swo]
 ·exact(hS.links w A3).below (λk hk hx=>by rcases hx with hx|hx;(exact hx);simp only[eg,dN]at hx;have:=Rw.mem_ge dW hx;omega)
 cases r2 with
  |nil=>trivial
  |row b cap sp=>exact hS.own (b,_) vE
instance:Inhabited Cm:=⟨⟨0,0,λ_=>0,0,[],none,0,[],none,0,[],none,0,[],none,0,λ_=>0,0,0⟩⟩
def wg:Cd:=default
def sQ {α:Type} (cf:α->Cm) (l:List α) (d:α):Bool:=l.any λx=>decide ((cf x).author≠(cf d).author)&&(cf x).chs.any (uU (cf d).author)
def xB {α:Type} (cf:α->Cm) (b:Option α) (d:α):Option α:=match b with|none=>some d|some w=>if vW (cf w).chs<vW (cf d).chs then some d else some w
def M3 {α:Type} (cf:α->Cm) (s:List α×Option α) (d:α):List α×Option α:=if sQ cf s.1 d=true then s else(s.1++[d],xB cf s.2 d)
def fp {α:Type} (cf:α->Cm) (l:List α) (k:Nat):List α×Option α:=(l.take k).foldl (M3 cf) ([],none)
theorem PU{α:Type}{cf:α->Cm}{l:List α}{d:α}(h:l[k]? =some d):fp cf l (k+1)=M3 cf (fp cf l k) d:=by unfold fp;rw[nC h,DY];rfl
theorem Yf{α:Type}(cf:α->Cm)(l:List α):∀k,(∀x∈(fp cf l k).1,x∈l)/\∀x,(fp cf l k).2=some x->x∈l
 |0=>⟨λx hx=>by simp[fp]at hx,λx hx=>by simp[fp]at hx⟩
 |k+1=>by
  have ih:=Yf cf l k;by_cases hk:k<l.length
  ·obtain⟨d,hd⟩:=nj l k hk;have hm:=cB hd;rw[PU hd];unfold M3;split
   ·exact ih
   refine⟨λx hx=>?_,λx hx=>?_⟩
   ·rcases cS.1 hx with hx|hx
    ·exact ih.1 x hx
    rw[ql.1 hx];exact hm
   dsimp only[xB]at hx;split at hx
   ·cases hx;exact hm
   rename_i w hw;split at hx
   ·cases hx;exact hm
   cases hx;exact ih.2 _ hw
  have e:fp cf l (k+1)=fp cf l k:=by unfold fp;rw[jo zM,jo zM]
  rw[e];exact ih
theorem nkn{α:Type}(cf:α->Cm)(l:List α):∀k,(fp cf l k).1.length<=k
 |0=>by simp[fp]
 |k+1=>by
  have ih:=nkn cf l k;by_cases hk:k<l.length
  ·obtain⟨d,hd⟩:=nj l k hk;rw[PU hd];unfold M3;split
   ·omega
   rw[cC,BX];omega
  have e:fp cf l (k+1)=fp cf l k:=by unfold fp;rw[jo zM,jo zM]
  rw[e];omega
theorem nll{α β:Type}{f:α->β}{p:β->Bool}{q:α->Bool}:∀{l:List α},(∀x∈l,p (f x)=q x)->(l.map f).any p=l.any q
 | [],_=>rfl
 |x::l,h=>by simp only[eF,List.any_cons,h x A0,nll λy hy=>h y (.tail _ hy)]
theorem nIn{α β:Type}{cf:α->Cm}{cg:β->Cm}(f:α->β){l:List α}(h:∀d∈l,cg (f d)=cf d):∀k,fp cg (l.map f) k=((fp cf l k).1.map f,(fp cf l k).2.map f)
 |0=>rfl
 |k+1=>by
  have ih:=nIn f h k;have B9:=Yf cf l k;by_cases hk:k<l.length
  ·obtain⟨d,hd⟩:=nj l k hk;have hm:=cB hd;have Ai:(l.map f)[k]? =some (f d):=by rw[rC,hd];rfl
   rw[PU Ai,PU hd,ih];have e1:sQ cg ((fp cf l k).1.map f) (f d)=sQ cf (fp cf l k).1 d:=by
    unfold sQ;rw[h d hm];exact nll λx hx=>by rw[h x (B9.1 x hx)]
   have e2:xB cg ((fp cf l k).2.map f) (f d)=(xB cf (fp cf l k).2 d).map f:=by
    cases hw:(fp cf l k).2 with
    |none=>rfl
    |some w=>
     simp only[xB,wO,h d hm,h w (B9.2 w hw)];split<;>rfl
   unfold M3;dsimp only;rw[e1];split
   ·rfl
   rw[e2];simp
  have e1:fp cg (l.map f) (k+1)=fp cg (l.map f) k:=by unfold fp;rw[jo (by rw[fy];omega),jo (by rw[fy];omega)]
  have e2:fp cf l (k+1)=fp cf l k:=by unfold fp;rw[jo zM,jo zM]
  rw[e1,e2,ih]
def Hh (cs:List Cm) (i:Nat):Cm:=(cs[i]?).getD default
noncomputable def Ee (Z:Fx) (cs:List Cm) (g:Gp):Option Nat:=(fp (Hh cs) (JM Z cs g) (JM Z cs g).length).2
theorem adL{cs:List Cm}{ds:List Cd}(hm:ds.map pr=JM Z cs g)(hd:∀d∈ds,ox Z cs g d):Ee Z cs g=(fp (·.c) ds ds.length).2.map pr:=by
 unfold Ee;rw[<-hm,fy,nIn (cf:=(·.c)) pr (λd h=>by unfold Hh;rw[(hd d h).at_];rfl)]
theorem aM.toG{K:Nat}{w:World}{x:Gv}(h:aM N w x)(hn:bh K x)(hS:St G L H W)(hw:w∈L)(hN:N<=w.heap.size)(ho:∀b,K<=b->b<N->¬G.X b/\bE H b):aM W.heap.size W x:=
 ⟨h.ms.toG hS hw hN (λb off e=>(hn.1 _ e).imp id (λh=>ho b h)),h.ns.toG hS hw hN (λb off e=>(hn.2 _ e).imp id (λh=>ho b h)),h.mn,h.nn⟩
theorem bh.mono{K K':Nat}{x:Gv}(h:bh K x)(hk:K'<=K):bh K' x:=⟨λq e=>(h.1 q e).imp id (aS hk),λq e=>(h.2 q e).imp id (aS hk)⟩
theorem Yg{α:Type}{cf:α->Cm}{l:List α}{d:α}(h:l[k]? =some d)(hs:sQ cf (fp cf l k).1 d=true):fp cf l (k+1)=fp cf l k:=by rw[PU h];unfold M3;rw[if_pos hs]
theorem yz{α:Type}{cf:α->Cm}{l:List α}{d:α}(h:l[k]? =some d)(hs:sQ cf (fp cf l k).1 d=false):fp cf l (k+1)=((fp cf l k).1++[d],xB cf (fp cf l k).2 d):=by rw[PU h];unfold M3;rw[if_neg (by rw[hs];decide)]
theorem nEm(hZ:FxOk Z)(cs:List Cm)(hcs:cs.length<=1000)(dM:∀c∈cs,cI c)(N:Nat)(la:Option Addr)(lc:Nat)(w:World)(hN:N<=w.heap.size)(aN:ah dZ 73 N w la cs)(hC:∀c∈cs,dQ N w c)(ia:Option Addr)(ic:Nat)(ta:Option Addr)(tc:Nat)(hp:mr Z cs N w ⟨ia,ic,ta,tc⟩)(G:Gv)(hG:aM N w G)(hg:Glb w):Calls prog 52 #[.agg (xy Z cs la lc ⟨ia,ic,ta,tc⟩),.agg (aZ G)] w (cu w (λq:Cd×Bool=>.tuple #[.agg (dO q.1),.bool q.2]) (λq w'=>(q.2=true/\Ee Z cs G.g=some (pr q.1)/\ox Z cs G.g q.1/\aM w'.heap.size w' q.1.x/\bh w.heap.size q.1.x)\/(q.2=false/\Ee Z cs G.g=none))):=by
 have ew:=hg.lt;have hpl:=PR Z cs cs.length;refine enter (vs:=[_,_]) func52 rfl ntmps52 rfl ?_;refine B 2 ?_;refine yX ?_;intro b2 w2 aI aE dY cA db;refine yX ?_;intro b3 w3 aJ aD dr bY cR;refine PV ?_;refine yW ?_;intro b4 dD dH;refine B 11 ?_;refine rr (.agg (xy Z cs la lc ⟨ia,ic,ta,tc⟩)) (af isAgg92 sizeOf92 rfl A1 aI aE zL rfl) ?_;refine L5 ?_;refine Hj (enc:=mJ) (m:=143) (t:=101) (v:=id) (Φ:=λW w9 ds=>ds.map pr=JM Z cs G.g/\∀d∈ds,ox Z cs G.g d/\aM w9.heap.size w9 d.x/\bh W.heap.size d.x) call102 rfl rfl rfl D9 (λW hS=>nqi hZ cs hcs dM N la lc W (aS hN (hS.links w A2).size) (aN.up (ao _) (hS.same A2 hN zU zP)) (λc hc=>(hC c hc).up (ao _) (hS.same A2 hN zU zP)) ia ic ta tc (hp.up (ao _) (hS.same A2 hN zU zP)) G (hG.up (ao _) (hS.same A2 hN zU zP)) (hg.old hS A2 zU zP)) ?_;rintro W9 ds a9 c9 w9 lI vN ⟨bF,tH⟩ lp adM;have mF:=vN.size;have ahI:=(lI.links w3 A0).size;have OO:ds.length<=cs.length:=by
  have h1:=congrArg List.length bF;rw[fy]at h1;unfold JM at h1;rw[List.length_mergeSort]at h1;unfold uX at h1;have h2:=Ap (Eb Z cs G.g) (((bC Z cs cs.length).take (bC Z cs cs.length).length).map λp=>p.2.toNat);rw[fy,kx]at h2;omega
 have T0:ah dO 143 w9.heap.size w9 a9 ds:=lp;have M4:=(lI.lt (b4,_) A0);try dsimp only at M4
 refine B 5 ?_;refine CJ.loop (α:=((Rw×Cd)×Bool)×Nat) (λp9=>[(2,ptr b2 0),(3,ptr b3 0),(4,ptr b4 0),(5,.bool p9.1.2),(6,p9.1.1.1.val (fp (λd:Cd=>d.c) ds p9.2).1.length),(12,.slice a9 ds.length c9),(13,.int .i64 (ds.length:Int)),(14,.int .i64 (p9.2:Int))]) (λp9=>[(b4,.cells (dO p9.1.1.2) 101 (0,0))]++(p9.1.1.1.hp mJ 101 (fp (λd:Cd=>d.c) ds p9.2).1++[])) (λp9=>[w9,w3,w2,w]) (λp9=>Gh.no) (λp9=>p9.2<=ds.length/\p9.1.1.1.Fr Gh.no [w9,w3,w2,w]/\p9.1.1.1.Fit 143 (fp (λd:Cd=>d.c) ds p9.2).1/\((p9.1.2=false/\(fp (λd:Cd=>d.c) ds p9.2).2=none/\p9.1.1.2=wg)\/(p9.1.2=true/\(fp (λd:Cd=>d.c) ds p9.2).2=some p9.1.1.2))) (λp9=>ds.length-p9.2) (((.nil,wg),false),0) ⟨dx _,True.intro,rfl,.inl ⟨rfl,rfl,rfl⟩⟩ zR rfl rfl z1 ?_;rintro⟨⟨⟨r,tI⟩,T3⟩,k⟩ ⟨hk,bH,al,Ca⟩;dsimp only at hk bH al Ca ⊢;have cO:r.ge w9.heap.size:=Rw.ge_of bH A0;have B9:=Yf (λd:Cd=>d.c) ds k;have hlf:=nkn (λd:Cd=>d.c) ds k;refine B 6 ?_;refine aO ?_ ?_
 ·intro aj;refine B 5 ?_;obtain⟨b9,o9,cs9,t9,fr9,rfl,hb9,adN,T6⟩:=T0.get zM;obtain⟨d,hd⟩:=nj ds k zM;have hn9:=adM _ rfl;try dsimp only at hn9
  refine B 2 ?_;refine rq (.agg (dO d)) (ag isAgg101 sizeOf101 rfl A0 adN zZ TY (nl T6 hd rfl)) (va (nq T6 hd rfl)) ?_;refine PV ?_;refine yW ?_;intro b8 ua uc;refine M5 ?_;refine B 6 ?_;have adO:∀W,St Gh.no [w9,w3,w2,w] ([(b8,.cells (dO d) 101 (0,0)),(b4,.cells (dO tI) 101 (0,0))]++(r.hp mJ 101 (fp (λd:Cd=>d.c) ds k).1++[])) W->r.At mJ 101 (fp (λd:Cd=>d.c) ds k).1 W:=λW hS=>by
   cases r with
   |nil=>trivial
   |row b cap sp=>exact hS.own (b,_) vE
  refine call call103 rfl rfl rfl (λW hS=>by
   obtain⟨a5,c5,he5,hs5⟩:=Rw.sl D9 al (adO W hS) (ao W.heap.size);rw[he5];exact nRi (λx=>decide (x.c.author≠d.c.author)&&x.c.chs.any (uU d.c.author)) 104 [ptr b8 0] call104 (fp (λd:Cd=>d.c) ds k).1 zM W.heap.size a5 c5 W (ao _) hs5 (λj x hx W2 hB=>by
    have WW:=(B9.1 x (cB hx));have hxc:x.c∈cs:=cB (tH x WW).1.at_;have ck:=(dM x.c hxc).few.chs;have hwl:=(hS.links w A3).size;exact BW d x zM N b8 W2 (aS hN (aS hwl hB.size)) (((hC x.c hxc).chs.up (ao _) (hS.same A3 hN zU TZ)).up (ao _) (λq hq=>hB.block q zM)) (by rw[hB.block b8 (hS.lt (b8,_) A0)];exact hS.own (b8,_) A0))) (v:=.bool (sQ (λd:Cd=>d.c) (fp (λd:Cd=>d.c) ds k).1 d)) ?_
  refine B 5 ?_;have hx:=hd;refine B 4 ?_;refine aO ?_ ?_
  ·intro aQ;refine Ta ?_;refine PJ.again (((r,tI),T3),k+1) ⟨by dsimp only;omega,bH,by dsimp only;rw[Yg hd gM];exact al,by dsimp only;rw[Yg hd gM];exact Ca⟩ dE ⟨rfl,rfl,rfl,rfl,by rw[Yg hd gM];rfl,rfl,rfl,rfl,trivial⟩ (by rw[Yg hd gM];rfl) rfl z1
  intro aQ;refine B 3 ?_;have bS:sQ (λd:Cd=>d.c) (fp (λd:Cd=>d.c) ds k).1 d=false:=by assumption
  refine B 2 ?_;refine T7 ?_;refine lj underlying194 sizeOf101 zeroValue101 rfl rfl rfl rfl rfl rfl rfl ?_;refine yW ?_;intro Ll abv abw;refine o8 (r:=r) (xs:=(fp (λd:Cd=>d.c) ds k).1) (zs:=[d]) (enc:=mJ) (m:=143) (H0:=[(Ll,.cells (dO d) 101 (0,0)),(b8,.cells (dO d) 101 (0,0)),(b4,.cells (dO tI) 101 (0,0))]) (H1:=[]) wU BU D9 rfl rfl rfl rfl (dy.one (z:=d) D9 nnj underlying194 (bN.own (i:=0) rfl)) al bH z1 FX ?_;intro FY wW wX pb mV;replace pb:=yb pb;refine B 4 ?_;have hdm:=cB hd;have hdc:d.c∈cs:=cB (tH d hdm).1.at_;have ahJ:=(dM d.c hdc).few.chs;have sR:(Rw.row FY wW wX).ge w.heap.size:=by rcases pb with h|h;(have:=Rw.ge_at cO h;show w.heap.size<=FY;omega);(show w.heap.size<=FY;omega)
  have agV:w.heap.size<=FY:=sR;refine CJ.dropAt (i:=0) rfl zX ?_;rcases Ca with⟨rfl,aP,rfl⟩|⟨rfl,aP⟩
  ·refine zvg ?_;refine nk 6 [.det [] _,.det [0] _,.det [1] _,.det [2] undef,.det [2,3] undef,.det [2] undef] zT (xc zO (xc PW (xc zO (xc zN (xc zN (xc zN (xn))))))) zT zT zT (λae=>?_);refine B 7 ?_;refine T7 ?_;refine zQh ?_;refine Ta ?_;refine PJ.again (((Rw.row FY wW wX,d),true),k+1) ⟨by dsimp only;omega,pb.elim (λh=>Rw.Fr_at bH h) (λh=>.inr h),by dsimp only;rw[yz hd bS];exact mV,.inr ⟨rfl,by dsimp only;rw[yz hd bS];dsimp only;rw[aP];rfl⟩⟩ dE ⟨rfl,rfl,rfl,rfl,by rw[yz hd bS];rfl,rfl,rfl,rfl,trivial⟩ (by rw[yz hd bS];rfl) rfl z1
  have jh:=(B9.2 tI aP);have hbc:tI.c∈cs:=cB (tH tI jh).1.at_;have jN:=(dM tI.c hbc).few.chs;refine zvg ?_;refine nk 6 [.det [] _,.det [0] _,.det [1] _,.det [2] _,.det [2,3] (.int .i64 (vW d.c.chs:Int)),.det [2] _] zT (xc zO (xc PW (xc zO (xc (by exact λae=>X.val rfl rfl (RV.re (v':=.agg (dO d)) (aK (i:=0) rfl isAgg101 sizeOf101 rfl rfl) (rfl)) (λ_ _=>rfl)) (xc (by exact λae=>nf call106 rfl rfl (λW hS _=>nQh d zM N W (aS hN (hS.links w A3).size) ((hC d.c hdc).chs.up (ao _) (hS.same A3 hN zU zQd))) (λ_=>rfl)) (xc (by exact λae=>X.val rfl rfl (RV.re (v':=.agg (dO tI)) (aK (i:=1) rfl isAgg101 sizeOf101 rfl rfl) (rfl)) (λ_ _=>rfl)) (xn))))))) zT zT zT (λae=>?_);refine call call106 rfl rfl rfl (λW hS=>nQh tI zM N W (aS hN (hS.links w A3).size) ((hC tI.c hbc).chs.up (ao _) (hS.same A3 hN zU zQd))) (v:=.int .i64 (vW tI.c.chs:Int)) ?_;refine B 4 ?_;refine aO ?_ ?_
  ·intro cY;refine B 1 ?_;refine T7 ?_;refine zQh ?_;refine Ta ?_;refine PJ.again (((Rw.row FY wW wX,d),true),k+1) ⟨by dsimp only;omega,pb.elim (λh=>Rw.Fr_at bH h) (λh=>.inr h),by dsimp only;rw[yz hd bS];exact mV,.inr ⟨rfl,by dsimp only;rw[yz hd bS];dsimp only;rw[aP];exact if_pos dE⟩⟩ dE ⟨rfl,rfl,rfl,rfl,by rw[yz hd bS];rfl,rfl,rfl,rfl,trivial⟩ (by rw[yz hd bS];rfl) rfl z1
  intro cY;refine wY ?_;refine PJ.again (((Rw.row FY wW wX,tI),true),k+1) ⟨by dsimp only;omega,pb.elim (λh=>Rw.Fr_at bH h) (λh=>.inr h),by dsimp only;rw[yz hd bS];exact mV,.inr ⟨rfl,by dsimp only;rw[yz hd bS];dsimp only;rw[aP];exact if_neg dE⟩⟩ dE ⟨rfl,rfl,rfl,rfl,by rw[yz hd bS];rfl,rfl,rfl,rfl,trivial⟩ (by rw[yz hd bS];rfl) rfl z1
 intro aj;refine B 7 ?_;refine rr (.agg (dO tI)) (aK (i:=0) rfl isAgg101 sizeOf101 rfl rfl) ?_;refine B 1 ?_;refine M5 ?_;refine B 4 ?_;have hke:k=ds.length:=by omega
 rw[hke]at Ca;have hwI:=adL bF (λd hd=>(tH d hd).1);refine bJ (.inl rfl) results52 (RS.wA (i:=0) rfl isAgg101 sizeOf101 rfl (aT rfl) (RS.t rfl RS.n)) λW hS=>⟨(tI,T3),rfl,?_,?_⟩
 ·exact(hS.links w A3).below (λk hk hx=>by rcases hx with hx|hx;(exact hx);simp only[dC,fj,eg,dN,ga,eF,iz,cS,cP,fm,or_false]at hx;rcases hx with hx|hx;(omega);(have:=Rw.mem_ge cO hx;omega))
 rcases Ca with⟨h1,h2,_⟩|⟨h1,h2⟩
 ·exact .inr ⟨h1,by rw[hwI,h2];rfl⟩
 have jh:=(Yf (λd:Cd=>d.c) ds ds.length).2 tI h2;have Yh:=tH tI jh;exact .inl ⟨h1,by rw[hwI,h2];rfl,Yh.1,Yh.2.1.toG Yh.2.2 hS A0 (ao _) (λb hb aI=>⟨λh=>h,TY⟩),Yh.2.2.mono zM⟩
end Px
