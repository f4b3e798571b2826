/- Contracts of functions of the program. No condition beyond those stated. -/
import Derived.Test.YtpgobjebhigaoaaGreatDoorKe
import Derived.Test.YtpgobjebhigaoaaGreatDoorProg
import Derived.Shelf.SlSortCmp.WholeK
import Derived.Deep.RegionWith
import Derived.Handy
import Derived.Lib.Bytealg
import Derived.Laws.Externs
import Derived.Test.YtpgobjebhigaoaaGreatDoorLa
set_option linter.unusedSimpArgs false
set_option linter.unusedVariables false
set_option linter.unusedSectionVars false
set_option linter.unnecessarySimpa false
set_option maxRecDepth 20000
set_option maxHeartbeats 8000000
namespace Px
open Go Go.RowKit Go.Proofs Go.Proofs.Tryz
theorem HU{ns:List Nd}(h:yK ns):∀(i:Nat) (x:Nd),ns[i]? =some x->(i:Int)+1<=x.at_
 |0,x,hx=>by have:=(h 0 x hx).1;omega
 |i+1,x,hx=>by
  obtain⟨y,hy⟩:=nj ns i (by have:=nE hx;omega);have h1:=HU h i y hy;have h2:=(h (i+1) x hx).2.2.1 y zJ (by simpa using hy);omega
variable {Z:Fx} {G:Gh} {g:Gp} {F H:ab} {au d:Int} {ns:List Nd} {sp:List Value} {L:List World} {N N' b i j k:Nat} {a:Option Addr} {r:Rw} {v:Value} {W w':World}
theorem KW(h:yK ns):ns.length<=1023:=by
 by_cases h0:ns.length=0
 ·omega
 obtain⟨x,hx⟩:=nj ns (ns.length-1) zJ;have h1:=HU h _ x hx;have h2:=(h _ x hx).2.1;omega
theorem njn(h:ee g=true):g.ns.length<=1023/\g.ms.length<=1023:=by
 have h1:=za.1 h;have h2:=KW (Es.1 h1.1.2.2.2);refine⟨h2,?_⟩;have h3:=congrArg List.length h1.2.2.1;rw[fp]at h3;have:=nNk g.ns;omega
def KX (f e:Int) (id:Nat->Int) (a b:Value):Array Value:=#[.int .i64 f,.int .i64 e,.int .u8 (id 0),.int .u8 (id 1),.int .u8 (id 2),.int .u8 (id 3),.int .u8 (id 4),.int .u8 (id 5),.int .u8 (id 6),.int .u8 (id 7),.int .u8 (id 8),.int .u8 (id 9),.int .u8 (id 10),.int .u8 (id 11),.int .u8 (id 12),.int .u8 (id 13),.int .u8 (id 14),.int .u8 (id 15),.int .u8 (id 16),.int .u8 (id 17),.int .u8 (id 18),.int .u8 (id 19),.int .u8 (id 20),.int .u8 (id 21),.int .u8 (id 22),.int .u8 (id 23),.int .u8 (id 24),.int .u8 (id 25),.int .u8 (id 26),.int .u8 (id 27),.int .u8 (id 28),.int .u8 (id 29),.int .u8 (id 30),.int .u8 (id 31),a,b]
theorem E3(f e:Int)(id:Nat->Int)(r r':Rw)(n m:Nat):nT (Value.agg (KX f e id (r.val n) (r'.val m))).cells.toList=true:=by cases r<;>cases r'<;>rfl
def jP (e:Int) (l:List Ch):List Mb:=(l.filter λx=> !decide (x.kind=2)).map λy=>⟨y.dev,e,y.ver⟩
theorem nOm{e:Int}{l:List Ch}{x:Ch}(hx:l[j]? =some x)(h:¬x.kind=2)(F:List Mb):F++jP e (l.take (j+1))=(F++jP e (l.take j))++[⟨x.dev,e,x.ver⟩]:=by rw[nC hx];simp[jP,h]
theorem Ah{e:Int}{l:List Ch}{x:Ch}(hx:l[j]? =some x)(h:x.kind=2)(F:List Mb):F++jP e (l.take (j+1))=F++jP e (l.take j):=by rw[nC hx];simp[jP,h]
theorem nrj(e:Int)(l:List Ch):(jP e l).length<=l.length:=by unfold jP;rw[fp];exact yy _ _
theorem RN(e:Int)(l:List Ch)(F:List Mb):F++jP e (l.take 0)=F:=by simp[jP]
noncomputable def Ai (Z:Fx) (g:Gp) (c:Cm):Gp:=⟨g.folder,c.epoch,aI Z c,mq (g.ms.filter (λx=> !eA c.chs x)++jP c.epoch c.chs),bB (cT g.ns c.chs) c.author c.path⟩
theorem Aj(hd:dD d)(l:List Int):(bB ns d l).length<=ns.length+10:=by
 unfold bB;split
 ·rw[ZN];have h1:=nwl (kv:=cL ns) hd l;have h2:=Np ns;omega
 simp
theorem Rw.val_new{n cp:Nat}(h:r.ge k)(e:r.val n= .slice a n cp):∀q,a=some q->k<=q.block:=by
 intro q hq;cases r with
 |nil=>simp only[Rw.val,Value.slice.injEq]at e;rw[<-e.1]at hq;cases hq
 |row b cap sp=>simp only[Rw.val,Value.slice.injEq]at e;rw[<-e.1]at hq;cases hq;exact h
theorem E4(hZ:FxOk Z)(G:Gv)(c:Cm)(dt:cx c)(N:Nat)(w:World)(hN:N<=w.heap.size)(hG:aL N w G)(hC:dB N w c)(hg:Glb w)(hv:ee G.g=true)(iE:pT c=0)(hf:jN G.g c=true)(dn:fO G.g c.author c.chs=0)(hb:tb G.g c=true)(hw:vz c=true)(nt:Ad Z G.g c=true)(e:Int)(NN:lu (cT G.g.ns c.chs) c.author=e)(he:e=0):Calls prog 101 #[.agg (bC G),.agg (dI c)] w (wE w (Ai Z G.g c) 0):=by
 have mV:=za.1 hv;have NL:=mV.1.2.2.1;have rh:=mV.1.2.1;have dN:=KD.1 iE;have vx:=dN.e1;have vy:=dN.e2;obtain⟨h1,h2,h3⟩:=NK hf;have oS:=dN.au;have sy:=dt.few.chs;have uQ:=dt.few.bxs;have NB:=dt.few.wes;have eE:=hg.lt;obtain⟨VP,o8,Ky⟩:=nZk hv dn;obtain⟨NA,su⟩:=nll VP;have M6:=hG.nn;have Ks:=Vo c.chs G.g.ns;obtain⟨T,hT⟩:∃T,cT G.g.ns c.chs=T:=⟨_,rfl⟩;rw[hT]at NN Ks;have hpl:=dN.pl;have jJ:∀y∈c.path,dy y:=λy hy=>by obtain⟨i,hi⟩:=ju.1 hy;exact dN.path i y hi
 have afs:=njn hv;refine EX ?_;refine yV ?_;intro b2 w2 aU aN dY cR cX;refine yX ?_;intro b3 w3 aM aD da cd cP;refine rL ?_;refine yW ?_;intro b4 dO dU;refine RK ?_;intro Wn an cn wn lp q4 ri o5;have rj:=lp.sizes;replace rj:=yb rj;have HH:=q4.size;have oX:=lp.under;replace oX:=yf oX;refine RL ?_;refine nP 15 [13] [([],some _),([0],some _),([],some _),([],some _),([1,2,3],some (.bool true)),([4],some _),([5],some _),([6],some _),([6,7],some _),([6],some _),([6,9],some _),([6],some _),([6,11],some _),([6,10,12],none),([6],some _)] (λcv L' H'=>match cv with| []=>L'=[wn,w3,w2,w]/\H'=[(b4,.cells (bC jV) 57 (0,0))]| [v1]=>∃(aw:Option Addr) (cw:Nat) (ww:World),v1= .slice aw (gH c.author c.chs).length cw/\L'=[ww,wn,w3,w2,w]/\H'=[(b4,.cells (bC jV) 57 (0,0))]/\ag ez 5 ww.heap.size ww aw (gH c.author c.chs)/\∀q,aw=some q->wn.heap.size<=q.block|_=>False) zQ ⟨rfl,rfl⟩ zQ zQ zQ zQ zQ zQ (pc VL (pc o6 (pc zT (pc zT (pc o6 (pc VM (pc zT (pc VN (pc o6 (pc vr (pc o6 (pc E1 (pc o6 (pk (pc zT (pn)))))))))))))))) ?_ ?_
 ·exact VO
 intro cv L' H' hl hP;obtain⟨v1,rfl⟩:=cM hl;obtain⟨aw,cw,ww,rfl,rfl,rfl,o7,rk⟩:=hP;refine zVh ?_;refine nP 10 [7] [([],some (.agg (bC G))),([],some _),([1],some _),([],some _),([3],some (.slice c.ca c.chs.length c.cc)),([0,2,4],some (.int .i64 (kz G.g c.author c.chs))),([],some (.agg (dI c))),([6],none),([],some _),([8],some (.agg #[.int .i64 c.sr,.int .i64 c.ss]))] (λcv L' H'=>match cv with| []=>L'=[ww,wn,w3,w2,w]/\H'=[(b4,.cells (bC jV) 57 (0,0))]| [v1]=>∃(bm:Nat) (wm:World),v1= .slice (some ⟨bm,0,none⟩) 32 32/\L'=[wm,ww,wn,w3,w2,w]/\H'=[(b4,.cells (bC jV) 57 (0,0))]/\wm.heap[bm]? =some (.cells (dg (mo Z c)) 34 (0,0))/\wn.heap.size<=bm|_=>False) zQ ⟨rfl,rfl⟩ zQ zQ zQ zQ zQ zQ (pc qv (pc vr (pc qv (pc E1 (pc qv (pc qv (pc qv (pk (pc Ru (pc qv (pn))))))))))) ?_ ?_
 ·exact zCi
 intro cv L' H' hl hP;obtain⟨v1,rfl⟩:=cM hl;obtain⟨bm,wm,rfl,rfl,rfl,ku,hgm⟩:=hP;refine zhf ?_;refine Rh ?_;refine B 6 ?_;refine zse ?_;refine nl 6 [.det [] _,.det [0] _,.det [] _,.det [2] _,.det [] _,.det [4] (.agg (dg (aI Z c)))] zQ (xc EH (xc (by exact λaf=>X.val rfl rfl (aa isAgg3 rfl A4 aU aN zI rfl) (λ_ _=>rfl)) (xc (by exact λaf=>X.val rfl rfl (al underlying99 rfl sizeOf3 rfl) (λ_ _=>rfl)) (xc (by exact λaf=>X.val rfl rfl (aa isAgg3 rfl A3 aM aD zI rfl) (λ_ _=>rfl)) (xc zPd (xc zGd (xn))))))) zQ zQ zQ (λaf=>?_);refine zJf ?_;refine NO ?_;refine B 4 ?_;have vj:=(aT.1 ku).1;refine zoe ?_;refine RM 14 [3,8,9,10,13] [([],some (.agg (bC G))),([],some _),([1],some (.slice c.ca c.chs.length c.cc)),([0,2],none),([],some _),([4],some _),([],some _),([6],some (.slice c.pa c.path.length c.pc)),([3,5,7],none),([8],none),([9],none),([9],some (.int .i64 e)),([],some _),([10,12],none)] (λcv L' H'=>match cv with| []=>L'=[wm,ww,wn,w3,w2,w]/\H'=[(b4,.cells (bC (⟨⟨G.g.folder,c.epoch,aI Z c,[],[]⟩,none,0,none,0⟩:Gv)) 57 (0,0))]| [v1]=>∃(ta:Option Addr) (tc:Nat) (wr:World),v1= .agg #[.slice ta T.length tc]/\L'=[wr,wm,ww,wn,w3,w2,w]/\H'=[(b4,.cells (bC (⟨⟨G.g.folder,c.epoch,aI Z c,[],[]⟩,none,0,none,0⟩:Gv)) 57 (0,0))]/\ag fF 2 wr.heap.size wr ta T/\(∀b off,ta=some ⟨b,off,none⟩->T=[]\/b<N\/wm.heap.size<=b)/\wm.heap.size<=wr.heap.size| [v1,v2]=>∃(ta:Option Addr) (tc:Nat) (wr:World) (r8:Rw),v1= .agg #[.slice ta T.length tc]/\v2= .tuple #[.agg #[r8.val (bB T c.author c.path).length],.int .i64 e]/\L'=[wr,wm,ww,wn,w3,w2,w]/\H'=[(b4,.cells (bC (⟨⟨G.g.folder,c.epoch,aI Z c,[],[]⟩,none,0,none,0⟩:Gv)) 57 (0,0))]++(r8.hp eW 355 (bB T c.author c.path)++[])/\ag fF 2 wr.heap.size wr ta T/\(∀b off,ta=some ⟨b,off,none⟩->T=[]\/b<N\/wm.heap.size<=b)/\wm.heap.size<=wr.heap.size/\Rw.Fr Gh.no [wr,wm,ww,wn,w3,w2,w] r8/\r8.Fit 2 (bB T c.author c.path)/\r8.ge wr.heap.size| [v1,v2,v3]=>∃(ta:Option Addr) (tc:Nat) (wr:World) (r8:Rw),v1= .agg #[.slice ta T.length tc]/\v2= .tuple #[.agg #[r8.val (bB T c.author c.path).length],.int .i64 e]/\v3= .tuple #[.agg #[r8.val (bB T c.author c.path).length],.int .i64 e]/\L'=[wr,wm,ww,wn,w3,w2,w]/\H'=[(b4,.cells (bC (⟨⟨G.g.folder,c.epoch,aI Z c,[],[]⟩,none,0,none,0⟩:Gv)) 57 (0,0))]++(r8.hp eW 355 (bB T c.author c.path)++[])/\ag fF 2 wr.heap.size wr ta T/\(∀b off,ta=some ⟨b,off,none⟩->T=[]\/b<N\/wm.heap.size<=b)/\wm.heap.size<=wr.heap.size/\Rw.Fr Gh.no [wr,wm,ww,wn,w3,w2,w] r8/\r8.Fit 2 (bB T c.author c.path)/\r8.ge wr.heap.size| [v1,v2,v3,v4]=>∃(ta:Option Addr) (tc:Nat) (wr:World) (r8:Rw),v1= .agg #[.slice ta T.length tc]/\v2= .tuple #[.agg #[r8.val (bB T c.author c.path).length],.int .i64 e]/\v3= .tuple #[.agg #[r8.val (bB T c.author c.path).length],.int .i64 e]/\v4= .agg #[r8.val (bB T c.author c.path).length]/\L'=[wr,wm,ww,wn,w3,w2,w]/\H'=[(b4,.cells (bC (⟨⟨G.g.folder,c.epoch,aI Z c,[],[]⟩,none,0,none,0⟩:Gv)) 57 (0,0))]++(r8.hp eW 355 (bB T c.author c.path)++[])/\ag fF 2 wr.heap.size wr ta T/\(∀b off,ta=some ⟨b,off,none⟩->T=[]\/b<N\/wm.heap.size<=b)/\wm.heap.size<=wr.heap.size/\Rw.Fr Gh.no [wr,wm,ww,wn,w3,w2,w] r8/\r8.Fit 2 (bB T c.author c.path)/\r8.ge wr.heap.size| [v1,v2,v3,v4,v5]=>∃(ta:Option Addr) (tc:Nat) (wr:World) (r8:Rw),v1= .agg #[.slice ta T.length tc]/\v2= .tuple #[.agg #[r8.val (bB T c.author c.path).length],.int .i64 e]/\v3= .tuple #[.agg #[r8.val (bB T c.author c.path).length],.int .i64 e]/\v4= .agg #[r8.val (bB T c.author c.path).length]/\v5= .tuple #[]/\L'=[wr,wm,ww,wn,w3,w2,w]/\H'=[(b4,.cells (setCells (bC (⟨⟨G.g.folder,c.epoch,aI Z c,[],[]⟩,none,0,none,0⟩:Gv)) 35 [r8.val (bB T c.author c.path).length]) 57 (0,0))]++(r8.hp eW 355 (bB T c.author c.path)++[])/\ag fF 2 wr.heap.size wr ta T/\(∀b off,ta=some ⟨b,off,none⟩->T=[]\/b<N\/wm.heap.size<=b)/\wm.heap.size<=wr.heap.size/\Rw.Fr Gh.no [wr,wm,ww,wn,w3,w2,w] r8/\r8.Fit 2 (bB T c.author c.path)/\r8.ge wr.heap.size|_=>False) zQ ⟨rfl,rfl⟩ zQ zQ zQ zQ zQ zQ zQ (pc HT (pc E1 (pc HT (pk (pc vr (pc HT (pc ztc (pc HT (pk (pk (pk (pc (λcv L' H' hd hP=>match cv,hd,hP with| [],hd,hP=>(absurd (show false=true from hd) zO)| [v1],hd,hP=>(absurd (show false=true from hd) zO)| [v1,v2],hd,hP=>(absurd (show false=true from hd) zO)| [v1,v2,v3],hd,hP=>zMc| [v1,v2,v3,v4],hd,hP=>zIc| [v1,v2,v3,v4,v5],hd,hP=>zEc|_::_::_::_::_::_::_,_,hP=>hP.elim) (pc Q2 (pk (pn))))))))))))))) ?_ ?_
 ·exact zoi
 intro cv L' H' hl hP;obtain⟨v1,v2,v3,v4,v5,rfl⟩:=gT hl;obtain⟨ta,tc,wr,r8,rfl,rfl,rfl,rfl,rfl,rfl,rfl,mK,eX,oW,jO,fg,eS⟩:=hP;refine B 6 ?_;refine VK ?_;refine B 14 ?_;refine rr (.slice G.ma G.g.ms.length G.mc) (aa isAgg52 rfl A5 aU aN E5 rfl) ?_;refine Ho (enc:=jU) (m:=3) (t:=210) (xs:=G.g.ms) (v:=id) (first:=[]) (cap:=[]) rfl call160 rfl rfl rfl (λW hS=>zA G.g.ms zJ N G.ma G.mc W (aR hN (hS.links w A6).size) (hG.ms.up (ao _) (hS.same A6 hN zS (by simp only[Over,n9,eP,dK,dH,cZ,and_true];(repeat' apply And.intro);all_goals first|omega|exact True.intro|exact Rw.over (Rw.ge_mono eS zJ))))) ?_;intro r9 RP Ak;have uy:=Rw.ge_of RP A0;refine B 1 ?_;refine yA (r:=r9) (enc:=jU) (m:=3) (t:=210) (xs:=G.g.ms) (ys:=(G.g.ms.filter λx=> !eA c.chs x)) (H0:=[]) (H1:=[(b4,.cells (setCells (bC (⟨⟨G.g.folder,c.epoch,aI Z c,[],[]⟩,none,0,none,0⟩:Gv)) 35 [r8.val (bB T c.author c.path).length]) 57 (0,0))]++(r8.hp eW 355 (bB T c.author c.path)++[])) (v:=λr=>r.val (G.g.ms.filter λx=> !eA c.chs x).length) rfl call159 rfl rfl rfl (λhr W hS=>?_) (λb cap sp hr W hS h=>?_) ?_
 ·subst hr;have h0:G.g.ms=[]:=Ak;rw[h0];exact(njh 156 [ptr b3 0] call156 W).mono λe w2 h=>⟨h.1,rfl,h.2⟩
 ·subst hr;have hbA:wr.heap.size<=b:=uy;have hzz:=(hS.links w A6).size;have afu:=(hS.links w3 A4).size;have afv:=(aT.1 aM).1;exact ngk (eA c.chs) 156 [ptr b3 0] call156 G.g.ms zJ b cap sp W h Ak (λj x hx W2 hK RH=>KP c dt.few N b3 x W2 (aR hN (aR hzz hK.size)) (hC.up (ao _) (λk hk=>(hK.block k zJ zJ).trans (hS.same A6 hN zS (by simp only[Over,n9,eP,dK,dH,cZ,and_true];(repeat' apply And.intro);all_goals first|omega|exact True.intro|exact Rw.over (Rw.ge_mono eS zJ)|exact Rw.over (Rw.ge_mono uy zJ)) k hk))) (by rw[hK.block b3 zJ zJ];exact hS.old A4 aM aD (by simp only[bD,ne,eP,dK,dH,cZ,and_true];(repeat' apply And.intro);all_goals first|omega|exact True.intro|exact Rw.off_ge eS zJ|exact Rw.off_ge uy zJ)))
 intro VR KY RQ RR abj;have RT:=RQ RP;have KZ:=RR _ uy;refine B 1 ?_;refine OJ.perm (H':=[(b4,.cells (KX G.g.folder c.epoch (aI Z c) (.slice none 0 0) (r8.val (bB T c.author c.path).length)) 57 (0,0))]++(r8.hp eW 355 (bB T c.author c.path)++(VR.hp jU 210 (G.g.ms.filter λx=> !eA c.chs x)++[]))) (by simp only[dK,dH,eP];exact List.perm_append_comm) ?_;refine kf (i:=0) rfl sizeOf52 rfl rfl rfl (Rw.val_size _ _) (bj rfl) (Rw.val_one _ _) ?_;refine B 6 ?_;refine rr (.slice c.ca c.chs.length c.cc) (aa isAgg95 rfl A4 aM aD (by simp only[bD,ne,book,eP,dK,dH,iX,cZ,eB,pG,qG,ne_eq,and_true];(repeat' apply And.intro);all_goals first|omega|exact True.intro|exact Rw.off_ge eS zJ|exact Rw.off_ge KZ zJ) rfl) ?_;refine B 5 ?_;have r6:=RN c.epoch c.chs (G.g.ms.filter λx=> !eA c.chs x);refine CJ.reH (H':=[(b4,.cells (KX G.g.folder c.epoch (aI Z c) (VR.val ((G.g.ms.filter λx=> !eA c.chs x)++jP c.epoch (c.chs.take 0)).length) (r8.val (bB T c.author c.path).length)) 57 (0,0))]++(r8.hp eW 355 (bB T c.author c.path)++(VR.hp jU 210 ((G.g.ms.filter λx=> !eA c.chs x)++jP c.epoch (c.chs.take 0))++[]))) (by rw[r6,Rw.val_cells];rfl) ?_;refine CJ.loop (α:=Rw×Nat) (λp=>[(2,ptr b2 0),(3,ptr b3 0),(4,ptr b4 0),(121,.slice c.ca c.chs.length c.cc),(122,.int .i64 (c.chs.length:Int)),(123,.int .i64 (p.2:Int))]) (λp=>[(b4,.cells (KX G.g.folder c.epoch (aI Z c) (p.1.val ((G.g.ms.filter λx=> !eA c.chs x)++jP c.epoch (c.chs.take p.2)).length) (r8.val (bB T c.author c.path).length)) 57 (0,0))]++(r8.hp eW 355 (bB T c.author c.path)++(p.1.hp jU 210 ((G.g.ms.filter λx=> !eA c.chs x)++jP c.epoch (c.chs.take p.2))++[]))) (λp=>[wr,wm,ww,wn,w3,w2,w]) (λp=>Gh.no) (λp=>p.2<=c.chs.length/\p.1.Fr Gh.no [wr,wm,ww,wn,w3,w2,w]/\p.1.Fit 3 ((G.g.ms.filter λx=> !eA c.chs x)++jP c.epoch (c.chs.take p.2))) (λp=>c.chs.length-p.2) (VR,0) ⟨db _,RT,by rw[r6];exact KY⟩ zR rfl rfl zX ?_
 rintro⟨r,j⟩ ⟨hj,bE,ak⟩;dsimp only at hj bE ak ⊢;have cE:r.ge wr.heap.size:=Rw.ge_of bE A0;have wD:=yy (λx=> !eA c.chs x) G.g.ms;have qo:=nrj c.epoch (c.chs.take j);rw[jD]at qo;refine B 6 ?_;refine aG ?_ ?_
 ·intro ah;refine B 5 ?_;obtain⟨bo,oo,cs0,to,fk,im,fE,hcs,ar⟩:=hC.chs.get zJ;obtain⟨x,hx⟩:=nj c.chs j zJ;rw[im];refine B 2 ?_;refine rq (.agg (ez x)) (ai isAgg233 sizeOf233 rfl A6 hcs zU (by simp only[bD,ne,eP,dK,dH,cZ,and_true];(repeat' apply And.intro);all_goals first|omega|exact True.intro|exact Rw.off_ge eS zJ|exact Rw.off_ge cE zJ) (nk ar hx rfl)) (va (nr ar hx rfl)) ?_;refine Ko ?_;refine yW ?_;intro ki PQ PR;refine Kp ?_;refine B 9 ?_;refine aG ?_ ?_
  ·intro aJ;refine B 6 ?_;refine rv rfl rfl rfl (aa isAgg3 rfl A4 aM aD (by simp only[bD,ne,book,eP,dK,dH,iX,cZ,eB,pG,qG,ne_eq,and_true];(repeat' apply And.intro);all_goals first|omega|exact True.intro|exact Rw.off_ge eS zJ|exact Rw.off_ge cE zJ) rfl) ?_;refine B 2 ?_;refine rv rfl rfl rfl (bY underlying210 zeroValue210 (bA.c sizeOf3 (bA.c sizeOf3 (bA.c sizeOf3 (bA.n)))) rfl rfl) ?_;refine kr underlying52 sizeOf210 zeroValue210 rfl rfl rfl rfl rfl rfl rfl ?_;refine yW ?_;intro abk aeC aeD;refine pM (r:=r) (xs:=((G.g.ms.filter λx=> !eA c.chs x)++jP c.epoch (c.chs.take j))) (zs:=[(⟨x.dev,c.epoch,x.ver⟩:Mb)]) (enc:=jU) (m:=3) (H0:=(abk,.cells #[.int .i64 x.dev,.int .i64 c.epoch,.int .i64 x.ver] 210 (0,0))::(ki,.cells (ez x) 233 (0,0))::(b4,.cells (KX G.g.folder c.epoch (aI Z c) (r.val ((G.g.ms.filter λx=> !eA c.chs x)++jP c.epoch (c.chs.take j)).length) (r8.val (bB T c.author c.path).length)) 57 (0,0))::r8.hp eW 355 (bB T c.author c.path)) (H1:=[]) yr zx vn rfl rfl rfl rfl (dz.one (z:=(⟨x.dev,c.epoch,x.ver⟩:Mb)) vn Vf underlying52 (bL.own (i:=0) rfl)) ak bE zX v7 ?_;intro abl RU RW Al E6;replace Al:=yb Al;refine B 1 ?_;refine kf (i:=2) rfl sizeOf52 rfl rfl rfl rfl (bj rfl) rfl ?_;refine K0 ?_;refine PJ.again (Rw.row abl RU RW,j+1) ⟨by dsimp only;omega,Al.elim (λh=>Rw.Fr_at bE h) (λh=>.inr h),by rw[nOm hx gw];exact E6⟩ dG zR (by rw[nOm hx gw];rfl) rfl zX
  intro aJ;refine vd ?_;refine PJ.again (r,j+1) ⟨by dsimp only;omega,bE,by rw[Ah hx zJ];exact ak⟩ dG zR (by rw[Ah hx zJ];rfl) rfl zX
 intro ah;refine B 6 ?_;have bP:c.chs.take j=c.chs:=iV zJ;rw[bP]at ak ⊢;refine B 3 ?_;have afw:=nrj c.epoch c.chs;refine yA (r:=r) (enc:=jU) (m:=3) (t:=210) (xs:=((G.g.ms.filter λx=> !eA c.chs x)++jP c.epoch c.chs)) (ys:=mq ((G.g.ms.filter λx=> !eA c.chs x)++jP c.epoch c.chs)) (H0:=(b4,.cells (KX G.g.folder c.epoch (aI Z c) (r.val ((G.g.ms.filter λx=> !eA c.chs x)++jP c.epoch c.chs).length) (r8.val (bB T c.author c.path).length)) 57 (0,0))::r8.hp eW 355 (bB T c.author c.path)) (H1:=[]) (v:=λ_=>.tuple #[]) rfl call161 rfl rfl rfl (λhr W hS=>?_) (λb cap sp hr W hS h=>?_) ?_
 ·subst hr;have h0:((G.g.ms.filter λx=> !eA c.chs x)++jP c.epoch c.chs)=[]:=ak;rw[h0];exact(nmm W).mono λe w2 h=>⟨h.1,zH,h.2⟩
 ·subst hr;exact RG (by rw[cK];omega) ak h
 intro r11 sM aeE RX K1;have Am:=RX _ cE;refine B 5 ?_;refine bh (i:=0) rfl sizeOf57 rfl rfl rfl rfl rfl (E3 _ _ _ _ _ _ _) ?_;refine B 4 ?_;refine bH (.inl rfl) results101 (RS.wA (i:=0) rfl isAgg57 sizeOf57 rfl (bj rfl) (RS.t rfl RS.n)) λW hS=>?_;have abm:r8.At eW 355 (bB T c.author c.path) W:=by
  cases r8 with
  |nil=>trivial
  |row b cap sp=>exact hS.own (b,_) ud
 have RY:r11.At jU 210 (mq ((G.g.ms.filter λx=> !eA c.chs x)++jP c.epoch c.chs)) W:=by
  cases r11 with
  |nil=>trivial
  |row b cap sp=>exact hS.own (b,_) ud
 obtain⟨a,cp,tY,abn⟩:=Rw.sl (xs:=mq ((G.g.ms.filter λx=> !eA c.chs x)++jP c.epoch c.chs)) vn sM RY (ao W.heap.size);obtain⟨a8,Hw,he8,pQ⟩:=Rw.sl Qz fg abm (ao W.heap.size);have h1:r.val ((G.g.ms.filter λx=> !eA c.chs x)++jP c.epoch c.chs).length= .slice a (mq ((G.g.ms.filter λx=> !eA c.chs x)++jP c.epoch c.chs)).length cp:=by rw[<-RE ((G.g.ms.filter λx=> !eA c.chs x)++jP c.epoch c.chs),<-K1];exact tY
 have hvl:=njn hv;have hrw:=Aj (ns:=T) oS c.path;have afx:=nrj c.epoch c.chs;refine⟨⟨Ai Z G.g c,a,cp,a8,Hw⟩,?_,?_,rfl,⟨abn,by rw[<-hT]at pQ;exact pQ,?_,?_⟩,Rw.val_new (Rw.ge_mono Am zJ) tY,Rw.val_new (Rw.ge_mono eS zJ) he8⟩
 ·show Ending.returned (.tuple #[.agg (KX G.g.folder c.epoch (aI Z c) (r.val ((G.g.ms.filter λx=> !eA c.chs x)++jP c.epoch c.chs).length) (r8.val (bB T c.author c.path).length)),.int .i64 0])=_;rw[h1,he8,<-hT];rfl
 ·exact(hS.links w A6).below (λk hk hx=>by rcases hx with hx|hx;(exact hx);simp only[cZ,eP,dK,dH,gP,eh,iB,cQ,cI,fu,or_false]at hx;rcases hx with hx|hx|hx;(omega);(have:=Rw.mem_ge eS hx;omega);(have:=Rw.mem_ge Am hx;omega))
 ·show(mq ((G.g.ms.filter λx=> !eA c.chs x)++jP c.epoch c.chs)).length<=10000;rw[RE,cK];omega
 show(bB (cT G.g.ns c.chs) c.author c.path).length<=80000;rw[hT];omega
noncomputable def kP (Z:Fx) (g:Gp) (c:Cm):Int:=
 if ee g=true then(if pT c=0 then(if jN g c=true then(if fO g c.author c.chs=0 then(if tb g c=true then(if vz c=true then(if Ad Z g c=true then lu (cT g.ns c.chs) c.author else 222)else 220)else 220)else 221)else 220)else 220)else 1
noncomputable def rM (Z:Fx) (g:Gp) (c:Cm):Gp:=if kP Z g c=0 then Ai Z g c else uu
theorem An{l:List Ch}(hv:ee g=true):fO g au l=0\/fO g au l=221:=by
 unfold fO;rw[if_pos hv];split<;>simp
theorem nMe(hZ:FxOk Z)(G:Gv)(c:Cm)(dt:cx c)(N:Nat)(w:World)(hN:N<=w.heap.size)(hG:aL N w G)(hC:dB N w c)(hg:Glb w):Calls prog 101 #[.agg (bC G),.agg (dI c)] w (wE w (rM Z G.g c) (kP Z G.g c)):=by
 have key:∀e:Int,kP Z G.g c=e->e≠0->Calls prog 101 #[.agg (bC G),.agg (dI c)] w (wE w uu e)->Calls prog 101 #[.agg (bC G),.agg (dI c)] w (wE w (rM Z G.g c) (kP Z G.g c)):=by
  intro e he h0 h;have:rM Z G.g c=uu:=by unfold rM;rw[he,if_neg h0]
  rw[this,he];exact h
 cases hv:ee G.g with
 |false=>exact key 1 (by simp[kP,hv]) zO (zV hZ G c dt N w hN hG hC hg hv)
 |true=>
  rcases EP c with iE|iE
  ·cases hf:jN G.g c with
   |false=>exact key 220 (by simp[kP,hv,iE,hf]) zO (Ab hZ G c dt N w hN hG hC hg hv iE hf)
   |true=>
    rcases An (au:=c.author) (l:=c.chs) hv with dn|dn
    ·cases hb:tb G.g c with
     |false=>exact key 220 (by simp[kP,hv,iE,hf,dn,hb]) zO (EY hZ G c dt N w hN hG hC hg hv iE hf dn hb)
     |true=>
      cases hw:vz c with
      |false=>exact key 220 (by simp[kP,hv,iE,hf,dn,hb,hw]) zO (EZ hZ G c dt N w hN hG hC hg hv iE hf dn hb hw)
      |true=>
       cases nt:Ad Z G.g c with
       |false=>exact key 222 (by simp[kP,hv,iE,hf,dn,hb,hw,nt]) zO (Ae hZ G c dt N w hN hG hC hg hv iE hf dn hb hw nt)
       |true=>
        have e1:kP Z G.g c=lu (cT G.g.ns c.chs) c.author:=by simp[kP,hv,iE,hf,dn,hb,hw,nt]
        by_cases he:lu (cT G.g.ns c.chs) c.author=0
        ·have e2:kP Z G.g c=0:=e1.trans he;have e3:rM Z G.g c=Ai Z G.g c:=by unfold rM;rw[e2,if_pos rfl]
         rw[e2,e3];exact E4 hZ G c dt N w hN hG hC hg hv iE hf dn hb hw nt 0 he rfl
        exact key _ e1 he (Ag hZ G c dt N w hN hG hC hg hv iE hf dn hb hw nt _ rfl he)
    exact key 221 (by simp[kP,hv,iE,hf,dn]) zO (Ac hZ G c dt N w hN hG hC hg hv iE hf dn)
  exact key 220 (by simp[kP,hv,iE]) zO (Aa hZ G c dt N w hN hG hC hg hv iE)
theorem Ao{l:List Value}(h:l.all (λu=>u.oneCell')=true):∀u∈l,u.oneCell'=true:=λu hu=>o4.1 h u hu
def jQ (x:Gv):List Value:=[.int .i64 x.g.folder,.int .i64 x.g.epoch,.int .u8 (x.g.last 0),.int .u8 (x.g.last 1),.int .u8 (x.g.last 2),.int .u8 (x.g.last 3),.int .u8 (x.g.last 4),.int .u8 (x.g.last 5),.int .u8 (x.g.last 6),.int .u8 (x.g.last 7),.int .u8 (x.g.last 8),.int .u8 (x.g.last 9),.int .u8 (x.g.last 10),.int .u8 (x.g.last 11),.int .u8 (x.g.last 12),.int .u8 (x.g.last 13),.int .u8 (x.g.last 14),.int .u8 (x.g.last 15),.int .u8 (x.g.last 16),.int .u8 (x.g.last 17),.int .u8 (x.g.last 18),.int .u8 (x.g.last 19),.int .u8 (x.g.last 20),.int .u8 (x.g.last 21),.int .u8 (x.g.last 22),.int .u8 (x.g.last 23),.int .u8 (x.g.last 24),.int .u8 (x.g.last 25),.int .u8 (x.g.last 26),.int .u8 (x.g.last 27),.int .u8 (x.g.last 28),.int .u8 (x.g.last 29),.int .u8 (x.g.last 30),.int .u8 (x.g.last 31),.slice x.ma x.g.ms.length x.mc,.slice x.na x.g.ns.length x.nc]
theorem naj(x:Gv):(jQ x).length=36:=rfl
theorem E7(x:Gv):∀u∈jQ x,u.oneCell'=true:=Ao rfl
def lI (d:Cd):List Value:=[.int .i64 d.at_,.int .i64 d.c.folder,.int .i64 d.c.epoch,.int .u8 (d.c.par 0),.int .u8 (d.c.par 1),.int .u8 (d.c.par 2),.int .u8 (d.c.par 3),.int .u8 (d.c.par 4),.int .u8 (d.c.par 5),.int .u8 (d.c.par 6),.int .u8 (d.c.par 7),.int .u8 (d.c.par 8),.int .u8 (d.c.par 9),.int .u8 (d.c.par 10),.int .u8 (d.c.par 11),.int .u8 (d.c.par 12),.int .u8 (d.c.par 13),.int .u8 (d.c.par 14),.int .u8 (d.c.par 15),.int .u8 (d.c.par 16),.int .u8 (d.c.par 17),.int .u8 (d.c.par 18),.int .u8 (d.c.par 19),.int .u8 (d.c.par 20),.int .u8 (d.c.par 21),.int .u8 (d.c.par 22),.int .u8 (d.c.par 23),.int .u8 (d.c.par 24),.int .u8 (d.c.par 25),.int .u8 (d.c.par 26),.int .u8 (d.c.par 27),.int .u8 (d.c.par 28),.int .u8 (d.c.par 29),.int .u8 (d.c.par 30),.int .u8 (d.c.par 31),.int .i64 d.c.author,.slice d.c.ca d.c.chs.length d.c.cc,.slice d.c.pa d.c.path.length d.c.pc,.slice d.c.ba d.c.bxs.length d.c.bc,.slice d.c.wa d.c.wes.length d.c.wc,.int .u8 (d.c.conf 0),.int .u8 (d.c.conf 1),.int .u8 (d.c.conf 2),.int .u8 (d.c.conf 3),.int .u8 (d.c.conf 4),.int .u8 (d.c.conf 5),.int .u8 (d.c.conf 6),.int .u8 (d.c.conf 7),.int .u8 (d.c.conf 8),.int .u8 (d.c.conf 9),.int .u8 (d.c.conf 10),.int .u8 (d.c.conf 11),.int .u8 (d.c.conf 12),.int .u8 (d.c.conf 13),.int .u8 (d.c.conf 14),.int .u8 (d.c.conf 15),.int .u8 (d.c.conf 16),.int .u8 (d.c.conf 17),.int .u8 (d.c.conf 18),.int .u8 (d.c.conf 19),.int .u8 (d.c.conf 20),.int .u8 (d.c.conf 21),.int .u8 (d.c.conf 22),.int .u8 (d.c.conf 23),.int .u8 (d.c.conf 24),.int .u8 (d.c.conf 25),.int .u8 (d.c.conf 26),.int .u8 (d.c.conf 27),.int .u8 (d.c.conf 28),.int .u8 (d.c.conf 29),.int .u8 (d.c.conf 30),.int .u8 (d.c.conf 31),.int .i64 d.c.sr,.int .i64 d.c.ss,.int .u8 (d.id 0),.int .u8 (d.id 1),.int .u8 (d.id 2),.int .u8 (d.id 3),.int .u8 (d.id 4),.int .u8 (d.id 5),.int .u8 (d.id 6),.int .u8 (d.id 7),.int .u8 (d.id 8),.int .u8 (d.id 9),.int .u8 (d.id 10),.int .u8 (d.id 11),.int .u8 (d.id 12),.int .u8 (d.id 13),.int .u8 (d.id 14),.int .u8 (d.id 15),.int .u8 (d.id 16),.int .u8 (d.id 17),.int .u8 (d.id 18),.int .u8 (d.id 19),.int .u8 (d.id 20),.int .u8 (d.id 21),.int .u8 (d.id 22),.int .u8 (d.id 23),.int .u8 (d.id 24),.int .u8 (d.id 25),.int .u8 (d.id 26),.int .u8 (d.id 27),.int .u8 (d.id 28),.int .u8 (d.id 29),.int .u8 (d.id 30),.int .u8 (d.id 31),.int .i64 d.since,.int .i64 d.x.g.folder,.int .i64 d.x.g.epoch,.int .u8 (d.x.g.last 0),.int .u8 (d.x.g.last 1),.int .u8 (d.x.g.last 2),.int .u8 (d.x.g.last 3),.int .u8 (d.x.g.last 4),.int .u8 (d.x.g.last 5),.int .u8 (d.x.g.last 6),.int .u8 (d.x.g.last 7),.int .u8 (d.x.g.last 8),.int .u8 (d.x.g.last 9),.int .u8 (d.x.g.last 10),.int .u8 (d.x.g.last 11),.int .u8 (d.x.g.last 12),.int .u8 (d.x.g.last 13),.int .u8 (d.x.g.last 14),.int .u8 (d.x.g.last 15),.int .u8 (d.x.g.last 16),.int .u8 (d.x.g.last 17),.int .u8 (d.x.g.last 18),.int .u8 (d.x.g.last 19),.int .u8 (d.x.g.last 20),.int .u8 (d.x.g.last 21),.int .u8 (d.x.g.last 22),.int .u8 (d.x.g.last 23),.int .u8 (d.x.g.last 24),.int .u8 (d.x.g.last 25),.int .u8 (d.x.g.last 26),.int .u8 (d.x.g.last 27),.int .u8 (d.x.g.last 28),.int .u8 (d.x.g.last 29),.int .u8 (d.x.g.last 30),.int .u8 (d.x.g.last 31),.slice d.x.ma d.x.g.ms.length d.x.mc,.slice d.x.na d.x.g.ns.length d.x.nc]
theorem CE(d:Cd):(lI d).length=143:=by simp only[lI,dQ,mT]
theorem nPi(d:Cd):∀u∈lI d,u.oneCell'=true:=Ao rfl
def iu (k:Dk):List Value:=k.1.map (Value.int .u8)
theorem RZ(k:Dk):(iu k).length=32:=by simp[iu,k.2]
theorem nUk(k:Dk):∀u∈iu k,u.oneCell'=true:=by
 intro u hu;obtain⟨x,_,rfl⟩:=bW.1 hu;rfl
def dk (f:Nat->Int):Dk:=⟨[f 0,f 1,f 2,f 3,f 4,f 5,f 6,f 7,f 8,f 9,f 10,f 11,f 12,f 13,f 14,f 15,f 16,f 17,f 18,f 19,f 20,f 21,f 22,f 23,f 24,f 25,f 26,f 27,f 28,f 29,f 30,f 31],rfl⟩
theorem E8(f:Nat->Int):(iu (dk f)).toArray=dg f:=rfl
theorem abt(f g:Nat->Int):jS f g=decide (dk f=dk g):=by
 have h:=VS (dk f).1 (dk g).1 (by rw[(dk f).2,(dk g).2]);have e:decide (dk f=dk g)=decide ((dk f).1=(dk g).1):=by simp only[Subtype.ext_iff]
 rw[e,<-h];rfl
theorem E9:prog.info? 57=some Tryz.t57:=by kernel_rfl
theorem Fb:prog.info? 101=some Tryz.t101:=by kernel_rfl
theorem Fc:prog.info? 34=some Tryz.t34:=by kernel_rfl
theorem K2:kY prog 46 57 36:=⟨underlying46,Tryz.t57,.agg #[.int .i64 0,.int .i64 0,.int .u8 0,.int .u8 0,.int .u8 0,.int .u8 0,.int .u8 0,.int .u8 0,.int .u8 0,.int .u8 0,.int .u8 0,.int .u8 0,.int .u8 0,.int .u8 0,.int .u8 0,.int .u8 0,.int .u8 0,.int .u8 0,.int .u8 0,.int .u8 0,.int .u8 0,.int .u8 0,.int .u8 0,.int .u8 0,.int .u8 0,.int .u8 0,.int .u8 0,.int .u8 0,.int .u8 0,.int .u8 0,.int .u8 0,.int .u8 0,.int .u8 0,.int .u8 0,.slice none 0 0,.slice none 0 0],E9,rfl,rfl,rfl,by decide⟩
theorem Ap:kY prog 194 101 143:=⟨underlying194,Tryz.t101,.agg #[.int .i64 0,.int .i64 0,.int .i64 0,.int .u8 0,.int .u8 0,.int .u8 0,.int .u8 0,.int .u8 0,.int .u8 0,.int .u8 0,.int .u8 0,.int .u8 0,.int .u8 0,.int .u8 0,.int .u8 0,.int .u8 0,.int .u8 0,.int .u8 0,.int .u8 0,.int .u8 0,.int .u8 0,.int .u8 0,.int .u8 0,.int .u8 0,.int .u8 0,.int .u8 0,.int .u8 0,.int .u8 0,.int .u8 0,.int .u8 0,.int .u8 0,.int .u8 0,.int .u8 0,.int .u8 0,.int .u8 0,.int .i64 0,.slice none 0 0,.slice none 0 0,.slice none 0 0,.slice none 0 0,.int .u8 0,.int .u8 0,.int .u8 0,.int .u8 0,.int .u8 0,.int .u8 0,.int .u8 0,.int .u8 0,.int .u8 0,.int .u8 0,.int .u8 0,.int .u8 0,.int .u8 0,.int .u8 0,.int .u8 0,.int .u8 0,.int .u8 0,.int .u8 0,.int .u8 0,.int .u8 0,.int .u8 0,.int .u8 0,.int .u8 0,.int .u8 0,.int .u8 0,.int .u8 0,.int .u8 0,.int .u8 0,.int .u8 0,.int .u8 0,.int .u8 0,.int .u8 0,.int .i64 0,.int .i64 0,.int .u8 0,.int .u8 0,.int .u8 0,.int .u8 0,.int .u8 0,.int .u8 0,.int .u8 0,.int .u8 0,.int .u8 0,.int .u8 0,.int .u8 0,.int .u8 0,.int .u8 0,.int .u8 0,.int .u8 0,.int .u8 0,.int .u8 0,.int .u8 0,.int .u8 0,.int .u8 0,.int .u8 0,.int .u8 0,.int .u8 0,.int .u8 0,.int .u8 0,.int .u8 0,.int .u8 0,.int .u8 0,.int .u8 0,.int .u8 0,.int .u8 0,.int .u8 0,.int .i64 0,.int .i64 0,.int .i64 0,.int .u8 0,.int .u8 0,.int .u8 0,.int .u8 0,.int .u8 0,.int .u8 0,.int .u8 0,.int .u8 0,.int .u8 0,.int .u8 0,.int .u8 0,.int .u8 0,.int .u8 0,.int .u8 0,.int .u8 0,.int .u8 0,.int .u8 0,.int .u8 0,.int .u8 0,.int .u8 0,.int .u8 0,.int .u8 0,.int .u8 0,.int .u8 0,.int .u8 0,.int .u8 0,.int .u8 0,.int .u8 0,.int .u8 0,.int .u8 0,.int .u8 0,.int .u8 0,.slice none 0 0,.slice none 0 0],Fb,rfl,rfl,rfl,by decide⟩
theorem Aq:kY prog 41 34 32:=⟨underlying41,Tryz.t34,.agg #[.int .u8 0,.int .u8 0,.int .u8 0,.int .u8 0,.int .u8 0,.int .u8 0,.int .u8 0,.int .u8 0,.int .u8 0,.int .u8 0,.int .u8 0,.int .u8 0,.int .u8 0,.int .u8 0,.int .u8 0,.int .u8 0,.int .u8 0,.int .u8 0,.int .u8 0,.int .u8 0,.int .u8 0,.int .u8 0,.int .u8 0,.int .u8 0,.int .u8 0,.int .u8 0,.int .u8 0,.int .u8 0,.int .u8 0,.int .u8 0,.int .u8 0,.int .u8 0],Fc,rfl,rfl,rfl,by decide⟩
theorem Fe:tf prog 34 rl:=R0 underlying34 underlying5 sizeOf5 isAgg5
theorem nMk(p:Cd->Bool)(f:Nat)(cap:List Value)(az:dP prog f)(xs:List Cd)(cj:xs.length<=1000000)(N:Nat)(a:Option Addr)(cp:Nat)(w:World)(hN:N<=w.heap.size)(aH:ag dw 143 N w a xs)(hp:∀(j:Nat) (x:Cd),xs[j]? =some x->∀W,Below w.heap.size w W->Calls prog f (.agg (dw x)::cap).toArray W (ay W (.bool (p x)))):Calls prog 166 #[.slice a xs.length cp,.func (.func f) #[] cap.toArray] w (cJ w (λi:Int=>.int .i64 i) (λi _=>du p xs i)):=by
 refine enter (vs:=[_,_]) func166 rfl ntmps166 rfl ?_;refine Nw ?_;rintro j ⟨hj,dm⟩;refine B 6 ?_;refine aG ?_ ?_
 ·intro ah;refine B 11 ?_;obtain⟨bo,oo,cs0,to,fk,rfl,fE,hcs,ar⟩:=aH.get zJ;obtain⟨x,hx⟩:=nj xs j zJ;refine B 5 ?_;refine rq (.agg (dw x)) (ai isAgg101 sizeOf101 rfl A0 hcs zU trivial (nk ar hx rfl)) (va (nr ar hx rfl)) ?_;refine Nx ?_;refine aG ?_ ?_
  ·intro aJ;refine B 12 ?_;refine kH (j:Int) results166 rfl A0 rfl ?_;exact Ny
  exact Kg
 intro ah;refine B 11 ?_;refine kH (-1:Int) results166 rfl A0 rfl ?_;exact Kh
theorem nzi(p:Cd->Bool)(f:Nat)(cap:List Value)(az:dP prog f)(xs:List Cd)(cj:xs.length<=1000000)(N:Nat)(a:Option Addr)(cp:Nat)(w:World)(hN:N<=w.heap.size)(aH:ag dw 143 N w a xs)(hp:∀(j:Nat) (x:Cd),xs[j]? =some x->∀W,Below w.heap.size w W->Calls prog f (.agg (dw x)::cap).toArray W (ay W (.bool (p x)))):Calls prog 103 #[.slice a xs.length cp,.func (.func f) #[] cap.toArray] w (ay w (.bool (xs.any p))):=by
 refine enter (vs:=[_,_]) func103 rfl ntmps103 rfl ?_;refine B 9 ?_;refine nB (α:=Int) (v:=λi:Int=>.int .i64 i) (Φ:=λ_ i _=>du p xs i) call166 rfl rfl rfl (λW hS=>nMk p f cap az xs cj N a cp W (aR hN (hS.links w A0).size) (aH.up (ao _) (hS.same A0 hN zS trivial)) (λj x hx W2 hB=>hp j x hx W2 (((hS.links w A0).below Nq).trans (hB.mono (hS.links w A0).size)))) ?_;intro Wi i wi sV sW hi;refine B 5 ?_;refine ax results103 rfl A1 ?_;exact vb hi.any
def lv (l:List Dk) (k:Dk):Int:=match l.findIdx? (λx=>decide (x=k))with|some i=>(i:Int)|none=> -1
theorem ncn{l:List Dk}{k x:Dk}(dm:eI (λy=>decide (y=k)) l j)(hx:l[j]? =some x)(h:decide (x=k)=true):(j:Int)=lv l k:=by
 have e:l.findIdx? (λy=>decide (y=k))=some j:=by
  rw[Uh];have hl:=nE hx;obtain⟨_,R1⟩:=gi.1 hx;refine⟨hl,by rw[R1];exact h,λi hi=>?_⟩;have:=dm i l[i] hi (gB _);simp[this]
 unfold lv;rw[e]
theorem K3{l:List Dk}{k:Dk}(dm:eI (λy=>decide (y=k)) l j)(hj:¬j<l.length):(-1:Int)=lv l k:=by
 have e:l.findIdx? (λy=>decide (y=k))=none:=by
  rw[List.findIdx?_eq_none_iff];intro x hx;have:=List.any_eq_false.1 (Nv dm hj) x hx;simpa using this
 unfold lv;rw[e]
def R3 (k:Dk):Array Value:=(iu k).toArray
theorem K4(f:Nat->Int)(k:Dk):mG (dg f).toList (R3 k).toList=decide (k=dk f):=by
 have h:=VS (dk f).1 k.1 (by rw[(dk f).2,k.2]);have e:decide (k=dk f)=decide ((dk f).1=k.1):=by simp only[Subtype.ext_iff];exact decide_eq_decide.2 ⟨Eq.symm,Eq.symm⟩
 rw[e,<-h];rfl
theorem K5(f:Nat->Int)(k:Dk):jd (kp 32 [.i]) (dg f).toList (R3 k).toList=true:=nDh 32 (dk f).1 k.1 (dk f).2 k.2
theorem Ar(xs:List Dk)(cj:xs.length<=1000000)(N:Nat)(a:Option Addr)(cp:Nat)(w:World)(hN:N<=w.heap.size)(aH:ag R3 32 N w a xs)(f:Nat->Int):Calls prog 100 #[.slice a xs.length cp,.agg (dg f)] w (ay w (.int .i64 (lv xs (dk f)))):=by
 refine enter (vs:=[_,_]) func100 rfl ntmps100 rfl ?_;refine B 2 ?_;refine yX ?_;intro b3 w3 aM aD da cd cP;refine B 12 ?_;refine CJ.loop (α:=Nat) (λj=>[(0,.slice a xs.length cp),(3,ptr b3 0),(7,.int .i64 (xs.length:Int)),(8,.int .i64 (j:Int))]) (λj=>[]) (λj=>[w3,w]) (λj=>Gh.no) (λj=>j<=xs.length/\eI (λy=>decide (y=dk f)) xs j) (λj=>xs.length-j) 0 ⟨db _,λi x hi=>absurd hi zJ⟩ zR rfl rfl zX ?_;rintro j ⟨hj,dm⟩;refine B 6 ?_;refine aG ?_ ?_
 ·intro ah;refine B 11 ?_;obtain⟨bo,oo,cs0,to,fk,rfl,fE,hcs,ar⟩:=aH.get zJ;obtain⟨x,hx⟩:=nj xs j zJ;refine ng (E':=[(0,_),(3,_),(5,_),(7,_),(8,_),(9,_),(10,_)]) zR ?_;refine nl 5 [.det [] _,.det [] _,.det [] _,.det [1,2] _,.det [3] _] zQ (xc (by exact λaf=>X.val rfl rfl (ae isAgg34 sizeOf34 rfl A0 aM aD trivial rfl) (λ_ _=>rfl)) (xc zN (xc zN (xc (by exact λaf=>X.val rfl rfl (cD underlying41 sizeOf34 rfl rfl zJ zJ) (λ_ _=>rfl)) (xc (by exact λaf=>X.val rfl rfl (RV.re (v':=.agg (R3 x)) (ai isAgg34 sizeOf34 rfl A1 hcs zU trivial (nk ar hx rfl)) (va (nr ar hx rfl))) (λ_ _=>rfl)) (xn)))))) zQ zQ zQ (λaf=>?_);refine rq (.bool (decide (x=dk f))) (pJ xX zO xY rfl rfl (K5 f x)) (vb (K4 f x)) ?_;refine B 2 ?_;refine aG ?_ ?_
  ·intro aJ;refine B 12 ?_;exact zQj
  intro aJ;refine B 7 ?_;refine PJ.again (j+1) ⟨by omega,dm.next hx (decide_eq_false gw)⟩ zJ zR rfl rfl zX
 intro ah;refine B 11 ?_;exact zQj
theorem As(d x:Cd)(cj:x.c.chs.length<=1000)(N:Nat)(b:Nat)(w:World)(hN:N<=w.heap.size)(aH:ag ez 5 N w x.c.ca x.c.chs)(aQ:w.heap[b]? =some (.cells (dw d) 101 (0,0))):Calls prog 104 #[.agg (dw x),ptr b 0] w (ay w (.bool (decide (x.c.author≠d.c.author)&&x.c.chs.any (td d.c.author)))):=by
 have aX:¬Gh.no.X b:=λh=>h;have mE:=(aT.1 aQ).1;refine enter (vs:=[_,_]) func104 rfl ntmps104 rfl ?_;refine B 2 ?_;refine yX ?_;intro b2 w2 aU aN dY cR cX;refine B 7 ?_;refine rr (.int .i64 x.c.author) (aa isAgg3 rfl A0 aU aN trivial rfl) ?_;refine B 2 ?_;refine zjh ?_;refine B 2 ?_;refine nh (t:=11) rfl (λah=>?_) (λah=>?_)
 ·replace ah:=ya ah;refine rr (.agg (dw x)) (ae isAgg101 sizeOf101 rfl A0 aU aN trivial rfl) ?_;refine B 2 ?_;refine zjh ?_;refine call call105 rfl rfl rfl (λW hS=>nZn x cj N W (aR hN (hS.links w A1).size) (aH.up (ao _) (hS.same A1 hN zS zM)) d.c.author) ?_;refine B 5 ?_;refine ax results104 rfl A1 ?_;exact vb mH
 replace ah:=ya ah;refine B 10 ?_;refine ax results104 rfl A1 ?_;exact vb mH
noncomputable def aY (Z:Fx) (cs:List Cm):Nat->List (Dk×Int)
 |0=>[]
 |j+1=>match cs[j]? with
  |none=>aY Z cs j
  |some c=>if dk (aI Z c)∈(aY Z cs j).map (·.1)then aY Z cs j else aY Z cs j++[(dk (aI Z c),(j:Int))]
theorem VT{cs:List Cm}{c:Cm}(hc:cs[j]? =some c)(h:dk (aI Z c)∈(aY Z cs j).map (·.1)):aY Z cs (j+1)=aY Z cs j:=by simp only[aY,hc,if_pos h]
theorem VU{cs:List Cm}{c:Cm}(hc:cs[j]? =some c)(h:¬dk (aI Z c)∈(aY Z cs j).map (·.1)):aY Z cs (j+1)=aY Z cs j++[(dk (aI Z c),(j:Int))]:=by simp only[aY,hc,if_neg h]
theorem NS(Z:Fx)(cs:List Cm):∀j,(aY Z cs j).length<=j
 |0=>ao _
 |j+1=>by
  have:=NS Z cs j;unfold aY;split
  ·omega
  split
  ·omega
  rw[cK,HV];omega
theorem nSj(Z:Fx)(cs:List Cm):∀j,((aY Z cs j).map (·.1)).Nodup
 |0=>List.nodup_nil
 |j+1=>by
  have:=nSj Z cs j;unfold aY;split
  ·exact this
  split
  ·exact this
  rename_i h;rw[gP,List.nodup_append];refine⟨this,by simp,?_⟩;intro a ha b hb e;simp only[eh,iB,qi]at hb;subst hb;subst e;exact h ha
theorem VV(Z:Fx)(cs:List Cm):∀(j:Nat) (p:Dk×Int),p∈aY Z cs j->∃(i:Nat) (c:Cm),p.2=(i:Int)/\i<j/\cs[i]? =some c/\p.1=dk (aI Z c)
 |0,p,h=>by simp[aY]at h
 |j+1,p,h=>by
  have ih:=VV Z cs j p;unfold aY at h;split at h
  ·obtain⟨i,c,h1,h2,h3⟩:=ih h;exact⟨i,c,h1,by omega,h3⟩
  rename_i c hc;split at h
  ·obtain⟨i,c,h1,h2,h3⟩:=ih h;exact⟨i,c,h1,by omega,h3⟩
  rcases cQ.1 h with h|h
  ·obtain⟨i,c,h1,h2,h3⟩:=ih h;exact⟨i,c,h1,by omega,h3⟩
  simp only[qi]at h;subst h;exact⟨j,c,rfl,by omega,hc,rfl⟩
def kQ (l:List (Dk×Int)):List (Dk×Bool):=l.map λp=>(p.1,true)
theorem VW(l:List (Dk×Int)):(kQ l).map (·.1)=l.map (·.1):=by simp[kQ]
theorem nHm(l:List (Dk×Int))(k:Dk):(lx (kQ l) k).getD false=decide (k∈l.map (·.1)):=by
 by_cases h:k∈l.map (·.1)
 ·cases e:lx (kQ l) k with
  |none=>rw[nLj,VW]at e;exact absurd h e
  |some v=>
   obtain⟨q,hq,rfl⟩:=K6.1 e;have h2:=NU hq;obtain⟨p,_,hp⟩:=bW.1 (cb h2);have:q.2=true:=(Prod.mk.inj hp).2.symm;simp[this,h]
 have e:lx (kQ l) k=none:=by rw[nLj,VW];exact h
 simp[e,h]
theorem n3m{l:List (Dk×Int)}{k:Dk}(h:k∈l.map (·.1)):iv (kQ l) k true=kQ l:=by
 unfold iv;cases hi:eJ k (kQ l) 0 with
 |none=>have:=VX.1 hi;rw[VW]at this;exact absurd h this
 |some q=>
  obtain⟨i,v⟩:=q;have h2:=NU hi;obtain⟨p,_,hp⟩:=bW.1 (cb h2);have hv:v=true:=(Prod.mk.inj hp).2.symm;subst hv;apply tS;intro n;rw[VY];split
  ·rename_i e;subst e;rw[if_pos (gi.1 h2).1,h2]
  rfl
theorem nAm{l:List (Dk×Int)}{k:Dk}{j:Int}(h:¬k∈l.map (·.1)):iv (kQ l) k true=kQ (l++[(k,j)]):=by
 unfold iv;cases hi:eJ k (kQ l) 0 with
 |none=>simp[kQ]
 |some q=>
  have h2:=NU (l:=kQ l) (i:=q.1) (v:=q.2) hi;have:k∈(kQ l).map (·.1):=bW.2 ⟨_,cb h2,rfl⟩;rw[VW]at this;exact absurd this h
theorem nVm(o:Option Bool):(o.map Value.bool).getD (.bool false)= .bool (o.getD false):=by cases o<;>rfl
theorem nYj{l:List (Dk×Int)}{p:Dk×Int}:(l++[p]).map (·.1)=l.map (·.1)++[p.1]:=by simp
theorem n1j{l:List (Dk×Int)}{p:Dk×Int}:(l++[p]).map (·.2)=l.map (·.2)++[p.2]:=by simp
structure Pv where
 ia:Option Addr
 ic:Nat
 ta:Option Addr
 tc:Nat
noncomputable def vA (Z:Fx) (cs:List Cm) (la:Option Addr) (lc:Nat) (p:Pv):Array Value:=#[.slice la cs.length lc,.slice p.ia ((aY Z cs cs.length).map (·.1)).length p.ic,.slice p.ta ((aY Z cs cs.length).map (·.2)).length p.tc]
structure ly (Z:Fx) (cs:List Cm) (N:Nat) (w:World) (p:Pv):Prop where
 ids:ag R3 32 N w p.ia ((aY Z cs cs.length).map (·.1))
 at_:ag (λx=>(aj x).toArray) 1 N w p.ta ((aY Z cs cs.length).map (·.2))
theorem ly.up{cs:List Cm}{w:World}{p:Pv}(h:ly Z cs N w p)(hN:N<=N')(hw:∀k,k<N->w'.heap[k]? =w.heap[k]?):ly Z cs N' w' p:=⟨h.ids.up hN hw,h.at_.up hN hw⟩
theorem newPool(hZ:FxOk Z)(cs:List Cm)(hcs:cs.length<=1000)(dt:∀c∈cs,cx c)(N:Nat)(la:Option Addr)(lc:Nat)(w:World)(hN:N<=w.heap.size)(aH:ag dI 73 N w la cs)(hC:∀c∈cs,dB N w c)(hg:Glb w):Calls prog 22 #[.slice la cs.length lc] w (cJ w (λp:Pv=>.agg (vA Z cs la lc p)) (λp w1=>ly Z cs w1.heap.size w1 p/\(∀q,p.ia=some q->w.heap.size<=q.block)/\∀q,p.ta=some q->w.heap.size<=q.block)):=by
 have eE:=hg.lt;refine enter (vs:=[_]) func22 rfl ntmps22 rfl ?_;refine B 2 ?_;refine aZ zeroValue92 rfl rfl ?_;refine yW ?_;intro b2 cR cX;refine B 6 ?_;refine kf (i:=0) rfl sizeOf24 rfl rfl rfl rfl (bj rfl) rfl ?_;refine B 4 ?_;refine abv rl Value.bool rfl rfl ?_;intro b3 cd cP;replace cd:=yb cd;try simp only[bD,and_true,ne_eq]at cP
 refine B 12 ?_;refine CJ.loop (α:=((Rw×Rw)×Mq)×Nat) (λp=>[(2,ptr b2 0),(3,.map (some b3)),(10,.slice la cs.length lc),(11,.int .i64 (cs.length:Int)),(12,.int .i64 (p.2:Int))]) (λp=>[(b3,p.1.2.obj rl Value.bool (kQ (aY Z cs p.2))),(b2,.cells #[.slice la cs.length lc,p.1.1.1.val ((aY Z cs p.2).map (·.1)).length,p.1.1.2.val ((aY Z cs p.2).map (·.2)).length] 92 (0,0))]++(p.1.1.1.hp iu 34 ((aY Z cs p.2).map (·.1))++(p.1.1.2.hp aj 3 ((aY Z cs p.2).map (·.2))++[]))) (λp=>[w]) (λp=>Gh.no) (λp=>p.2<=cs.length/\p.1.1.1.Fr Gh.no [w]/\p.1.1.1.Fit 32 ((aY Z cs p.2).map (·.1))/\p.1.1.2.Fr Gh.no [w]/\p.1.1.2.Fit 1 ((aY Z cs p.2).map (·.2))/\p.1.2.Ok (kQ (aY Z cs p.2))) (λp=>cs.length-p.2) (((.nil,.nil),Mq.mk [] 0),0) ⟨db _,True.intro,rfl,True.intro,rfl,Mq.nil⟩ zR rfl rfl zX ?_;rintro⟨⟨⟨r1,r2⟩,m⟩,j⟩ ⟨hj,mr,fQ,gm,iw,hm⟩;dsimp only at hj mr fQ gm iw hm ⊢;have kR:r1.ge w.heap.size:=Rw.ge_of mr A0;have dE:r2.ge w.heap.size:=Rw.ge_of gm A0;refine B 6 ?_;refine aG ?_ ?_
 ·intro ah;refine B 5 ?_;obtain⟨bo,oo,cs0,to,fk,im,fE,hcs,ar⟩:=aH.get zJ;obtain⟨c,hc⟩:=nj cs j zJ;have hcm:=cb hc;have hpl:=NS Z cs j;refine B 2 ?_;refine rv rfl rfl rfl (cD underlying24 sizeOf99 (congrArg (λq=>some (Value.slice q cs.length lc)) im) rfl zJ zJ) ?_;refine rq (.agg (dI c)) (ai isAgg99 sizeOf99 rfl A0 hcs zU (by simp only[bD,ne,eP,dK,dH,cZ,and_true];(repeat' apply And.intro);all_goals first|omega|exact True.intro|exact Rw.off_ge kR zJ|exact Rw.off_ge dE zJ) (nk ar hc rfl)) (va (nr ar hc rfl)) ?_;refine aZ zeroValue99 rfl rfl ?_;refine yW ?_;intro b5 iH iI;refine B 1 ?_;refine bh (i:=0) rfl sizeOf99 rfl rfl rfl rfl rfl rfl ?_;refine B 5 ?_;refine call call49 rfl rfl rfl (λW hS=>nSf hZ c (dt c hcm) N W (aR hN (hS.links w A0).size) ((hC c hcm).up (ao _) (hS.same A0 hN zS zzd)) (hg.old hS A0 zS zzd)) ?_;refine uM ?_;refine yW ?_;intro b6 gV lP;refine MZ ?_;refine B 4 ?_;by_cases uz:(dk (aI Z c))∈((aY Z cs j).map (·.1))
  ·refine B 3 ?_;refine rq (.bool true) (uA (m:=m) (k:=(dk (aI Z c))) underlying139 Fe zeroValue4 hm (bL.own (i:=2) rfl) rfl rfl) ((nVm _).trans (vb ((nHm _ _).trans (decide_eq_true uz)))) ?_;refine B 9 ?_;refine HW (i:=2) (k:=(dk (aI Z c))) (v:=true) rfl hm underlying139 Fe rfl rfl rfl rfl ?_;intro m2 aN;refine K0 ?_;refine PJ.again (((r1,r2),m2),j+1) ⟨by dsimp only;omega,mr,by rw[VT hc uz];exact fQ,gm,by rw[VT hc uz];exact iw,by rw[VT hc uz];rw[n3m uz]at aN;exact aN⟩ dG zR (by rw[VT hc uz,n3m uz];rfl) rfl zX
  refine B 3 ?_;refine rq (.bool false) (uA (m:=m) (k:=(dk (aI Z c))) underlying139 Fe zeroValue4 hm (bL.own (i:=2) rfl) rfl rfl) ((nVm _).trans (vb ((nHm _ _).trans (decide_eq_false uz)))) ?_;refine B 4 ?_;refine ng (E':=[(2,_),(3,_),(4,_),(5,_),(6,_),(10,_),(11,_),(12,_),(13,_),(14,_),(15,_),(16,_),(17,_),(18,_),(19,_),(20,_),(21,_),(22,_)]) zR ?_;refine P2 11 [3,4,8,9] [([],some _),([0],some _),([],some _),([2],none),([1,3],none),([],some _),([5],some _),([],some _),([7],none),([6,8],none),([],some _)] [[],[0],[],[0,1,2]] (λcv L' H'=>match cv with| [none,none,none,none]=>L'=[w]/\H'=[(b6,.cells (dg (aI Z c)) 34 (0,0)),(b5,.cells (dI c) 99 (0,0)),(b3,m.obj rl Value.bool (kQ (aY Z cs j))),(b2,.cells #[.slice la cs.length lc,r1.val ((aY Z cs j).map (·.1)).length,r2.val ((aY Z cs j).map (·.2)).length] 92 (0,0))]++(r1.hp iu 34 ((aY Z cs j).map (·.1))++(r2.hp aj 3 ((aY Z cs j).map (·.2))++[]))| [none,none,some v8,none]=>∃(gl:Nat),v8= .slice (some ⟨gl,0,none⟩) 1 1/\L'=[w]/\H'=[(gl,.cells #[.int .i64 (j:Int)] 3 (0,0)),(b6,.cells (dg (aI Z c)) 34 (0,0)),(b5,.cells (dI c) 99 (0,0)),(b3,m.obj rl Value.bool (kQ (aY Z cs j))),(b2,.cells #[.slice la cs.length lc,r1.val ((aY Z cs j).map (·.1)).length,r2.val ((aY Z cs j).map (·.2)).length] 92 (0,0))]++(r1.hp iu 34 ((aY Z cs j).map (·.1))++(r2.hp aj 3 ((aY Z cs j).map (·.2))++[]))/\ad [w] gl| [some v3,none,none,none]=>∃(gj:Nat),v3= .slice (some ⟨gj,0,none⟩) 1 1/\L'=[w]/\H'=[(gj,.cells (dg (aI Z c)) 34 (0,0)),(b6,.cells (dg (aI Z c)) 34 (0,0)),(b5,.cells (dI c) 99 (0,0)),(b3,m.obj rl Value.bool (kQ (aY Z cs j))),(b2,.cells #[.slice la cs.length lc,r1.val ((aY Z cs j).map (·.1)).length,r2.val ((aY Z cs j).map (·.2)).length] 92 (0,0))]++(r1.hp iu 34 ((aY Z cs j).map (·.1))++(r2.hp aj 3 ((aY Z cs j).map (·.2))++[]))/\ad [w] gj| [some v3,none,some v8,none]=>∃(gj:Nat) (gl:Nat),v3= .slice (some ⟨gj,0,none⟩) 1 1/\v8= .slice (some ⟨gl,0,none⟩) 1 1/\L'=[w]/\H'=[(gl,.cells #[.int .i64 (j:Int)] 3 (0,0)),(gj,.cells (dg (aI Z c)) 34 (0,0)),(b6,.cells (dg (aI Z c)) 34 (0,0)),(b5,.cells (dI c) 99 (0,0)),(b3,m.obj rl Value.bool (kQ (aY Z cs j))),(b2,.cells #[.slice la cs.length lc,r1.val ((aY Z cs j).map (·.1)).length,r2.val ((aY Z cs j).map (·.2)).length] 92 (0,0))]++(r1.hp iu 34 ((aY Z cs j).map (·.1))++(r2.hp aj 3 ((aY Z cs j).map (·.2))++[]))/\ad [w] gj/\ad [w] gl| [some v3,some v4,none,none]=>∃(gj:Nat) (iM:Nat) (eK:Nat) (fA:List Value),v3= .slice (some ⟨gj,0,none⟩) 1 1/\v4= .slice (some ⟨iM,0,none⟩) (((aY Z cs j).map (·.1))++[(dk (aI Z c))]).length eK/\L'=[w]/\H'=[(gj,.cells (dg (aI Z c)) 34 (0,0)),(b6,.cells (dg (aI Z c)) 34 (0,0)),(b5,.cells (dI c) 99 (0,0)),(b3,m.obj rl Value.bool (kQ (aY Z cs j))),(b2,.cells #[.slice la cs.length lc,r1.val ((aY Z cs j).map (·.1)).length,r2.val ((aY Z cs j).map (·.2)).length] 92 (0,0))]++((Rw.row iM eK fA).hp iu 34 (((aY Z cs j).map (·.1))++[(dk (aI Z c))])++(r2.hp aj 3 ((aY Z cs j).map (·.2))++[]))/\ad [w] gj/\(r1.isAt iM\/ad [w] iM)/\(Rw.row iM eK fA).Fit 32 (((aY Z cs j).map (·.1))++[(dk (aI Z c))])| [some v3,some v4,some v8,none]=>∃(gj:Nat) (iM:Nat) (eK:Nat) (fA:List Value) (gl:Nat),v3= .slice (some ⟨gj,0,none⟩) 1 1/\v4= .slice (some ⟨iM,0,none⟩) (((aY Z cs j).map (·.1))++[(dk (aI Z c))]).length eK/\v8= .slice (some ⟨gl,0,none⟩) 1 1/\L'=[w]/\H'=[(gl,.cells #[.int .i64 (j:Int)] 3 (0,0)),(gj,.cells (dg (aI Z c)) 34 (0,0)),(b6,.cells (dg (aI Z c)) 34 (0,0)),(b5,.cells (dI c) 99 (0,0)),(b3,m.obj rl Value.bool (kQ (aY Z cs j))),(b2,.cells #[.slice la cs.length lc,r1.val ((aY Z cs j).map (·.1)).length,r2.val ((aY Z cs j).map (·.2)).length] 92 (0,0))]++((Rw.row iM eK fA).hp iu 34 (((aY Z cs j).map (·.1))++[(dk (aI Z c))])++(r2.hp aj 3 ((aY Z cs j).map (·.2))++[]))/\ad [w] gj/\(r1.isAt iM\/ad [w] iM)/\(Rw.row iM eK fA).Fit 32 (((aY Z cs j).map (·.1))++[(dk (aI Z c))])/\ad [w] gl| [some v3,some v4,some v8,some v9]=>∃(gj:Nat) (iM:Nat) (eK:Nat) (fA:List Value) (gl:Nat) (uB:Nat) (oy:Nat) (p4:List Value),v3= .slice (some ⟨gj,0,none⟩) 1 1/\v4= .slice (some ⟨iM,0,none⟩) (((aY Z cs j).map (·.1))++[(dk (aI Z c))]).length eK/\v8= .slice (some ⟨gl,0,none⟩) 1 1/\v9= .slice (some ⟨uB,0,none⟩) (((aY Z cs j).map (·.2))++[(j:Int)]).length oy/\L'=[w]/\H'=[(gl,.cells #[.int .i64 (j:Int)] 3 (0,0)),(gj,.cells (dg (aI Z c)) 34 (0,0)),(b6,.cells (dg (aI Z c)) 34 (0,0)),(b5,.cells (dI c) 99 (0,0)),(b3,m.obj rl Value.bool (kQ (aY Z cs j))),(b2,.cells #[.slice la cs.length lc,r1.val ((aY Z cs j).map (·.1)).length,r2.val ((aY Z cs j).map (·.2)).length] 92 (0,0))]++((Rw.row iM eK fA).hp iu 34 (((aY Z cs j).map (·.1))++[(dk (aI Z c))])++((Rw.row uB oy p4).hp aj 3 (((aY Z cs j).map (·.2))++[(j:Int)])++[]))/\ad [w] gj/\(r1.isAt iM\/ad [w] iM)/\(Rw.row iM eK fA).Fit 32 (((aY Z cs j).map (·.1))++[(dk (aI Z c))])/\ad [w] gl/\(r2.isAt uB\/ad [w] uB)/\(Rw.row uB oy p4).Fit 1 (((aY Z cs j).map (·.2))++[(j:Int)])|_=>False) zQ ⟨rfl,rfl⟩ zQ zQ zQ zQ zQ zQ rfl (qc (by exact λcv L' H' _ _ hP=>X.val rfl rfl (al underlying92 rfl sizeOf41 rfl) R2) (qc zcw (qc zcw (qk (qk (qc (by exact λcv L' H' _ _ hP=>X.val rfl rfl (al underlying92 rfl sizeOf44 rfl) R2) (qc zcw (qc R4 (qk (qk (qc (by exact λcv L' H' _ _ hP=>X.val rfl rfl (al underlying92 rfl sizeOf41 rfl) R2) (qn)))))))))))) ?_ ?_
  ·refine nc rfl rfl rfl rfl ?_ ?_
   ·intro cv L' H' hl hr hP F Q' hk;obtain⟨x3,x4,x8,x9,rfl⟩:=pH hl;rcases x3 with _|v3<;>rcases x4 with _|v4<;>rcases x8 with _|v8<;>rcases x9 with _|v9<;>try exact False.elim hP
    ·obtain⟨rfl,rfl⟩:=hP;refine kr underlying41 sizeOf34 zeroValue34 rfl rfl rfl rfl rfl rfl rfl ?_;intro gj ha ho;exact OJ.done (hk _ _ _ ⟨gj,rfl,rfl,rfl,ha⟩)
    ·obtain⟨gl,rfl,rfl,rfl,ji⟩:=hP;refine kr underlying41 sizeOf34 zeroValue34 rfl rfl rfl rfl rfl rfl rfl ?_;intro gj ha ho;refine OJ.perm (List.Perm.swap _ _ _) ?_;exact OJ.done (hk _ _ _ ⟨gj,gl,rfl,rfl,rfl,rfl,ha,ji⟩)
    ·exact aE
    ·exact aE
    ·exact aE
    ·exact aE
    exact aE
   refine nc rfl rfl rfl rfl ?_ ?_
   ·intro cv L' H' hl hr hP F Q' hk;obtain⟨x3,x4,x8,x9,rfl⟩:=pH hl;rcases x3 with _|v3<;>rcases x4 with _|v4<;>rcases x8 with _|v8<;>rcases x9 with _|v9<;>try exact False.elim hP
    ·exact aE
    ·exact aE
    ·obtain⟨gj,rfl,rfl,rfl,iP⟩:=hP;refine pM (r:=r1) (xs:=((aY Z cs j).map (·.1))) (zs:=[(dk (aI Z c))]) (enc:=iu) (m:=32) (H0:=[(gj,.cells (dg (aI Z c)) 34 (0,0)),(b6,.cells (dg (aI Z c)) 34 (0,0)),(b5,.cells (dI c) 99 (0,0)),(b3,m.obj rl Value.bool (kQ (aY Z cs j))),(b2,.cells #[.slice la cs.length lc,r1.val ((aY Z cs j).map (·.1)).length,r2.val ((aY Z cs j).map (·.2)).length] 92 (0,0))]) (H1:=r2.hp aj 3 ((aY Z cs j).map (·.2))++[]) rfl Aq RZ rfl rfl rfl rfl (dz.one (z:=(dk (aI Z c))) RZ nUk underlying41 (bL.own (i:=0) rfl)) fQ mr zX JK ?_;intro iM eK fA lz eL;exact OJ.done (hk _ _ _ ⟨gj,iM,eK,fA,rfl,rfl,rfl,rfl,iP,lz,eL⟩)
    ·obtain⟨gj,gl,rfl,rfl,rfl,rfl,iP,ji⟩:=hP;refine pM (r:=r1) (xs:=((aY Z cs j).map (·.1))) (zs:=[(dk (aI Z c))]) (enc:=iu) (m:=32) (H0:=[(gl,.cells #[.int .i64 (j:Int)] 3 (0,0)),(gj,.cells (dg (aI Z c)) 34 (0,0)),(b6,.cells (dg (aI Z c)) 34 (0,0)),(b5,.cells (dI c) 99 (0,0)),(b3,m.obj rl Value.bool (kQ (aY Z cs j))),(b2,.cells #[.slice la cs.length lc,r1.val ((aY Z cs j).map (·.1)).length,r2.val ((aY Z cs j).map (·.2)).length] 92 (0,0))]) (H1:=r2.hp aj 3 ((aY Z cs j).map (·.2))++[]) rfl Aq RZ rfl rfl rfl rfl (dz.one (z:=(dk (aI Z c))) RZ nUk underlying41 (bL.own (i:=1) rfl)) fQ mr zX JK ?_;intro iM eK fA lz eL;exact OJ.done (hk _ _ _ ⟨gj,iM,eK,fA,gl,rfl,rfl,rfl,rfl,rfl,iP,lz,eL,ji⟩)
    ·exact aE
    ·exact aE
    exact aE
   refine nc rfl rfl rfl rfl ?_ ?_
   ·intro cv L' H' hl hr hP F Q' hk;obtain⟨x3,x4,x8,x9,rfl⟩:=pH hl;rcases x3 with _|v3<;>rcases x4 with _|v4<;>rcases x8 with _|v8<;>rcases x9 with _|v9<;>try exact False.elim hP
    ·obtain⟨rfl,rfl⟩:=hP;refine Co ?_;intro gl ha ho;exact OJ.done (hk _ _ _ ⟨gl,rfl,rfl,rfl,ha⟩)
    ·exact aE
    ·obtain⟨gj,rfl,rfl,rfl,iP⟩:=hP;refine Co ?_;intro gl ha ho;exact OJ.done (hk _ _ _ ⟨gj,gl,rfl,rfl,rfl,rfl,iP,ha⟩)
    ·exact aE
    ·obtain⟨gj,iM,eK,fA,rfl,rfl,rfl,rfl,iP,lz,eL⟩:=hP;refine Co ?_;intro gl ha ho;exact OJ.done (hk _ _ _ ⟨gj,iM,eK,fA,gl,rfl,rfl,rfl,rfl,rfl,iP,lz,eL,ha⟩)
    ·exact aE
    exact aE
   refine nc rfl rfl rfl rfl ?_ ?_
   ·intro cv L' H' hl hr hP F Q' hk;obtain⟨x3,x4,x8,x9,rfl⟩:=pH hl;rcases x3 with _|v3<;>rcases x4 with _|v4<;>rcases x8 with _|v8<;>rcases x9 with _|v9<;>try exact False.elim hP
    ·exact aE
    ·exact aE
    ·exact aE
    ·exact aE
    ·exact aE
    ·obtain⟨gj,iM,eK,fA,gl,rfl,rfl,rfl,rfl,rfl,iP,lz,eL,ji⟩:=hP;refine pM (r:=r2) (xs:=((aY Z cs j).map (·.2))) (zs:=[(j:Int)]) (enc:=aj) (m:=1) (H0:=[(gl,.cells #[.int .i64 (j:Int)] 3 (0,0)),(gj,.cells (dg (aI Z c)) 34 (0,0)),(b6,.cells (dg (aI Z c)) 34 (0,0)),(b5,.cells (dI c) 99 (0,0)),(b3,m.obj rl Value.bool (kQ (aY Z cs j))),(b2,.cells #[.slice la cs.length lc,r1.val ((aY Z cs j).map (·.1)).length,r2.val ((aY Z cs j).map (·.2)).length] 92 (0,0))]++(Rw.row iM eK fA).hp iu 34 (((aY Z cs j).map (·.1))++[(dk (aI Z c))])) (H1:=[]) rfl Hl nw rfl rfl rfl rfl (dz.one (z:=(j:Int)) nw Hm underlying44 (bL.own (i:=0) rfl)) iw gm zX JK ?_;intro uB oy p4 mv kA;exact OJ.done (hk _ _ _ ⟨gj,iM,eK,fA,gl,uB,oy,p4,rfl,rfl,rfl,rfl,rfl,rfl,iP,lz,eL,ji,mv,kA⟩)
    exact aE
   exact nn
  intro cv L' H' hl hr hP;obtain⟨x3,x4,x8,x9,rfl⟩:=pH hl;rcases x3 with _|v3<;>rcases x4 with _|v4<;>rcases x8 with _|v8<;>rcases x9 with _|v9
  ·exact aE
  ·exact aE
  ·exact aE
  ·exact aE
  ·exact aE
  ·exact aE
  ·exact aE
  ·exact aE
  ·exact aE
  ·exact aE
  ·exact aE
  ·exact aE
  ·exact aE
  ·exact aE
  ·exact aE
  obtain⟨gj,iM,eK,fA,gl,uB,oy,p4,rfl,rfl,rfl,rfl,rfl,rfl,iP,lz,eL,ji,mv,kA⟩:=hP;simp only[ad]at iP ji;refine kf (i:=5) rfl sizeOf41 rfl rfl rfl rfl (bj rfl) rfl ?_;refine B 1 ?_;refine kf (i:=5) rfl sizeOf44 rfl rfl rfl rfl (bj rfl) rfl ?_;refine B 4 ?_;refine rv rfl rfl rfl (aO (i:=2) rfl isAgg34 sizeOf34 rfl rfl) ?_;refine HW (i:=4) (k:=(dk (aI Z c))) (v:=true) rfl hm underlying139 Fe rfl rfl rfl rfl ?_;intro m2 aN;refine K0 ?_;refine Hp ?_;refine PJ.again (((Rw.row iM eK fA,Rw.row uB oy p4),m2),j+1) ⟨by dsimp only;omega,lz.elim (λh=>Rw.Fr_at mr h) (λh=>.inr h),by rw[VU hc uz,nYj];exact eL,mv.elim (λh=>Rw.Fr_at gm h) (λh=>.inr h),by rw[VU hc uz,n1j];exact kA,by rw[VU hc uz,<-nAm uz];exact aN⟩ dG zR (by rw[VU hc uz,nYj,n1j,<-nAm uz];rfl) rfl zX
 intro ah;refine B 6 ?_;have hpl:=NS Z cs j;have hje:j=cs.length:=by omega
 subst hje;refine B 2 ?_;refine bh (i:=1) rfl sizeOf92 rfl rfl rfl rfl rfl (by cases r1<;>cases r2<;>rfl) ?_;refine B 3 ?_;refine bH (.inl rfl) results22 (RS.wA (i:=1) rfl isAgg92 sizeOf92 rfl (bj rfl) RS.n) λW hS=>?_;have K7:r1.At iu 34 ((aY Z cs cs.length).map (·.1)) W:=by
  cases r1 with
  |nil=>trivial
  |row b cap sp=>exact hS.own (b,_) ud
 have K8:r2.At aj 3 ((aY Z cs cs.length).map (·.2)) W:=by
  cases r2 with
  |nil=>trivial
  |row b cap sp=>exact hS.own (b,_) ud
 obtain⟨a1,c1,tY,Ff⟩:=Rw.sl RZ fQ K7 (ao W.heap.size);obtain⟨a2,c2,yn,hs2⟩:=Rw.sl nw iw K8 (ao W.heap.size);refine⟨⟨a1,c1,a2,c2⟩,?_,?_,⟨Ff,hs2⟩,Rw.val_new kR tY,Rw.val_new dE yn⟩
 ·show Ending.returned (.agg #[.slice la cs.length lc,r1.val _,r2.val _])=_;rw[tY,yn];rfl
 exact(hS.links w A0).below (λk hk hx=>by rcases hx with hx|hx;(exact hx);simp only[cZ,eB,eP,dK,dH,gP,eh,iB,cQ,cI,fu,or_false]at hx;rcases hx with hx|hx|hx|hx;(omega);(omega);(have:=Rw.mem_ge kR hx;omega);(have:=Rw.mem_ge dE hx;omega))
structure CO {α:Type} (cf:α->α->Int):Prop where
 anti:∀x y,cf x y= -cf y x
 trans:∀x y z,cf x y<=0->cf y z<=0->cf x z<=0
theorem CO.swo{α:Type}{cf:α->α->Int}(h:CO cf):Go.Sort.SWO (Go.Proofs.ltOf cf):=by
 refine⟨λx=>?_,λx y z h1 h2=>?_,λx y z h1 h2=>?_⟩<;>simp only[Go.Proofs.ltOf,decide_eq_true_eq,decide_eq_false_iff_not]at*
 ·have:=h.anti x x;omega
 ·have a1:=h.anti x z;have a2:=h.anti y z;have a3:=h.anti z y;have a4:=h.anti x y
  have t1:=h.trans x y z zJ zJ;by_cases e:cf x z=0
  ·have t2:=h.trans z x y (by have:=h.anti z x;omega) zJ;have:=h.anti y z;omega
  omega
 have a1:=h.anti x y;have a2:=h.anti y z;have a3:=h.anti x z
 have:=h.trans z y x zJ zJ;omega
def vB {α:Type} (f g:α->α->Int) (x y:α):Int:=if f x y=0 then g x y else f x y
theorem CO.lt{α:Type}{cf:α->α->Int}(h:CO cf){x y z:α}(h1:cf x y<=0)(h2:cf y z<=0)(h3:cf x y≠0\/cf y z≠0):cf x z≠0:=by
 intro e;have a1:=h.anti x z;have a2:=h.anti y z;have a3:=h.anti x y
 rcases h3 with h3|h3
 ·have:=h.trans y z x h2 zJ;omega
 have:=h.trans z x y zJ h1;omega
theorem CO.lex{α:Type}{f g:α->α->Int}(hf:CO f)(hg:CO g):CO (vB f g):=by
 refine⟨λx y=>?_,λx y z h1 h2=>?_⟩
 ·have a:=hf.anti x y;have b:=hg.anti x y
  unfold vB;by_cases e:f x y=0
  ·rw[if_pos e,if_pos zJ];exact b
  rw[if_neg e,if_neg zJ];exact a
 have a:=hf.lt (x:=x) (y:=y) (z:=z);have t:=hf.trans x y z;have u:=hg.trans x y z
 unfold vB at *;by_cases e1:f x y=0<;>by_cases e2:f y z=0<;>simp only[e1,e2,if_true,if_false]at h1 h2
 ·have z0:f x z=0:=by
   have t1:=t zJ zJ;have t2:=hf.trans z y x (by have:=hf.anti z y;omega) (by have:=hf.anti y x;omega);have:=hf.anti x z;omega
  rw[if_pos z0];exact u h1 h2
 ·rw[if_neg (a zJ zJ (.inr e2))];exact t zJ zJ
 ·rw[if_neg (a zJ zJ (.inl e1))];exact t zJ zJ
 rw[if_neg (a zJ zJ (.inl e1))];exact t zJ zJ
theorem CO.key{α β:Type}{cf:β->β->Int}(h:CO cf)(k:α->β):CO λx y=>cf (k x) (k y):=⟨λx y=>h.anti _ _,λx y z=>h.trans _ _ _⟩
theorem CO.int:CO bZ:=by
 refine⟨λx y=>?_,λx y z h1 h2=>?_⟩
 ·unfold bZ;(repeat' split)<;>omega
 unfold bZ at *;(repeat' split)<;>simp_all<;>omega
theorem HX:∀(a b:List UInt8),Go.Lib.compareBytes a b=0->a=b
 | [],[],_=>rfl
 | [],_::_,h=>by simp[Go.Lib.compareBytes]at h
 |_::_,[],h=>by simp[Go.Lib.compareBytes]at h
 |x::a,y::b,h=>by
  unfold Go.Lib.compareBytes at h;by_cases h1:x<y
  ·simp[h1]at h
  by_cases h2:y<x
  ·simp[h1,h2]at h
  simp only[h1,h2,if_false]at h;have e:x=y:=UInt8.le_antisymm (UInt8.not_lt.1 h2) (UInt8.not_lt.1 h1);rw[e,HX a b h]
theorem VZ(x y:UInt8):x<y\/x=y\/y<x:=by
 by_cases h1:x<y
 ·exact .inl h1
 by_cases h2:y<x
 ·exact .inr (.inr h2)
 exact .inr (.inl (UInt8.le_antisymm (UInt8.not_lt.1 h2) (UInt8.not_lt.1 h1)))
theorem R5{x y:UInt8}(a b:List UInt8)(h:x<y):Go.Lib.compareBytes (x::a) (y::b)= -1:=by unfold Go.Lib.compareBytes;rw[if_pos h]
theorem R6{x y:UInt8}(a b:List UInt8)(h:y<x):Go.Lib.compareBytes (x::a) (y::b)=1:=by unfold Go.Lib.compareBytes;rw[if_neg (λk=>UInt8.lt_irrefl x (UInt8.lt_trans k h)),if_pos h]
theorem nWi(x:UInt8)(a b:List UInt8):Go.Lib.compareBytes (x::a) (x::b)=Go.Lib.compareBytes a b:=by conv=>lhs;unfold Go.Lib.compareBytes;rw[if_neg (UInt8.lt_irrefl x),if_neg (UInt8.lt_irrefl x)]
theorem n9m:∀a b:List UInt8,Go.Lib.compareBytes a b= -Go.Lib.compareBytes b a
 | [],[]=>rfl
 | [],_::_=>rfl
 |_::_,[]=>rfl
 |x::a,y::b=>by
  rcases VZ x y with h|rfl|h
  ·rw[R5 _ _ h,R6 _ _ h]
  ·rw[nWi,nWi];exact n9m a b
  rw[R6 _ _ h,R5 _ _ h];rfl
theorem nYk:∀a b c:List UInt8,Go.Lib.compareBytes a b<=0->Go.Lib.compareBytes b c<=0->Go.Lib.compareBytes a c<=0
 | [],_,[],_,_=>by decide
 | [],_,_::_,_,_=>by show(-1:Int)<=0;decide
 |_::_,[],_,h1,_=>absurd (show(1:Int)<=0 from h1) zO
 |_::_,_::_,[],_,h2=>absurd (show(1:Int)<=0 from h2) zO
 |x::a,y::b,z::c,h1,h2=>by
  rcases VZ x y with h|rfl|h
  ·rcases VZ y z with k|rfl|k
   ·rw[R5 _ _ (UInt8.lt_trans h k)];decide
   ·rw[R5 _ _ h];decide
   rw[R6 _ _ k]at h2;exact absurd h2 zO
  ·rcases VZ x z with k|rfl|k
   ·rw[R5 _ _ k];decide
   ·rw[nWi]at h1 h2 ⊢;exact nYk a b c h1 h2
   rw[R6 _ _ k]at h2;exact absurd h2 zO
  rw[R6 _ _ h]at h1;exact absurd h1 zO
theorem CO.bytes:CO Go.Lib.compareBytes:=⟨n9m,nYk⟩
def ky3 (x y:Int×Int×List UInt8):Int:=vB (λx y=>bZ x.1 y.1) (vB (λx y=>bZ x.2.1 y.2.1) (λx y=>Go.Lib.compareBytes x.2.2 y.2.2)) x y
theorem CO.ky3:CO ky3:=(CO.int.key (λx:Int×Int×List UInt8=>x.1)).lex ((CO.int.key (λx:Int×Int×List UInt8=>x.2.1)).lex (CO.bytes.key (λx:Int×Int×List UInt8=>x.2.2)))
theorem K9{x y:Int×Int×List UInt8}(h:ky3 x y=0):x.2.2=y.2.2:=by
 unfold Px.ky3 vB at h;split at h
 ·split at h
  ·exact HX _ _ h
  rename_i h1;exact absurd h h1
 rename_i h1;exact absurd h h1
theorem nXj{le:Nat->Nat->Bool}:∀{l l':List Nat},(∀a∈l,∀b∈l,le a b=true->le b a=true->a=b)->l.Pairwise (λa b=>le a b=true)->l'.Pairwise (λa b=>le a b=true)->l.Perm l'->l=l'
 | [],l',_,_,_,hp=>(List.nil_perm.1 hp).symm▸rfl
 |a::l,[],_,_,_,hp=>absurd hp.length_eq zX
 |a::l,b::l',ha,h1,h2,hp=>by
  have pb:a=b:=by
   have m1:a∈b::l':=hp.mem_iff.1 A0;have m2:b∈a::l:=hp.mem_iff.2 A0;rcases cI.1 m1 with e|m1
   ·exact e
   rcases cI.1 m2 with e|m2'
   ·exact e.symm
   exact ha a A0 b m2 ((List.pairwise_cons.1 h1).1 b m2') ((List.pairwise_cons.1 h2).1 a m1)
  subst pb;have rN:=hp.cons_inv;rw[nXj (λx hx y hy=>ha x (.tail _ hx) y (.tail _ hy)) (List.pairwise_cons.1 h1).2 (List.pairwise_cons.1 h2).2 rN]
section
open Go.Proofs Go.Shelf Go.Lib Go.Sort
theorem R7(x y:Cd)(W:World):Calls prog 227 #[.agg (lI x).toArray,.agg (lI y).toArray] W λe w'=>e= .returned (.int .i64 (bZ x.since y.since))/\∃q zF,w'=grow (W.drewN q) zF:=by
 have jM:=λW'=>uq x.since y.since W';generalize bZ x.since y.since=r at jM ⊢;unfold lI
 go_enter func227,ntmps227
 go_wp2_with (go_at_call 125;refine(jM _).mono ?_;rintro e w' ⟨rfl,rfl⟩)
 go_ret
 exact VE
theorem R8(x y:Cd)(W:World):Calls prog 228 #[.agg (lI x).toArray,.agg (lI y).toArray] W λe w'=>e= .returned (.int .i64 (bZ x.c.author y.c.author))/\∃q zF,w'=grow (W.drewN q) zF:=by
 have jM:=λW'=>uq x.c.author y.c.author W';generalize bZ x.c.author y.c.author=r at jM ⊢;unfold lI
 go_enter func228,ntmps228
 go_wp2_with (go_at_call 125;refine(jM _).mono ?_;rintro e w' ⟨rfl,rfl⟩)
 go_ret
 exact VE
end
theorem nNg{P:Program}{W:World}{b:Nat}:∀(zs:List Int) (off:Nat) (acc:List UInt8),(∀(i:Nat) (h:i<zs.length),W.cell? ⟨b,off+i,none⟩=some (.int .u8 zs[i]))->(Extern.Bytes.loadBytes ⟨b,off,none⟩ zs.length ⟨acc.toArray⟩).run P W= .ok ⟨(acc++zs.map λz=>z.toNat.toUInt8).toArray⟩ W
 | [],off,acc,_=>by simp[Extern.Bytes.loadBytes]
 |z::zs,off,acc,h=>by
  have h0:W.cell? ⟨b,off,none⟩=some (.int .u8 z):=h 0 zX;have ih:=nNg (P:=P) (W:=W) (b:=b) zs (off+1) (acc++[z.toNat.toUInt8]) (λi hi=>by
   have:=h (i+1) HY;rw[show off+1+i=off+(i+1) by omega];simpa using this)
  have e:(ByteArray.mk acc.toArray).push z.toNat.toUInt8=⟨(acc++[z.toNat.toUInt8]).toArray⟩:=by simp[ByteArray.push]
  have ha:(⟨b,off,none⟩:Addr).add 1=⟨b,off+1,none⟩:=rfl;simp only[dQ,Extern.Bytes.loadBytes,Sem.run_bind];rw[show(load ⟨b,off,none⟩:Sem Value).run P W= .ok (.int .u8 z) W by simp[load,Sem.run,h0]];simp only[Result.andThen,e,ha];rw[ih];simp
section
open Go.Lib Go.Sort
theorem Au{P:Program}{b1 o1 c1 b2 o2 c2:Nat}{xs ys:List Int}(h1:∀(i:Nat) (h:i<xs.length),W.cell? ⟨b1,o1+i,none⟩=some (.int .u8 xs[i]))(h2:∀(i:Nat) (h:i<ys.length),W.cell? ⟨b2,o2+i,none⟩=some (.int .u8 ys[i])):(Extern.BytealgCompare.compare #[.slice (some ⟨b1,o1,none⟩) xs.length c1,.slice (some ⟨b2,o2,none⟩) ys.length c2]).run P W= .ok (.int .i64 (compareBytes (xs.map λz=>z.toNat.toUInt8) (ys.map λz=>z.toNat.toUInt8))) W:=by
 change Sem.run P (do pure (goInt (Extern.BytealgCompare.cmp (<-Extern.Bytes.bytesOf (.slice (some ⟨b1,o1,none⟩) xs.length c1)) (<-Extern.Bytes.bytesOf (.slice (some ⟨b2,o2,none⟩) ys.length c2))))) W=_;have e1:=nNg (P:=P) (W:=W) xs o1 [] h1;have e2:=nNg (P:=P) (W:=W) ys o2 [] h2;simp only[Extern.Bytes.bytesOf,Sem.run_bind,Sem.run_pure,Result.andThen];rw[show ByteArray.empty=⟨(#[]:Array UInt8)⟩from rfl,e1];simp only[dK];rw[e2];simp only[dK];rw[cmp_eq];rfl
theorem n9i{b1 o1 c1 b2 o2 c2:Nat}{xs ys:List Int}(h1:∀(i:Nat) (h:i<xs.length),W.cell? ⟨b1,o1+i,none⟩=some (.int .u8 xs[i]))(h2:∀(i:Nat) (h:i<ys.length),W.cell? ⟨b2,o2+i,none⟩=some (.int .u8 ys[i])):Calls prog 230 #[.slice (some ⟨b1,o1,none⟩) xs.length c1,.slice (some ⟨b2,o2,none⟩) ys.length c2] W λe w'=>e= .returned (.int .i64 (compareBytes (xs.map λz=>z.toNat.toUInt8) (ys.map λz=>z.toNat.toUInt8)))/\w'=W:=by
 have hr:=Au (P:=prog) (c1:=c1) (c2:=c2) h1 h2;clear h1 h2
 go_enter func230,ntmps230
 go_wp2
 rw[run_callFunc_extern func282 zQ zQ zQ (e:=Extern.BytealgCompare.compare) zQ,hr];simp only[Result.andThen];rw[Oper.upon_value]
 go_wp2
 go_ret
 exact⟨rfl,rfl⟩
theorem R9{o2:Obj}{X:Array Value}{t:Nat}(q:Nat)(h:X[k]? =some v):(((W.alloc (.cells X t)).alloc o2).drewN q).cell? ⟨W.heap.size,k,none⟩=some v:=by
 rw[alloc_eq_grow,alloc_eq_grow,grow_grow];have:(W.heap++(#[.cells X t]++#[o2]))[W.heap.size]? =some (.cells X t):=by rw[Array.getElem?_append_right (ao _)];simp
 simp only[World.cell?,World.drewN,grow,this];exact h
theorem Sa{o1:Obj}{Y:Array Value}{t:Nat}(q:Nat)(h:Y[k]? =some v):(((W.alloc o1).alloc (.cells Y t)).drewN q).cell? ⟨W.heap.size+1,k,none⟩=some v:=by
 rw[alloc_eq_grow,alloc_eq_grow,grow_grow];have:(W.heap++(#[o1]++#[.cells Y t]))[W.heap.size+1]? =some (.cells Y t):=by rw[Array.getElem?_append_right zJ];simp
 simp only[World.cell?,World.drewN,grow,this];exact h
theorem Sb(X Y:Array Value)(xs ys:List Int)(hx:xs.length=32)(hy:ys.length=32)(hX:∀(i:Nat) (h:i<xs.length),X[74+i]? =some (.int .u8 xs[i]))(hY:∀(i:Nat) (h:i<ys.length),Y[74+i]? =some (.int .u8 ys[i]))(W:World):Calls prog 229 #[.agg X,.agg Y] W λe w'=>e= .returned (.int .i64 (compareBytes (xs.map λz=>z.toNat.toUInt8) (ys.map λz=>z.toNat.toUInt8)))/\∃q zF,w'=grow (W.drewN q) zF:=by
 have jM:∀q,Calls prog 230 #[.slice (some ⟨W.heap.size,74,none⟩) 32 32,.slice (some ⟨W.heap.size+1,74,none⟩) 32 32] (((W.alloc (.cells X 101)).alloc (.cells Y 101)).drewN q) λe w'=>e= .returned (.int .i64 (compareBytes (xs.map λz=>z.toNat.toUInt8) (ys.map λz=>z.toNat.toUInt8)))/\w'=((W.alloc (.cells X 101)).alloc (.cells Y 101)).drewN q:=by
  intro q;have:=n9i (W:=((W.alloc (.cells X 101)).alloc (.cells Y 101)).drewN q) (b1:=W.heap.size) (o1:=74) (c1:=32) (b2:=W.heap.size+1) (o2:=74) (c2:=32) (xs:=xs) (ys:=ys) (λi h=>R9 _ (by simp[hX i h])) (λi h=>Sa _ (by simp[hY i h]));rw[hx,hy]at this;exact this
 generalize compareBytes (xs.map λz=>z.toNat.toUInt8) (ys.map λz=>z.toNat.toUInt8)=c at jM ⊢;clear hX hY
 go_enter func229,ntmps229
 go_wp2
 go_region_with (go_at_call 230;refine(jM _).mono ?_;rintro e w' ⟨rfl,rfl⟩)
 go_wp2
 go_ret
 exact⟨rfl,_,_,by rw[alloc_eq_grow,alloc_eq_grow,grow_grow];rfl⟩
end
theorem Aw(f:Nat->Int):((dk f).1.map λz=>z.toNat.toUInt8)=dc f:=rfl
theorem Sd(x y:Cd)(W:World):Calls prog 229 #[.agg (dw x),.agg (dw y)] W λe w'=>e= .returned (.int .i64 (Go.Lib.compareBytes (dc x.id) (dc y.id)))/\Gz W w':=by
 rw[<-Aw,<-Aw];have key:∀(z:Cd) (i:Nat) (h:i<(dk z.id).1.length),(dw z)[74+i]? =some (.int .u8 (dk z.id).1[i]):=by
  intro z i h;have h2:i<32:=by rw[(dk z.id).2]at h;exact h
  have e1:((dk z.id).1.map (Value.int .u8))[i]? =some (.int .u8 ((dk z.id).1[i]'h)):=by rw[qp,gB h];rfl
  have e2:(dg z.id)[i]? =((dk z.id).1.map (Value.int .u8))[i]? :=by rw[<-E8,B7];rfl
  exact(th (k:=74) (n:=32) (r:=dg z.id) rfl i h2).trans (e2.trans e1)
 exact Sb (dw x) (dw y) (dk x.id).1 (dk y.id).1 (dk x.id).2 (dk y.id).2 (key x) (key y) W
def V3:Nat->Nat
 |0=>227
 |1=>228
 |_=>229
def La (w:World) (b:Nat):Prop:=∃b',w.heap[b]? =some (.cells #[.slice (some ⟨b',0,none⟩) 3 3] 372 (0,0))/\w.heap[b']? =some (.cells #[.func (.func 227) #[] #[],.func (.func 228) #[] #[],.func (.func 229) #[] #[]] 257 (0,0))
theorem Lb(j:Nat)(h:j<3):(#[Value.func (.func 227) #[] #[],.func (.func 228) #[] #[],.func (.func 229) #[] #[]]:Array Value)[0+((j:Int)).toNat*1]? =some (.func (.func (V3 j)) #[] #[]):=by
 match j,h with
 |0,_=>rfl
 |1,_=>rfl
 |2,_=>rfl
theorem Fg(j:Nat)(h:j<3):dP prog (V3 j):=by
 match j,h with
 |0,_=>exact call227
 |1,_=>exact call228
 |2,_=>exact call229
def vC (x y:Cd):Nat->Int
 |0=>bZ x.since y.since
 |1=>bZ x.c.author y.c.author
 |_=>Go.Lib.compareBytes (dc x.id) (dc y.id)
theorem Se(x y:Cd)(j:Nat)(h:j<3)(W:World):Calls prog (V3 j) #[.agg (dw x),.agg (dw y)] W λe w'=>e= .returned (.int .i64 (vC x y j))/\Gz W w':=by
 match j,h with
 |0,_=>exact R7 x y W
 |1,_=>exact R8 x y W
 |2,_=>exact Sd x y W
def kyD (d:Cd):Int×Int×List UInt8:=(d.since,d.c.author,dc d.id)
def rkI (x y:Cd):Int:=if bZ x.since y.since=0 then(if bZ x.c.author y.c.author=0 then Go.Lib.compareBytes (dc x.id) (dc y.id)else bZ x.c.author y.c.author)else bZ x.since y.since
theorem Lc{x y:Cd}(h:∀i,i<j->vC x y i=0)(hj:j<3)(hn:¬vC x y j=0):vC x y j=rkI x y:=by
 have h0:=h 0;have h1:=h 1
 unfold rkI;simp only[vC]at h0 h1
 match j,hj with
 |0,_=>simp only[vC]at hn ⊢;rw[if_neg hn]
 |1,_=>simp only[vC]at hn ⊢;rw[if_pos (h0 zJ),if_neg hn]
 |2,_=>simp only[vC]at hn ⊢;rw[if_pos (h0 zJ),if_pos (h1 zJ)]
theorem Fh{x y:Cd}(h:∀i,i<3->vC x y i=0):0=rkI x y:=by
 have h0:=h 0 zJ;have h1:=h 1 zJ;have h2:=h 2 zJ
 simp only[vC]at h0 h1 h2;unfold rkI;rw[if_pos h0,if_pos h1,h2]
theorem abB(x y:Cd)(b:Nat)(w:World)(hr:La w b):Calls prog 281 #[.agg (dw x),.agg (dw y),ptr b 0] w λe w'=>e= .returned (.int .i64 (rkI x y))/\Gz w w':=by
 obtain⟨b2,hb,aU⟩:=hr;refine Ld (vs:=[_,_,_]) func281 rfl ntmps281 rfl ?_;refine HZ ?_;refine Sf rfl rfl rfl (λW0 h0=>?_);refine Sf rfl rfl rfl (λW1 h1=>?_);obtain⟨W2,h2⟩:∃W2,W2=W1.alloc (.cells (dw y) 101 (0,0)):=⟨_,rfl⟩;have gb:Gz w W1:=by rw[h1,h0];exact Gz.alloc _ _
 have dY:Gz w W2:=by rw[h2];exact gb.trans (Gz.alloc _ _)
 have ox:W2.heap[W1.heap.size]? =some (.cells (dw y) 101 (0,0)):=by rw[h2];exact heap_alloc_new _ _
 have V4:W2.heap[W0.heap.size]? =some (.cells (dw x) 101 (0,0)):=by
  have e:W1.heap[W0.heap.size]? =some (.cells (dw x) 101 (0,0)):=by rw[h1];exact heap_alloc_new _ _
  rw[h2,(Sg W1 _).block _ (aT.1 e).1];exact e
 have bV:∀{W:World},Gz W2 W->St Gh.no [W2,w] [] W:=λ{W} h=>Sh (by
  intro v hv;simp only[cI,fu,or_false]at hv;rcases hv with rfl|rfl
  ·exact h.below
  exact(dY.trans h).below)
 refine oA (L:=[W2,w]) (λW e=>by rw[e];have:=bV (Gz.refl W2);rw[h2]at this ⊢;exact this) rfl rfl rfl (jz rfl) ?_;refine CF ?_;refine CX.seq ?_;refine HZ ?_;refine oA (L:=[W2,w]) (λW e=>by rw[e];have:=bV (Gz.refl W2);rw[h2]at this ⊢;exact this) rfl rfl rfl (aa (v:=.slice (some ⟨b2,0,none⟩) 3 3) isAgg372 rfl A1 hb zU trivial rfl) ?_;refine oA (L:=[W2,w]) (λW e=>by rw[e];have:=bV (Gz.refl W2);rw[h2]at this ⊢;exact this) rfl rfl rfl (ib underlying372 rfl) ?_;refine oA (L:=[W2,w]) (λW e=>by rw[e];have:=bV (Gz.refl W2);rw[h2]at this ⊢;exact this) rfl rfl rfl (fW rfl) ?_;refine CF ?_;refine CX.block ?_;refine CX.loop (α:=Nat×World) (λp=>[(2,ptr b 0),(3,ptr W0.heap.size 0),(4,ptr W1.heap.size 0),(9,.slice (some ⟨b2,0,none⟩) 3 3),(10,.int .i64 3),(11,.int .i64 (p.1:Int))]) (λp=>(· =p.2)) (λp=>p.1<=3/\(∀i,i<p.1->vC x y i=0)/\Gz W2 p.2) (λp=>3-p.1) (0,W2) ⟨by omega,λi h=>absurd h zJ,Gz.refl _⟩ zR (λW e=>e.trans h2.symm) ?_;rintro⟨j,W⟩ ⟨hj,hz,hg⟩;dsimp only at hj hz hg ⊢;have hT:∀W',W'=W->St Gh.no [W2,w] [] W':=λW' e=>by rw[e];exact bV hg
 refine HZ ?_;by_cases ah:j<3
 ·refine oA hT rfl rfl rfl (RV.re (v':=.bool true) (me rfl rfl) (vb (decide_eq_true zJ))) ?_;refine CF ?_;refine CX.seq ?_;refine CX.condT rfl ?_;refine CX.skip ?_;refine PX.next ?_;refine CX.seq ?_;refine CX.block ?_;refine HZ ?_;refine oA hT rfl rfl rfl (cD underlying372 sizeOf257 rfl rfl zJ zJ) ?_;refine oA hT rfl rfl rfl (aa (v:=.func (.func (V3 j)) #[] #[]) isAgg257 rfl A1 aU zU trivial (Lb j ah)) ?_;refine oA hT rfl rfl rfl (jz rfl) ?_;refine CF ?_;refine HZ ?_;refine oA hT rfl rfl rfl (fW rfl) ?_;refine oA hT rfl rfl rfl (ae isAgg101 sizeOf101 rfl A0 V4 zU trivial rfl) ?_;refine oA hT rfl rfl rfl (ae isAgg101 sizeOf101 rfl A0 ox zU trivial rfl) ?_;refine Le (first:=[]) (cap:=[]) (v:=.int .i64 (vC x y j)) (T':=Gz W) rfl (Fg j ah) rfl rfl rfl (λW' e=>by rw[e];exact Se x y j ah W) ?_;refine OX.fix (λW3 hg3=>?_);have eE:=hg.trans hg3;have H2:∀W',W'=W3->St Gh.no [W2,w] [] W':=λW' e=>by rw[e];exact bV eE
  refine oA H2 rfl rfl rfl (jz rfl) ?_;refine CF ?_;refine HZ ?_;refine oA H2 rfl rfl rfl (fW rfl) ?_;by_cases aJ:vC x y j=0
  ·refine oA H2 rfl rfl rfl (RV.re (v':=.bool false) (cq rfl rfl) (vb (by simp[aJ]))) ?_;refine CF ?_;refine CX.condF rfl ?_;refine CX.skip ?_;refine PX.norBlock ?_;refine PX.next ?_;refine CX.region ?_;refine oA H2 rfl rfl rfl (pE rfl rfl zJ zJ) ?_;refine oA H2 rfl rfl rfl (fW rfl) ?_;refine OX.done ?_;exact PX.again (j+1,W3) ⟨by dsimp only;omega,λi hi=>by dsimp only at hi;by_cases e:i=j;(rw[e];exact aJ);exact hz i zJ,eE⟩ dG zR (λW' e=>e)
  refine oA H2 rfl rfl rfl (RV.re (v':=.bool true) (cq rfl rfl) (vb (by simp[aJ]))) ?_;refine CF ?_;refine CX.condT rfl ?_;refine HZ ?_;refine oA H2 rfl rfl rfl (fW rfl) ?_;refine oA H2 rfl rfl rfl (jz rfl) ?_;refine CF ?_;refine CX.ret ?_;refine PX.retBlock ?_;refine PX.retThen ?_;refine PX.retThen ?_;refine PX.retBlock ?_;refine PX.retThen ?_;exact H3 (.inl rfl) results281 rfl (λW' e=>⟨congrArg (λn=>Ending.returned (.int .i64 n)) (Lc hz ah aJ),by rw[e];exact dY.trans eE⟩)
 refine oA hT rfl rfl rfl (RV.re (v':=.bool false) (me rfl rfl) (vb (decide_eq_false zJ))) ?_;refine CF ?_;refine CX.seq ?_;refine CX.condF rfl ?_;refine CX.exit ?_;refine PX.exThen ?_;refine PX.exThen ?_;refine PX.exHit ?_;refine PX.next ?_;refine HZ ?_;refine oA hT rfl rfl rfl (jz rfl) ?_;refine CF ?_;refine CX.ret ?_;exact H3 (.inl rfl) results281 rfl (λW' e=>⟨congrArg (λn=>Ending.returned (.int .i64 n)) (Fh (λi hi=>hz i zJ)),by rw[e];exact dY.trans hg⟩)
theorem CO.rkI:CO rkI:=CO.ky3.key kyD
def oB (d:Cd):Nat:=d.at_.toNat
structure mw (Z:Fx) (cs:List Cm) (g:Gp) (d:Cd):Prop where
 nn:0<=d.at_
 at_:cs[oB d]? =some d.c
 id:d.id=aI Z d.c
 since:d.since=ux g.ms d.c.author
 x:d.x.g=Ai Z g d.c
 ok:kP Z g d.c=0
noncomputable def CG (Z:Fx) (cs:List Cm) (g:Gp) (i:Nat):Bool:=match cs[i]? with|some c=>jS c.par g.last&&decide (kP Z g c=0)|none=>false
noncomputable def tk (Z:Fx) (cs:List Cm) (g:Gp) (k:Nat):List Nat:=(((aY Z cs cs.length).take k).map λp=>p.2.toNat).filter (CG Z cs g)
theorem Fi{cs:List Cm}{q:Dk×Int}(hq:(aY Z cs cs.length)[k]? =some q)(hi:q.2=(i:Int))(h:CG Z cs g i=true):tk Z cs g (k+1)=tk Z cs g k++[i]:=by
 unfold tk;rw[nC hq,gP,List.filter_append];simp[hi,h]
theorem Ax{cs:List Cm}{q:Dk×Int}(hq:(aY Z cs cs.length)[k]? =some q)(hi:q.2=(i:Int))(h:CG Z cs g i=false):tk Z cs g (k+1)=tk Z cs g k:=by
 unfold tk;rw[nC hq,gP,List.filter_append];simp[hi,h]
theorem Fj{cs:List Cm}{c:Cm}(hc:cs[i]? =some c)(h:¬jS c.par g.last=true):CG Z cs g i=false:=by simp[CG,hc,h]
theorem Fk{cs:List Cm}{c:Cm}(hc:cs[i]? =some c)(h:¬kP Z g c=0):CG Z cs g i=false:=by simp[CG,hc,h]
theorem Fl{cs:List Cm}{c:Cm}(hc:cs[i]? =some c)(h:jS c.par g.last=true)(h2:kP Z g c=0):CG Z cs g i=true:=by simp[CG,hc,h,h2]
theorem non{cs:List Cm}(h:i∈tk Z cs g k):∃c,cs[i]? =some c/\(dk (aI Z c),(i:Int))∈(aY Z cs cs.length):=by
 obtain⟨h1,_⟩:=sP.1 h;obtain⟨p,hp,rfl⟩:=bW.1 h1;have rN:=List.mem_of_mem_take hp;obtain⟨j,c,e1,e2,e3,e4⟩:=VV Z cs _ p rN;refine⟨c,by rw[e1];exact e3,?_⟩;have e:p=(dk (aI Z c),((p.2.toNat:Nat):Int)):=by
  obtain⟨p1,p2⟩:=p;simp only at e1 e4 ⊢;rw[e4,e1];rfl
 rw[<-e];exact rN
noncomputable def Ay (Z:Fx) (cs:List Cm) (g:Gp) (i:Nat):Int×Int×List UInt8:=match cs[i]? with|some c=>(ux g.ms c.author,c.author,dc (aI Z c))|none=>(0,0,[])
theorem mw.key{cs:List Cm}{d:Cd}(h:mw Z cs g d):kyD d=Ay Z cs g (oB d):=by simp only[kyD,Ay,h.at_,h.since,h.id]
noncomputable def H4 (Z:Fx) (cs:List Cm) (g:Gp) (i j:Nat):Bool:=decide (ky3 (Ay Z cs g i) (Ay Z cs g j)<=0)
noncomputable def H5 (Z:Fx) (cs:List Cm) (g:Gp):List Nat:=(tk Z cs g (aY Z cs cs.length).length).mergeSort (H4 Z cs g)
theorem Fm{f g:Nat->Int}(hf:iJ f)(hg:iJ g)(h:dc f=dc g):dk f=dk g:=by
 have key:∀i,i<32->f i=g i:=by
  intro i hi;have h1:=UC f hf i hi;have h2:=UC g hg i hi;rw[<-h1,<-h2,h]
 unfold dk;congr 1;rw[key 0 zO,key 1 zO,key 2 zO,key 3 zO,key 4 zO,key 5 zO,key 6 zO,key 7 zO,key 8 zO,key 9 zO,key 10 zO,key 11 zO,key 12 zO,key 13 zO,key 14 zO,key 15 zO,key 16 zO,key 17 zO,key 18 zO,key 19 zO,key 20 zO,key 21 zO,key 22 zO,key 23 zO,key 24 zO,key 25 zO,key 26 zO,key 27 zO,key 28 zO,key 29 zO,key 30 zO,key 31 zO]
theorem Fp(hZ:FxOk Z){cs:List Cm}:∀a∈tk Z cs g k,∀b∈tk Z cs g k,H4 Z cs g a b=true->H4 Z cs g b a=true->a=b:=by
 intro a ha b hb h1 h2;obtain⟨c,hc,hm⟩:=non ha;obtain⟨c2,aJ,aN⟩:=non hb;simp only[H4,decide_eq_true_eq]at h1 h2;have h3:=CO.ky3.anti (Ay Z cs g a) (Ay Z cs g b);have h4:=K9 (x:=Ay Z cs g a) (y:=Ay Z cs g b) zJ;simp only[Ay,hc,aJ]at h4;have h5:dk (aI Z c)=dk (aI Z c2):=Fm (hZ.byt _ _) (hZ.byt _ _) h4;have nd:=nSj Z cs cs.length;obtain⟨i,hi⟩:=ju.1 hm;obtain⟨j,hj⟩:=ju.1 aN;have rO:=nE hi;have B4:=nE hj;have vo:i=j:=by
  have e1:((aY Z cs cs.length).map (·.1))[i]? =some (dk (aI Z c)):=by rw[qp,hi];rfl
  have e2:((aY Z cs cs.length).map (·.1))[j]? =some (dk (aI Z c)):=by rw[qp,hj,h5];rfl
  exact(List.getElem?_inj (by rw[fp];exact rO) nd).1 (e1.trans e2.symm)
 subst vo;rw[hi]at hj;have:=(Prod.mk.inj (Option.some.inj hj)).2;omega
instance:Inhabited Cd:=⟨⟨0,⟨0,0,λ_=>0,0,[],none,0,[],none,0,[],none,0,[],none,0,λ_=>0,0,0⟩,λ_=>0,0,jV⟩⟩
theorem nqo{α:Type}[Inhabited α]{cf:α->α->Int}(h:CO cf)(xs:List α):(fP cf xs).Pairwise (λa b=>cf a b<=0):=by
 have hs:=(Go.Sort.pdq_sorts (Go.Proofs.ltOf cf) h.swo xs.toArray 0 xs.toArray.size (Go.Lib.bitLen xs.toArray.size) true true (db _) (ao _) (Or.inl rfl)).2;have hl:(fP cf xs).length=xs.toArray.size:=by rw[KS h.swo];simp
 rw[List.pairwise_iff_getElem];intro i j hi hj vo;have h2:=hs i j (db _) vo zJ;simp only[Go.Proofs.ltOf,decide_eq_false_iff_not]at h2;have e:∀k (hk:k<(fP cf xs).length),(Go.Sort.pdq (Go.Proofs.ltOf cf) xs.toArray 0 xs.toArray.size (Go.Lib.bitLen xs.toArray.size) true true)[k]! =(fP cf xs)[k]:=by
  intro k hk;unfold fP at hk ⊢;rw[Array.length_toList]at hk;rw[Array.getElem_toList];exact getElem!_pos (Go.Sort.pdq (Go.Proofs.ltOf cf) xs.toArray 0 xs.toArray.size (Go.Lib.bitLen xs.toArray.size) true true) k hk
 rw[e i hi,e j hj]at h2;have:=h.anti ((fP cf xs)[i]) ((fP cf xs)[j]);omega
theorem Fq(hZ:FxOk Z){cs:List Cm}{ds:List Cd}(hm:ds.map oB=tk Z cs g (aY Z cs cs.length).length)(hd:∀d∈ds,mw Z cs g d):(fP rkI ds).map oB=H5 Z cs g:=by
 have hp:(fP rkI ds).Perm ds:=nUg CO.rkI.swo ds;have wF:((fP rkI ds).map oB).Perm (tk Z cs g (aY Z cs cs.length).length):=hm▸hp.map oB;have rN:(H5 Z cs g).Perm (tk Z cs g (aY Z cs cs.length).length):=List.mergeSort_perm _ _;refine nXj (le:=H4 Z cs g) (λa ha b hb=>Fp hZ a (wF.mem_iff.1 ha) b (wF.mem_iff.1 hb)) ?_ ?_ (wF.trans rN.symm)
 ·rw[List.pairwise_map];refine(nqo CO.rkI ds).imp_of_mem ?_;intro a b ha hb h;have h1:=(hd a (hp.mem_iff.1 ha)).key;have h2:=(hd b (hp.mem_iff.1 hb)).key;simp only[H4,decide_eq_true_eq,<-h1,<-h2];exact h
 refine List.pairwise_mergeSort (λa b c h1 h2=>?_) (λa b=>?_) _
 ·simp only[H4,decide_eq_true_eq]at *;exact CO.ky3.trans _ _ _ h1 h2
 have:=CO.ky3.anti (Ay Z cs g a) (Ay Z cs g b);simp only[H4,Bool.or_eq_true,decide_eq_true_eq];omega
structure CH (F:ab) (x:Gv):Prop where
 ms:CI mJ 3 F x.ma x.g.ms
 ns:CI fF 2 F x.na x.g.ns
 mn:x.g.ms.length<=10000
 nn:x.g.ns.length<=80000
theorem CH.mono{F':ab}{x:Gv}(h:CH F x)(hF:∀p∈F,p∈F'):CH F' x:=⟨h.ms.mono hF,h.ns.mono hF,h.mn,h.nn⟩
theorem CH.lies{x:Gv}(h:CH F x)(hW:∀p∈F,p.1<N/\W.heap[p.1]? =some p.2):aL N W x:=⟨h.ms.at hW,h.ns.at hW,h.mn,h.nn⟩
def aS (K:Nat) (x:Gv):Prop:=(∀q,x.ma=some q->x.g.ms=[]\/K<=q.block)/\(∀q,x.na=some q->x.g.ns=[]\/K<=q.block)
theorem CH.new{x:Gv}{K:Nat}(h:CH F x)(hF:∀p∈F,K<=p.1):aS K x:=⟨h.ms.ge hF,h.ns.ge hF⟩
theorem nek(hZ:FxOk Z)(G:Gv)(c:Cm)(dt:cx c)(N:Nat)(w:World)(hN:N<=w.heap.size)(hG:aL N w G)(hC:dB N w c)(hg:Glb w):Calls prog 101 #[.agg (bC G),.agg (dI c)] w (λe w'=>∃(X:Gv) (F':ab),e= .returned (.tuple #[.agg (bC X),.int .i64 (kP Z G.g c)])/\Below w.heap.size w w'/\(∀p∈F',w.heap.size<=p.1/\w'.heap[p.1]? =some p.2)/\X.g=rM Z G.g c/\CH F' X):=by
 refine(nMe hZ G c dt N w hN hG hC hg).mono ?_;rintro e w' ⟨X,rfl,hb,hg9,fJ,tM,IU⟩;obtain⟨F1,hF1,Ff⟩:=fJ.ms.fs tM;obtain⟨F2,V5,hs2⟩:=fJ.ns.fs IU;refine⟨X,F1++F2,rfl,hb,λp hp=>(cQ.1 hp).elim (hF1 p) (V5 p),hg9,Ff.mono (λp hp=>cQ.2 (.inl hp)),hs2.mono (λp hp=>cQ.2 (.inr hp)),fJ.mn,fJ.nn⟩
theorem Lf{xs:List Cd}(hl:xs.length<=1000000){cap:Nat}(bN:(Rw.row b cap sp).Fit 143 xs)(h:W.heap[b]? =some (ck lI 101 xs sp))(bk:Nat)(Lg:∀w:World,aF (· =b) W w->La w bk):Calls prog 164 #[.slice (some ⟨b,0,none⟩) xs.length cap,.func (.func 281) #[] #[ptr bk 0]] W (λe w'=>∃bG,e= .returned ((λ_=>.tuple #[]) (Rw.row b cap bG))/\aF (· =b) W w'/\(Rw.row b cap bG).Fit 143 (fP rkI xs)/\w'.heap[b]? =some (ck lI 101 (fP rkI xs) bG)):=by
 have Hy:∀ys:List Cd,ys.length=xs.length->∀(m:Nat) (os:Array Obj),aF (· =b) W (Go.Proofs.sortWorldK lI 143 W b 0 m ys.toArray os):=λys hy m os=>(ur (n:=m) (os:=os) CE h (ys:=ys) hy).1;have hc:=Go.Proofs.AnyQ.slices_SortFunc_eq Go.Proofs.Tryz.laySC 143 isAgg101 sizeOf101 lI CE nPi rkI CO.rkI.swo 281 #[ptr bk 0] b 0 cap xs.toArray W (Go.Proofs.enters_of func281 zQ rfl) (λm os dk hd x y=>abB x y bk _ (Lg _ (by have:=Hy dk.toList (by rw[Array.length_toList,hd];simp) m os;simpa using this))) (nKl CE h) (aT.1 h).1 jB;change Calls prog 164 _ _ _ at hc;refine hc.mono ?_;rintro e w' ⟨rfl,n,os,rfl⟩;have hp:=ur (n:=n) (os:=os) CE h (ys:=fP rkI xs) (KS CO.rkI.swo xs);exact⟨sp,rfl,hp.1,by simp only[Rw.Fit,KS CO.rkI.swo];exact bN,hp.2⟩
def tr (w:World) (b N:Nat):Prop:=N<=b/\∃b',N<=b'/\w.heap[b]? =some (.cells #[.slice (some ⟨b',0,none⟩) 3 3] 372 (0,0))/\w.heap[b']? =some (.cells #[.func (.func 227) #[] #[],.func (.func 228) #[] #[],.func (.func 229) #[] #[]] 257 (0,0))
theorem tr.keep{w:World}{X:Nat->Prop}(h:tr w b N)(hk:aF X w W)(hX:∀k,X k->k<N):tr W b N:=by
 obtain⟨h0,b',ef,h1,h2⟩:=h;have l1:=(aT.1 h1).1;have l2:=(aT.1 h2).1;refine⟨h0,b',ef,?_,?_⟩
 ·rw[hk.block b l1 (λhx=>by have:=hX _ hx;omega)];exact h1
 rw[hk.block b' l2 (λhx=>by have:=hX _ hx;omega)];exact h2
theorem tr.at{w:World}(h:tr w b N):La w b:=⟨h.2.choose,h.2.choose_spec.2⟩
theorem nwn(b:Nat)(w:World):Calls prog 226 #[.slice (some ⟨b,0,none⟩) 3 3] w (cJ w (λb1:Nat=>.func (.func 281) #[] #[ptr b1 0]) (λb1 w1=>w.heap.size<=b1/\w1.heap[b1]? =some (.cells #[.slice (some ⟨b,0,none⟩) 3 3] 372 (0,0)))):=by
 refine enter (vs:=[_]) func226 rfl ntmps226 rfl ?_;refine B 2 ?_;refine yX ?_;intro b1 w1 aQ aX gb eO gZ;refine B 10 ?_;refine kH b1 results226 rfl A1 rfl ?_;exact λW hS=>⟨by omega,hS.old A0 aQ aX trivial⟩
theorem nNl(w:World):Calls prog 165 #[] w (cJ w (λb1:Nat=>.func (.func 281) #[] #[ptr b1 0]) (λb1 w1=>tr w1 b1 w.heap.size)):=by
 refine enter (vs:=[]) func165 rfl ntmps165 rfl ?_;refine B 7 ?_;refine Dp underlying372 sizeOf257 zeroValue257 rfl rfl rfl rfl rfl rfl rfl ?_;refine yV ?_;intro b1 w1 aQ aX gb eO gZ;refine nB (α:=Nat) (v:=λb9:Nat=>.func (.func 281) #[] #[ptr b9 0]) (Φ:=λW b9 w9=>W.heap.size<=b9/\w9.heap[b9]? =some (.cells #[.slice (some ⟨b1,0,none⟩) 3 3] 372 (0,0))) call226 rfl rfl rfl (λW hS=>nwn b1 W) ?_;rintro W9 b9 w9 kL ui ⟨jb,jc⟩;have lG:=(kL.links w1 A0).size;have hzw:=(kL.links w A1).size;refine B 4 ?_;refine kH b9 results165 rfl A2 rfl ?_;exact λW hS=>⟨by omega,b1,by omega,hS.old A0 jc zU trivial,hS.old A1 aQ aX trivial⟩
theorem nfk(bk:Nat)(w:World):Calls prog 273 #[.slice none 0 0,.int .i64 0,.int .i64 0,.func (.func 281) #[] #[ptr bk 0]] w (ay w (.tuple #[])):=by
 refine enter (vs:=[_,_,_,_]) func273 rfl ntmps273 rfl ?_;refine B 8 ?_;refine CJ.loop (α:=Nat) (λj=>[(0,.slice none 0 0),(1,.int .i64 0),(2,.int .i64 0),(3,.func (.func 281) #[] #[ptr bk 0]),(8,.int .i64 1)]) (λj=>[]) (λj=>[w]) (λj=>Gh.no) (λj=>True) (λj=>0) 0 True.intro zR rfl rfl zX ?_;rintro j _;refine VH ?_;exact bF (.inr rfl) results273 RS.n A0 trivial rfl
theorem nvn(bk:Nat)(l:Int)(w:World):Calls prog 225 #[.slice none 0 0,.int .i64 0,.int .i64 0,.int .i64 l,.func (.func 281) #[] #[ptr bk 0]] w (ay w (.tuple #[])):=by
 refine enter (vs:=[_,_,_,_,_]) func225 rfl ntmps225 rfl ?_;refine B 11 ?_;refine CJ.loop (α:=Nat) (λj=>[(0,.slice none 0 0),(1,.int .i64 0),(2,.int .i64 0),(3,.int .i64 l),(4,.func (.func 281) #[] #[ptr bk 0])]) (λj=>[]) (λj=>[w]) (λj=>Gh.no) (λj=>True) (λj=>0) 0 True.intro zR rfl rfl zX ?_;rintro j _;refine VI ?_;refine call call273 rfl rfl rfl (λW hS=>nfk bk W) ?_;refine B 7 ?_;exact bF (.inl rfl) results225 RS.n A0 trivial rfl
theorem nem(bk:Nat)(w:World):Calls prog 164 #[.slice none 0 0,.func (.func 281) #[] #[ptr bk 0]] w (ay w (.tuple #[])):=by
 refine enter (vs:=[_,_]) func164 rfl ntmps164 rfl ?_;refine VJ ?_;refine call call225 rfl rfl rfl (λW hS=>nvn bk _ W) ?_;refine B 1 ?_;exact bF (.inr rfl) results164 RS.n A0 trivial rfl
theorem nIi(hZ:FxOk Z)(cs:List Cm)(hcs:cs.length<=1000)(dt:∀c∈cs,cx c)(N:Nat)(la:Option Addr)(lc:Nat)(w:World)(hN:N<=w.heap.size)(aH:ag dI 73 N w la cs)(hC:∀c∈cs,dB N w c)(ia:Option Addr)(ic:Nat)(ta:Option Addr)(tc:Nat)(hp:ly Z cs N w ⟨ia,ic,ta,tc⟩)(G:Gv)(hG:aL N w G)(hg:Glb w):Calls prog 102 #[.agg (vA Z cs la lc ⟨ia,ic,ta,tc⟩),.agg (bC G)] w (λe w'=>∃ds:List Cd,(ds.map oB=H5 Z cs G.g/\∀d∈ds,mw Z cs G.g d/\aL w'.heap.size w' d.x/\aS w.heap.size d.x)/\nD w lI 143 101 ds id e w'):=by
 have eE:=hg.lt;have hpl:=NS Z cs cs.length;have mE:((aY Z cs cs.length).map (·.1)).length=(aY Z cs cs.length).length:=fp ..;have Hy:((aY Z cs cs.length).map (·.2)).length=(aY Z cs cs.length).length:=fp ..;have Az:=hp.ids;have AA:=hp.at_;dsimp only at Az AA;refine nL (jL []) [] (vs:=[_,_]) func102 rfl ntmps102 rfl (HK w) ?_;refine B 2 ?_;refine yX ?_;intro b2 w2 aU aN dY cR cX;refine yX ?_;intro b3 w3 aM aD da cd cP;refine B 7 ?_;refine rr (.slice ta ((aY Z cs cs.length).map (·.2)).length tc) (aa isAgg44 rfl A1 aU aN trivial rfl) ?_;refine B 5 ?_;refine CJ.loop (α:=((Rw×List Cd)×ab)×Nat) (λp9=>[(2,ptr b2 0),(3,ptr b3 0),(4,p9.1.1.1.val p9.1.1.2.length),(11,.slice ta ((aY Z cs cs.length).map (·.2)).length tc),(12,.int .i64 (((aY Z cs cs.length).map (·.2)).length:Int)),(13,.int .i64 (p9.2:Int))]) (λp9=>p9.1.1.1.hp lI 101 p9.1.1.2++[]) (λp9=>[w3,w2,w]) (λp9=>jL p9.1.2) (λp9=>p9.2<=((aY Z cs cs.length).map (·.2)).length/\p9.1.1.1.Fr (jL p9.1.2) [w3,w2,w]/\p9.1.1.1.Fit 143 p9.1.1.2/\p9.1.1.2.map oB=tk Z cs G.g p9.2/\(∀d∈p9.1.1.2,mw Z cs G.g d/\CH p9.1.2 d.x)/\p9.1.1.2.length<=p9.2/\∀q∈p9.1.2,w.heap.size<=q.1) (λp9=>((aY Z cs cs.length).map (·.2)).length-p9.2) (((.nil,[]),[]),0) ⟨db _,True.intro,rfl,rfl,by simp,ao _,by simp⟩ zR rfl rfl zX ?_
 rintro⟨⟨⟨r,ds⟩,F⟩,k⟩ ⟨hk,bE,ak,bO,rP,MN,AB⟩;dsimp only at hk bE ak bO rP MN AB ⊢;have cE:r.ge w3.heap.size:=Rw.ge_fz bE A0;refine B 6 ?_;refine aG ?_ ?_
 ·intro ah;refine B 5 ?_;obtain⟨q,hq⟩:=nj (aY Z cs cs.length) k zJ;obtain⟨i,c,Lh,rO,hc,V6⟩:=VV Z cs _ q (cb hq);have R1:((aY Z cs cs.length).map (·.2))[k]? =some ((i:Nat):Int):=by rw[qp,hq,uW,Lh]
  have C2:((aY Z cs cs.length).map (·.1))[k]? =some (dk (aI Z c)):=by rw[qp,hq,uW,V6]
  have hcm:=cb hc;obtain⟨ba,oa,csa,ta,fra,rfl,hba,AD,Si⟩:=AA.get zJ;obtain⟨bq,oq,U5,tq,U6,rfl,U7,qU,qV⟩:=Az.get zJ;obtain⟨bl,ol,csl,tl,frl,rfl,jf,ts,lA⟩:=aH.get zJ;refine B 3 ?_;refine rv rfl rfl rfl (aa (v:=.int .i64 (i:Int)) isAgg3 rfl A2 AD zU Sj V7) ?_;refine B 7 ?_;refine rr (.slice (some ⟨bl,ol,none⟩) cs.length lc) (aa isAgg24 rfl A1 aU aN Lj rfl) ?_;refine B 2 ?_;refine rq (.agg (dI c)) (ai isAgg99 sizeOf99 rfl A2 ts zU Sj (nk lA hc rfl)) (va (nr lA hc rfl)) ?_;refine aZ zeroValue99 rfl rfl ?_;refine yW ?_;intro b7 gd oN;refine bh (i:=0) rfl sizeOf99 rfl rfl rfl rfl rfl rfl ?_;refine B 4 ?_;by_cases CK:jS c.par G.g.last=true
  ·refine B 2 ?_;refine zah ?_;refine B 1 ?_;refine z8g ?_;refine rq (.bool false) (ie xX zO xY rfl rfl rfl) (congrArg (λq=>Value.bool (!q)) CK) ?_;refine B 7 ?_;refine rr (.agg (bC G)) (ae isAgg57 sizeOf57 rfl A0 aM aD Lj rfl) ?_;refine rr (.agg (dI c)) (aO (i:=0) rfl isAgg99 sizeOf99 rfl rfl) ?_;refine Ll (γ:=Gv) (v:=λX=>.tuple #[.agg (bC X),.int .i64 (kP Z G.g c)]) (Φ:=λF X=>X.g=rM Z G.g c/\CH F X) call101 rfl rfl rfl (λW hS=>nek hZ G c (dt c hcm) N W (aR hN (hS.links w A2).size) (hG.up (ao _) (hS.same A2 hN zS Sk)) ((hC c hcm).up (ao _) (hS.same A2 hN zS Sk)) (hg.old hS A2 zS Sk)) ?_;rintro Xn F2 ⟨eQ,gy⟩ V5;obtain⟨e,he⟩:∃e,kP Z G.g c=e:=⟨_,rfl⟩;rw[he];refine B 3 ?_;refine rL ?_;refine yW ?_;intro b8 vU vV;refine NO ?_;refine B 9 ?_;refine aG ?_ ?_
   ·intro aJ;refine ng (E':=[(2,_),(3,_),(4,_),(5,_),(6,_),(7,_),(8,_),(9,_),(11,_),(12,_),(13,_),(14,_),(15,_),(16,_),(17,_),(18,_),(19,_),(20,_),(21,_),(22,_),(23,_),(24,_),(25,_),(26,_),(27,_),(28,_),(29,_),(30,_),(31,_),(32,_),(33,_),(34,_),(35,_)]) zR ?_;refine nP 15 [14] [([],some _),([],some _),([],some (.agg (dI c))),([],some _),([3],some (.slice (some ⟨bq,oq,none⟩) ((aY Z cs cs.length).map (·.1)).length ic)),([],some _),([4,5],some _),([6],some (.agg (dg (aI Z c)))),([],some (.agg (bC G))),([],some _),([9],some (.int .i64 c.author)),([8,10],some (.int .i64 (ux G.g.ms c.author))),([],some (.agg (bC Xn))),([1,2,7,11,12],some (.agg (dw (⟨(i:Int),c,aI Z c,ux G.g.ms c.author,Xn⟩:Cd)))),([13],none)] (λcv L' H'=>match cv with| []=>L'=[w3,w2,w]/\H'=[(b8,.cells (bC Xn) 57 (0,0)),(b7,.cells (dI c) 99 (0,0))]++(r.hp lI 101 ds++[])| [v1]=>∃(NV:Nat),v1= .slice (some ⟨NV,0,none⟩) 1 1/\L'=[w3,w2,w]/\H'=[(NV,.cells (dw (⟨(i:Int),c,aI Z c,ux G.g.ms c.author,Xn⟩:Cd)) 101 (0,0)),(b8,.cells (bC Xn) 57 (0,0)),(b7,.cells (dI c) 99 (0,0))]++(r.hp lI 101 ds++[])/\w3.heap.size<=NV|_=>False) zQ ⟨rfl,rfl⟩ zQ zQ zQ zQ zQ zQ (pc zT (pc zT (pc Lm (pc (by exact λcv L' H' hd hP=>X.val rfl rfl (al underlying92 rfl sizeOf41 rfl) R2) (pc Lm (pc zT (pc (by exact λcv L' H' hd hP=>X.val rfl rfl (cD underlying41 sizeOf34 rfl rfl zJ zJ) R2) (pc Lm (pc Lm (pc vr (pc Lm (pc Lm (pc Lm (pc zpc (pk (pn)))))))))))))))) ?_ ?_
    ·refine sc rfl rfl rfl ?_ ?_
     ·intro cv L' H' hl hP F Q' hk;obtain rfl:=iZ hl;obtain⟨rfl,rfl⟩:=hP;refine kr underlying194 sizeOf101 zeroValue101 rfl rfl rfl rfl rfl rfl rfl ?_;intro b_ ES VA;exact OJ.done (hk _ _ _ ⟨b_,rfl,rfl,rfl,ES.1⟩)
     exact sn
    intro cv L' H' hl hP;obtain⟨v1,rfl⟩:=cM hl;obtain⟨NV,rfl,rfl,rfl,abD⟩:=hP;refine pM (r:=r) (xs:=ds) (zs:=[(⟨(i:Int),c,aI Z c,ux G.g.ms c.author,Xn⟩:Cd)]) (enc:=lI) (m:=143) (H0:=[(NV,.cells (dw (⟨(i:Int),c,aI Z c,ux G.g.ms c.author,Xn⟩:Cd)) 101 (0,0)),(b8,.cells (bC Xn) 57 (0,0)),(b7,.cells (dI c) 99 (0,0))]) (H1:=[]) yr Ap CE rfl rfl rfl rfl (dz.one (z:=(⟨(i:Int),c,aI Z c,ux G.g.ms c.author,Xn⟩:Cd)) CE nPi underlying194 (bL.own (i:=0) rfl)) ak bE zX Cp ?_;intro b51 abE abF Ln Lo;replace Ln:=yb Ln;refine B 8 ?_;refine Hp ?_;refine og ?_;refine PJ.again (((Rw.row b51 abE abF,ds++[(⟨(i:Int),c,aI Z c,ux G.g.ms c.author,Xn⟩:Cd)]),F2++F),k+1) ⟨by dsimp only;omega,Ln.elim (λh=>Rw.Fr_at bE h) (λh=>.inr h),Lo,by dsimp only;rw[Fi hq Lh (Fl hc CK (by rw[he];assumption)),gP,bO];rfl,λd hd=>(cQ.1 hd).elim (λh=>⟨(rP d h).1,(rP d h).2.mono (λp hp=>cQ.2 (.inr hp))⟩) (λh=>by rw[qi.1 h];exact⟨⟨Int.natCast_nonneg _,hc,rfl,rfl,eQ.trans (if_pos (by rw[he];assumption)),by rw[he];assumption⟩,gy.mono (λp hp=>cQ.2 (.inl hp))⟩),by dsimp only;rw[cK,HV];omega,λq hq=>(cQ.1 hq).elim (λh=>(V5 q h).not A2) (AB q)⟩ dG zR rfl rfl zX
   intro aJ;refine K0 ?_;refine PJ.again (((r,ds),F2++F),k+1) ⟨by dsimp only;omega,bE,ak,by dsimp only;rw[Ax hq Lh (Fk hc (by rw[he];assumption))];exact bO,λd hd=>⟨(rP d hd).1,(rP d hd).2.mono (λp hp=>cQ.2 (.inr hp))⟩,by dsimp only;omega,λq hq=>(cQ.1 hq).elim (λh=>(V5 q h).not A2) (AB q)⟩ dG zR rfl rfl zX
  refine B 2 ?_;refine zah ?_;refine B 1 ?_;refine z8g ?_;refine rq (.bool true) (ie xX zO xY rfl rfl rfl) (congrArg (λq=>Value.bool (!q)) (Bool.eq_false_iff.2 CK)) ?_;refine B 11 ?_;refine og ?_;refine PJ.again (((r,ds),F),k+1) ⟨by dsimp only;omega,bE,ak,by dsimp only;rw[Ax hq Lh (Fj hc CK)];exact bO,rP,by dsimp only;omega,AB⟩ dG zR rfl rfl zX
 intro ah;refine B 6 ?_;have hke:k=(aY Z cs cs.length).length:=by omega
 rw[hke]at bO;refine B 2 ?_;refine nB (α:=Nat) (v:=λb:Nat=>.func (.func 281) #[] #[ptr b 0]) (Φ:=λW b w1=>tr w1 b W.heap.size) call165 rfl rfl rfl (λW hS=>nNl W) ?_;intro Wk bk wk ue Em Lg;have U2:=Em.size;refine yA (r:=r) (enc:=lI) (m:=143) (t:=101) (xs:=ds) (ys:=fP rkI ds) (H0:=[]) (H1:=[]) (v:=λ_=>.tuple #[]) rfl call164 rfl rfl rfl (λhr W hS=>?_) (λb cap sp hr W hS h=>?_) ?_
 ·subst hr;have h0:ds=[]:=ak;subst h0;exact(nem bk W).mono λe w2 h=>⟨h.1,iZ (KS CO.rkI.swo []),h.2⟩
 ·subst hr;have jf:b<Wk.heap.size:=ue.lt (b,_) A0;exact Lf zJ ak h bk (λw9 hk9=>((Lg.keep (X:=λk=>k=b) ((hS.links wk A0).mono (λk _ hx=>by rcases hx with hx|hx;(exact hx.elim);simpa[Rw.hp]using hx)) (λk hk=>by omega)).keep hk9 (λk hk=>by omega)).at)
 intro r2 cN lU lX i7;have dE:=lX _ cE;refine B 9 ?_;refine bH (.inl rfl) results102 (RS.t rfl RS.n) λW hS=>?_;have qu:(fP rkI ds).Perm ds:=nUg CO.rkI.swo ds;refine⟨fP rkI ds,⟨Fq hZ bO (λd hd=>(rP d hd).1),λd hd=>⟨(rP d (qu.mem_iff.1 hd)).1,(rP d (qu.mem_iff.1 hd)).2.lies hS.fzLies,(rP d (qu.mem_iff.1 hd)).2.new AB⟩⟩,r2,?_,?_,Rw.ge_mono dE zJ,cN,?_⟩
 ·show Ending.returned (r.val ds.length)=Ending.returned (r2.val (fP rkI ds).length);rw[i7,KS CO.rkI.swo]
 ·exact(hS.links w A3).below (λk hk hx=>by rcases hx with hx|hx;(exact hx);simp only[dK,dH]at hx;have:=Rw.mem_ge dE hx;omega)
 cases r2 with
  |nil=>trivial
  |row b cap sp=>exact hS.own (b,_) ud
instance:Inhabited Cm:=⟨⟨0,0,λ_=>0,0,[],none,0,[],none,0,[],none,0,[],none,0,λ_=>0,0,0⟩⟩
def uC:Cd:=default
def rm {α:Type} (cf:α->Cm) (l:List α) (d:α):Bool:=l.any λx=>decide ((cf x).author≠(cf d).author)&&(cf x).chs.any (td (cf d).author)
def vD {α:Type} (cf:α->Cm) (b:Option α) (d:α):Option α:=match b with|none=>some d|some w=>if uw (cf w).chs<uw (cf d).chs then some d else some w
def Lp {α:Type} (cf:α->Cm) (s:List α×Option α) (d:α):List α×Option α:=if rm cf s.1 d=true then s else(s.1++[d],vD cf s.2 d)
def eT {α:Type} (cf:α->Cm) (l:List α) (k:Nat):List α×Option α:=(l.take k).foldl (Lp cf) ([],none)
theorem NW{α:Type}{cf:α->Cm}{l:List α}{d:α}(h:l[k]? =some d):eT cf l (k+1)=Lp cf (eT cf l k) d:=by unfold eT;rw[nC h,Cq];rfl
theorem V8{α:Type}(cf:α->Cm)(l:List α):∀k,(∀x∈(eT cf l k).1,x∈l)/\∀x,(eT cf l k).2=some x->x∈l
 |0=>⟨λx hx=>by simp[eT]at hx,λx hx=>by simp[eT]at hx⟩
 |k+1=>by
  have ih:=V8 cf l k;by_cases hk:k<l.length
  ·obtain⟨d,hd⟩:=nj l k hk;have hm:=cb hd;rw[NW hd];unfold Lp;split
   ·exact ih
   refine⟨λx hx=>?_,λx hx=>?_⟩
   ·rcases cQ.1 hx with hx|hx
    ·exact ih.1 x hx
    rw[qi.1 hx];exact hm
   dsimp only[vD]at hx;split at hx
   ·cases hx;exact hm
   rename_i w hw;split at hx
   ·cases hx;exact hm
   cases hx;exact ih.2 _ hw
  have e:eT cf l (k+1)=eT cf l k:=by unfold eT;rw[iV zJ,iV zJ]
  rw[e];exact ih
theorem nSm{α:Type}(cf:α->Cm)(l:List α):∀k,(eT cf l k).1.length<=k
 |0=>by simp[eT]
 |k+1=>by
  have ih:=nSm cf l k;by_cases hk:k<l.length
  ·obtain⟨d,hd⟩:=nj l k hk;rw[NW hd];unfold Lp;split
   ·omega
   rw[cK,HV];omega
  have e:eT cf l (k+1)=eT cf l k:=by unfold eT;rw[iV zJ,iV zJ]
  rw[e];omega
theorem nJl{α β:Type}{f:α->β}{p:β->Bool}{q:α->Bool}:∀{l:List α},(∀x∈l,p (f x)=q x)->(l.map f).any p=l.any q
 | [],_=>rfl
 |x::l,h=>by simp only[eh,List.any_cons,h x A0,nJl λy hy=>h y (.tail _ hy)]
theorem n8m{α β:Type}{cf:α->Cm}{cg:β->Cm}(f:α->β){l:List α}(h:∀d∈l,cg (f d)=cf d):∀k,eT cg (l.map f) k=((eT cf l k).1.map f,(eT cf l k).2.map f)
 |0=>rfl
 |k+1=>by
  have ih:=n8m f h k;have AE:=V8 cf l k;by_cases hk:k<l.length
  ·obtain⟨d,hd⟩:=nj l k hk;have hm:=cb hd;have yp:(l.map f)[k]? =some (f d):=by rw[qp,hd];rfl
   rw[NW yp,NW hd,ih];have e1:rm cg ((eT cf l k).1.map f) (f d)=rm cf (eT cf l k).1 d:=by
    unfold rm;rw[h d hm];exact nJl λx hx=>by rw[h x (AE.1 x hx)]
   have e2:vD cg ((eT cf l k).2.map f) (f d)=(vD cf (eT cf l k).2 d).map f:=by
    cases hw:(eT cf l k).2 with
    |none=>rfl
    |some w=>
     simp only[vD,uW,h d hm,h w (AE.2 w hw)];split<;>rfl
   unfold Lp;dsimp only;rw[e1];split
   ·rfl
   rw[e2];simp
  have e1:eT cg (l.map f) (k+1)=eT cg (l.map f) k:=by unfold eT;rw[iV (by rw[fp];omega),iV (by rw[fp];omega)]
  have e2:eT cf l (k+1)=eT cf l k:=by unfold eT;rw[iV zJ,iV zJ]
  rw[e1,e2,ih]
def Fs (cs:List Cm) (i:Nat):Cm:=(cs[i]?).getD default
noncomputable def CL (Z:Fx) (cs:List Cm) (g:Gp):Option Nat:=(eT (Fs cs) (H5 Z cs g) (H5 Z cs g).length).2
theorem abH{cs:List Cm}{ds:List Cd}(hm:ds.map oB=H5 Z cs g)(hd:∀d∈ds,mw Z cs g d):CL Z cs g=(eT (·.c) ds ds.length).2.map oB:=by
 unfold CL;rw[<-hm,fp,n8m (cf:=(·.c)) oB (λd h=>by unfold Fs;rw[(hd d h).at_];rfl)]
theorem aL.toG{K:Nat}{w:World}{x:Gv}(h:aL N w x)(hn:aS K x)(hS:St G L H W)(hw:w∈L)(hN:N<=w.heap.size)(ho:∀b,K<=b->b<N->¬G.X b/\bD H b):aL W.heap.size W x:=
 ⟨h.ms.toG hS hw hN (λb off e=>(hn.1 _ e).imp id (λh=>ho b h)),h.ns.toG hS hw hN (λb off e=>(hn.2 _ e).imp id (λh=>ho b h)),h.mn,h.nn⟩
theorem aS.mono{K K':Nat}{x:Gv}(h:aS K x)(hk:K'<=K):aS K' x:=⟨λq e=>(h.1 q e).imp id (aR hk),λq e=>(h.2 q e).imp id (aR hk)⟩
theorem V9{α:Type}{cf:α->Cm}{l:List α}{d:α}(h:l[k]? =some d)(hs:rm cf (eT cf l k).1 d=true):eT cf l (k+1)=eT cf l k:=by rw[NW h];unfold Lp;rw[if_pos hs]
theorem wG{α:Type}{cf:α->Cm}{l:List α}{d:α}(h:l[k]? =some d)(hs:rm cf (eT cf l k).1 d=false):eT cf l (k+1)=((eT cf l k).1++[d],vD cf (eT cf l k).2 d):=by rw[NW h];unfold Lp;rw[if_neg (by rw[hs];decide)]
theorem n7l(hZ:FxOk Z)(cs:List Cm)(hcs:cs.length<=1000)(dt:∀c∈cs,cx c)(N:Nat)(la:Option Addr)(lc:Nat)(w:World)(hN:N<=w.heap.size)(aH:ag dI 73 N w la cs)(hC:∀c∈cs,dB N w c)(ia:Option Addr)(ic:Nat)(ta:Option Addr)(tc:Nat)(hp:ly Z cs N w ⟨ia,ic,ta,tc⟩)(G:Gv)(hG:aL N w G)(hg:Glb w):Calls prog 52 #[.agg (vA Z cs la lc ⟨ia,ic,ta,tc⟩),.agg (bC G)] w (cJ w (λq:Cd×Bool=>.tuple #[.agg (dw q.1),.bool q.2]) (λq w'=>(q.2=true/\CL Z cs G.g=some (oB q.1)/\mw Z cs G.g q.1/\aL w'.heap.size w' q.1.x/\aS w.heap.size q.1.x)\/(q.2=false/\CL Z cs G.g=none))):=by
 have eE:=hg.lt;have hpl:=NS Z cs cs.length;refine enter (vs:=[_,_]) func52 rfl ntmps52 rfl ?_;refine B 2 ?_;refine yX ?_;intro b2 w2 aU aN dY cR cX;refine yX ?_;intro b3 w3 aM aD da cd cP;refine NY ?_;refine yW ?_;intro b4 dO dU;refine B 11 ?_;refine rr (.agg (vA Z cs la lc ⟨ia,ic,ta,tc⟩)) (ae isAgg92 sizeOf92 rfl A1 aU aN zI rfl) ?_;refine Kx ?_;refine Ft (enc:=lI) (m:=143) (t:=101) (v:=id) (Φ:=λW w9 ds=>ds.map oB=H5 Z cs G.g/\∀d∈ds,mw Z cs G.g d/\aL w9.heap.size w9 d.x/\aS W.heap.size d.x) call102 rfl rfl rfl CE (λW hS=>nIi hZ cs hcs dt N la lc W (aR hN (hS.links w A2).size) (aH.up (ao _) (hS.same A2 hN zS zM)) (λc hc=>(hC c hc).up (ao _) (hS.same A2 hN zS zM)) ia ic ta tc (hp.up (ao _) (hS.same A2 hN zS zM)) G (hG.up (ao _) (hS.same A2 hN zS zM)) (hg.old hS A2 zS zM)) ?_;rintro W9 ds a9 c9 w9 kL ui ⟨bO,rP⟩ kx abI;have lG:=ui.size;have afy:=(kL.links w3 A0).size;have MN:ds.length<=cs.length:=by
  have h1:=congrArg List.length bO;rw[fp]at h1;unfold H5 at h1;rw[List.length_mergeSort]at h1;unfold tk at h1;have h2:=yy (CG Z cs G.g) (((aY Z cs cs.length).take (aY Z cs cs.length).length).map λp=>p.2.toNat);rw[fp,jD]at h2;omega
 have Sl:ag dw 143 w9.heap.size w9 a9 ds:=kx;have Lq:=(kL.lt (b4,_) A0);try dsimp only at Lq
 refine B 5 ?_;refine CJ.loop (α:=((Rw×Cd)×Bool)×Nat) (λp9=>[(2,ptr b2 0),(3,ptr b3 0),(4,ptr b4 0),(5,.bool p9.1.2),(6,p9.1.1.1.val (eT (λd:Cd=>d.c) ds p9.2).1.length),(12,.slice a9 ds.length c9),(13,.int .i64 (ds.length:Int)),(14,.int .i64 (p9.2:Int))]) (λp9=>[(b4,.cells (dw p9.1.1.2) 101 (0,0))]++(p9.1.1.1.hp lI 101 (eT (λd:Cd=>d.c) ds p9.2).1++[])) (λp9=>[w9,w3,w2,w]) (λp9=>Gh.no) (λp9=>p9.2<=ds.length/\p9.1.1.1.Fr Gh.no [w9,w3,w2,w]/\p9.1.1.1.Fit 143 (eT (λd:Cd=>d.c) ds p9.2).1/\((p9.1.2=false/\(eT (λd:Cd=>d.c) ds p9.2).2=none/\p9.1.1.2=uC)\/(p9.1.2=true/\(eT (λd:Cd=>d.c) ds p9.2).2=some p9.1.1.2))) (λp9=>ds.length-p9.2) (((.nil,uC),false),0) ⟨db _,True.intro,rfl,.inl ⟨rfl,rfl,rfl⟩⟩ zR rfl rfl zX ?_;rintro⟨⟨⟨r,rQ⟩,Sm⟩,k⟩ ⟨hk,bE,ak,AF⟩;dsimp only at hk bE ak AF ⊢;have cE:r.ge w9.heap.size:=Rw.ge_of bE A0;have AE:=V8 (λd:Cd=>d.c) ds k;have hlf:=nSm (λd:Cd=>d.c) ds k;refine B 6 ?_;refine aG ?_ ?_
 ·intro ah;refine B 5 ?_;obtain⟨b9,o9,cs9,t9,fr9,rfl,hb9,abJ,Sn⟩:=Sl.get zJ;obtain⟨d,hd⟩:=nj ds k zJ;have hn9:=abI _ rfl;try dsimp only at hn9
  refine B 2 ?_;refine rq (.agg (dw d)) (ai isAgg101 sizeOf101 rfl A0 abJ zU Sj (nk Sn hd rfl)) (va (nr Sn hd rfl)) ?_;refine NY ?_;refine yW ?_;intro b8 vU vV;refine Lr ?_;refine B 6 ?_;have abK:∀W,St Gh.no [w9,w3,w2,w] ([(b8,.cells (dw d) 101 (0,0)),(b4,.cells (dw rQ) 101 (0,0))]++(r.hp lI 101 (eT (λd:Cd=>d.c) ds k).1++[])) W->r.At lI 101 (eT (λd:Cd=>d.c) ds k).1 W:=λW hS=>by
   cases r with
   |nil=>trivial
   |row b cap sp=>exact hS.own (b,_) ud
  refine call call103 rfl rfl rfl (λW hS=>by
   obtain⟨a5,c5,he5,hs5⟩:=Rw.sl CE ak (abK W hS) (ao W.heap.size);rw[he5];exact nzi (λx=>decide (x.c.author≠d.c.author)&&x.c.chs.any (td d.c.author)) 104 [ptr b8 0] call104 (eT (λd:Cd=>d.c) ds k).1 zJ W.heap.size a5 c5 W (ao _) hs5 (λj x hx W2 hB=>by
    have UW:=(AE.1 x (cb hx));have hxc:x.c∈cs:=cb (rP x UW).1.at_;have cj:=(dt x.c hxc).few.chs;have hwl:=(hS.links w A3).size;exact As d x zJ N b8 W2 (aR hN (aR hwl hB.size)) (((hC x.c hxc).chs.up (ao _) (hS.same A3 hN zS Sk)).up (ao _) (λq hq=>hB.block q zJ)) (by rw[hB.block b8 (hS.lt (b8,_) A0)];exact hS.own (b8,_) A0))) (v:=.bool (rm (λd:Cd=>d.c) (eT (λd:Cd=>d.c) ds k).1 d)) ?_
  refine B 5 ?_;have hx:=hd;refine B 4 ?_;refine aG ?_ ?_
  ·intro aJ;refine Ro ?_;refine PJ.again (((r,rQ),Sm),k+1) ⟨by dsimp only;omega,bE,by dsimp only;rw[V9 hd gw];exact ak,by dsimp only;rw[V9 hd gw];exact AF⟩ dG ⟨rfl,rfl,rfl,rfl,by rw[V9 hd gw];rfl,rfl,rfl,rfl,trivial⟩ (by rw[V9 hd gw];rfl) rfl zX
  intro aJ;refine B 3 ?_;have bV:rm (λd:Cd=>d.c) (eT (λd:Cd=>d.c) ds k).1 d=false:=by assumption
  refine B 2 ?_;refine Sq ?_;refine kr underlying194 sizeOf101 zeroValue101 rfl rfl rfl rfl rfl rfl rfl ?_;refine yW ?_;intro JL Zv Zw;refine pM (r:=r) (xs:=(eT (λd:Cd=>d.c) ds k).1) (zs:=[d]) (enc:=lI) (m:=143) (H0:=[(JL,.cells (dw d) 101 (0,0)),(b8,.cells (dw d) 101 (0,0)),(b4,.cells (dw rQ) 101 (0,0))]) (H1:=[]) yr Ap CE rfl rfl rfl rfl (dz.one (z:=d) CE nPi underlying194 (bL.own (i:=0) rfl)) ak bE zX Cp ?_;intro Ef u9 vc oe lW;replace oe:=yb oe;refine B 4 ?_;have hdm:=cb hd;have hdc:d.c∈cs:=cb (rP d hdm).1.at_;have afz:=(dt d.c hdc).few.chs;have H6:(Rw.row Ef u9 vc).ge w.heap.size:=by rcases oe with h|h;(have:=Rw.ge_at cE h;show w.heap.size<=Ef;omega);(show w.heap.size<=Ef;omega)
  have aeF:w.heap.size<=Ef:=H6;refine CJ.dropAt (i:=0) rfl zW ?_;rcases AF with⟨rfl,aQ,rfl⟩|⟨rfl,aQ⟩
  ·refine z2f ?_;refine nl 6 [.det [] _,.det [0] _,.det [1] _,.det [2] undef,.det [2,3] undef,.det [2] undef] zQ (xc zN (xc NZ (xc zN (xc zL (xc zL (xc zL (xn))))))) zQ zQ zQ (λaf=>?_);refine B 7 ?_;refine Sq ?_;refine zdh ?_;refine Ro ?_;refine PJ.again (((Rw.row Ef u9 vc,d),true),k+1) ⟨by dsimp only;omega,oe.elim (λh=>Rw.Fr_at bE h) (λh=>.inr h),by dsimp only;rw[wG hd bV];exact lW,.inr ⟨rfl,by dsimp only;rw[wG hd bV];dsimp only;rw[aQ];rfl⟩⟩ dG ⟨rfl,rfl,rfl,rfl,by rw[wG hd bV];rfl,rfl,rfl,rfl,trivial⟩ (by rw[wG hd bV];rfl) rfl zX
  have ku:=(AE.2 rQ aQ);have hbc:rQ.c∈cs:=cb (rP rQ ku).1.at_;have jf:=(dt rQ.c hbc).few.chs;refine z2f ?_;refine nl 6 [.det [] _,.det [0] _,.det [1] _,.det [2] _,.det [2,3] (.int .i64 (uw d.c.chs:Int)),.det [2] _] zQ (xc zN (xc NZ (xc zN (xc (by exact λaf=>X.val rfl rfl (RV.re (v':=.agg (dw d)) (aO (i:=0) rfl isAgg101 sizeOf101 rfl rfl) (rfl)) (λ_ _=>rfl)) (xc (by exact λaf=>nf call106 rfl rfl (λW hS _=>nwh d zJ N W (aR hN (hS.links w A3).size) ((hC d.c hdc).chs.up (ao _) (hS.same A3 hN zS zHd))) (λ_=>rfl)) (xc (by exact λaf=>X.val rfl rfl (RV.re (v':=.agg (dw rQ)) (aO (i:=1) rfl isAgg101 sizeOf101 rfl rfl) (rfl)) (λ_ _=>rfl)) (xn))))))) zQ zQ zQ (λaf=>?_);refine call call106 rfl rfl rfl (λW hS=>nwh rQ zJ N W (aR hN (hS.links w A3).size) ((hC rQ.c hbc).chs.up (ao _) (hS.same A3 hN zS zHd))) (v:=.int .i64 (uw rQ.c.chs:Int)) ?_;refine B 4 ?_;refine aG ?_ ?_
  ·intro cO;refine B 1 ?_;refine Sq ?_;refine zdh ?_;refine Ro ?_;refine PJ.again (((Rw.row Ef u9 vc,d),true),k+1) ⟨by dsimp only;omega,oe.elim (λh=>Rw.Fr_at bE h) (λh=>.inr h),by dsimp only;rw[wG hd bV];exact lW,.inr ⟨rfl,by dsimp only;rw[wG hd bV];dsimp only;rw[aQ];exact if_pos dG⟩⟩ dG ⟨rfl,rfl,rfl,rfl,by rw[wG hd bV];rfl,rfl,rfl,rfl,trivial⟩ (by rw[wG hd bV];rfl) rfl zX
  intro cO;refine vd ?_;refine PJ.again (((Rw.row Ef u9 vc,rQ),true),k+1) ⟨by dsimp only;omega,oe.elim (λh=>Rw.Fr_at bE h) (λh=>.inr h),by dsimp only;rw[wG hd bV];exact lW,.inr ⟨rfl,by dsimp only;rw[wG hd bV];dsimp only;rw[aQ];exact if_neg dG⟩⟩ dG ⟨rfl,rfl,rfl,rfl,by rw[wG hd bV];rfl,rfl,rfl,rfl,trivial⟩ (by rw[wG hd bV];rfl) rfl zX
 intro ah;refine B 7 ?_;refine rr (.agg (dw rQ)) (aO (i:=0) rfl isAgg101 sizeOf101 rfl rfl) ?_;refine B 1 ?_;refine Lr ?_;refine B 4 ?_;have hke:k=ds.length:=by omega
 rw[hke]at AF;have hwI:=abH bO (λd hd=>(rP d hd).1);refine bH (.inl rfl) results52 (RS.wA (i:=0) rfl isAgg101 sizeOf101 rfl (bj rfl) (RS.t rfl RS.n)) λW hS=>⟨(rQ,Sm),rfl,?_,?_⟩
 ·exact(hS.links w A3).below (λk hk hx=>by rcases hx with hx|hx;(exact hx);simp only[cZ,eP,dK,dH,gP,eh,iB,cQ,cI,fu,or_false]at hx;rcases hx with hx|hx;(omega);(have:=Rw.mem_ge cE hx;omega))
 rcases AF with⟨h1,h2,_⟩|⟨h1,h2⟩
 ·exact .inr ⟨h1,by rw[hwI,h2];rfl⟩
 have ku:=(V8 (λd:Cd=>d.c) ds ds.length).2 rQ h2;have Wa:=rP rQ ku;exact .inl ⟨h1,by rw[hwI,h2];rfl,Wa.1,Wa.2.1.toG Wa.2.2 hS A0 (ao _) (λb hb aU=>⟨λh=>h,Sj⟩),Wa.2.2.mono zJ⟩
end Px
