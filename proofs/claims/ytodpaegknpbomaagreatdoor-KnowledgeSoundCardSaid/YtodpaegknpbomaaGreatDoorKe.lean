/- Contracts of functions of the program. No conditions. -/
import Derived.Test.YtodpaegknpbomaaGreatDoorKd
import Derived.Test.YtodpaegknpbomaaGreatDoorProg
set_option linter.unusedSimpArgs false
set_option linter.unusedVariables false
set_option linter.unusedSectionVars false
set_option maxRecDepth 20000
set_option maxHeartbeats 8000000
namespace Px
open Go Go.RowKit Go.Proofs Go.Proofs.Tryz
theorem nal(bI t:Nat)(f:Nat->Int)(b3 t3:Nat)(ra:Nat×Nat)(hf:eu f)(w:World)(hb:w.heap[bI]? =some (oC (aX (ak) 0) t))(dA:w.heap[b3]? =some (.cells (dg f) t3 ra))(hne:b3≠bI):Calls prog 208 #[ptr bI 0,.slice (ao b3) 32 32] w (mK w [bI] (λ_:Nat=>.tuple #[ab 32,.nilIface]) (λbR=>[(bI,oC (aX (bV bR 32 64) 0) t),(bR,aU 5 (cI f) (jA 32))]) (λ_=>True)):=by
 have h:=nkl bI 0 t (cI f) b3 0 32 (by rw[nI];decide) (by rw[nI];decide) w hb (cx.dg dA hf) hne;simp only[nI]at h;exact h
theorem njj(bI t:Nat)(f:Nat->Int)(hf:eu f)(w:World)(hb:w.heap[bI]? =some (oC (aX (ak) 0) t)):Calls prog 207 #[ptr bI 0,.agg (dg f)] w (mK w [bI] (λ_:Nat=>ptr bI 0) (λbR=>[(bI,oC (aX (bV bR 32 64) 0) t),(bR,aU 5 (cI f) (jA 32))]) (λ_=>True)):=by
 have jr:=(bA.1 hb).1;refine nB (vs:=[_,_]) (Gh.lent (λk=>k∈keys [(bI,oC (aX (ak) 0) t)])) [(bI,oC (aX (ak) 0) t)] func207 rfl ntmps207 rfl (HH (fK.mem ⟨hb,trivial⟩) (EE _)) ?_;refine cH 2 ?_;intro b3 w3 dA cX fT eC ff;refine B 4 ?_;refine eA 4 (pb:=by exact zU 3 (k:=by exact aJ (X.v (fY (h:=32) underlying127 sizeOf5 rfl rfl aa)) (rf rfl))) (k:=?_);refine CI (Hz:=[(bI,oC (aX (ak) 0) t)]) (H0:=[]) (first:=[]) (cap:=[]) (v:=λ_:Nat=>.tuple #[ab 32,.nilIface]) (Hn:=λbR=>[(bI,oC (aX (bV bR 32 64) 0) t),(bR,aU 5 (cI f) (jA 32))]) (Φ:=λ_=>True) rfl rfl call208 rfl rfl rfl ⟨.inl TV,trivial⟩ (λW hS=>nal bI t f b3 _ _ hf W (hS.own _ A0) (hS.old A0 dA cX zz) aa) ?_;rintro bR-jY;have xx:bR=bI\/w.heap.size<=bR:=by
  rcases jY (bR,_) A1 with h|h
  ·left;simpa[keys]using h
  right;exact h.1.2.1
 refine B 9 ?_;exact tZ (Hz:=[(bI,oC (aX (ak) 0) t)]) (H0:=[]) bR (.inl rfl) results207 bB A1 JH rfl z8b
variable {cs:Array Value} {kb:Bool} {ch:Ch} {c:Cm} {C:Cx} {R:Ending->World->Prop} {E:Env} {fo:Fo} {Z:Fx} {G:Gh} {H:ad} {cv:List (Option Value)} {ls:List Se} {vs:List Value} {L:List World} {N b lim m t:Nat} {fr:Nat×Nat} {a:Option Addr} {P:Program} {v:Value} {W w:World}
theorem nTm(hZ:FxOk Z)(bI bR t:Nat)(s:ByteArray)(hs0:s.size<1000)(xs:List UInt8)(hxl:xs.length<=64)(w:World)(hb:w.heap[bI]? =some (oC (aX (bV bR xs.length 64) 0) t))(hR:cx w bR 0 xs)(hg:Glb w):Calls prog 209 #[ptr bI 0,.string s] w (aP w (.agg (dg (Z.tg s xs)))):=by
 have jr:=(bA.1 hb).1;have hRl:=hR.lt;have hg4:=hg.lt;obtain⟨df,lz⟩:∃df,Z.tg s xs=df:=⟨_,rfl⟩;refine eN func209 ntmps209 ?_;refine bH 3 ?_;intro b4 iT iU;refine B 8 ?_;refine call call271 rfl rfl rfl (λW hS=>nrp bI bR xs.length 0 t _ hxl W (hS.old A0 hb zI zz)) ?_;refine call call87 rfl rfl rfl (λW hS=>by rw[<-lz];exact nTh hZ s hs0 xs aa bR 0 64 hxl W (hR.old hS A0 zI zz) (hg.old hS A0 zH zF)) (v:=.agg (dg df)) ?_;refine B 4 ?_;refine cu (.inl rfl) results209 bB A0 zB ?_;rw[lz];rfl
def oM (s:ByteArray):List UInt8:=(V.list [.text s]).enc
theorem nDi(s:ByteArray)(h:s.size<128):(oM s).length=4+s.size:=by
 have h1:num 1=[UInt8.ofNat 1]:=X4 zA;have h2:=X4 h;have h3:s.data.toList.length=s.size:=Ox;simp[oM,V.enc,V.encL,h1,h2,h3];omega
theorem HK(s:ByteArray)(h:s.size<128):(V.list [.text s]).fine:=by
 simp[V.fine,V.fineL,V.depthL,V.depth];omega
theorem nyp(s:ByteArray):(V.list [.text s]).depth<=16:=by simp[V.depth,V.depthL]
theorem TW(s:ByteArray)(N b t:Nat)(fr:Nat×Nat)(w:World)(hb:b<N)(h:w.heap[b]? =some (.cells #[ab 2,ab 0,.string s,ak] t fr)):fu N w (.list [.text s]) (vL (ao b) 1 1):=by
 simp only[fu,gT];exact⟨_,_,rfl,aj _,.inr ⟨b,_,t,fr,rfl,hb,h,aj 4,rfl,trivial⟩⟩
def zK:Array Value:=cf 32 (λ_=>C1)
def sI (Z:Fx) (f:Nat->Int) (s:ByteArray):Nat->Int:=Z.tg (⟨#[100,101,114,105,118,101]⟩:ByteArray) (cI f++oM s)
def WY (Z:Fx) (f:Nat->Int) (s:ByteArray):Int:=Z.sc (⟨#[115,99,97,108,97,114]⟩:ByteArray) (cI (sI Z f s))
theorem noe(hZ:FxOk Z)(f:Nat->Int)(hf:eu f)(s:ByteArray)(abt:s.size<=28)(w:World)(hg:Glb w):Calls prog 142 #[.agg (dg f),.string s,ak] w (aP w (.agg (dg (sI Z f s)))):=by
 have mq:s.size<128:=by omega
 have gj:=nDi s mq;have hg4:=hg.lt;obtain⟨df,lz⟩:∃df,Z.tg (⟨#[100,101,114,105,118,101]⟩:ByteArray) (cI f++oM s)=df:=⟨_,rfl⟩;refine eN func142 ntmps142 ?_;refine cH 2 ?_;intro b3 w3 dA cX fT eC ff;refine bH 1 ?_;intro b6 ky ri;refine B 6 ?_;refine zve ?_;refine yV ?_;intro dS w15 Tn To akG Fk Ll;refine B 12 ?_;refine CJ.lp (α:=Unit) [3,6,7,17,18] (λp=>[]) (λp=>[(b6,oC (zK) 127)]) (λp=>True) (λp=>0) () trivial ?_;rintro⟨⟩ -;refine Ji ?_;refine B 13 ?_;refine nqk (ys:=oM s) call85 rfl rfl rfl (λW hS=>nLe [.text s] (HK s mq) (nyp s) (by have:=nDi s mq;unfold oM at this;omega) w15.heap.size (ao dS) 1 W (hS.links _ A0).size (TW s _ dS _ _ W aa (hS.old A0 Tn To zz))) ?_;intro iZ c31 s31 mH TX ap3 ap4;replace mH:=yb mH;replace TX:=yd TX;refine bH 10 ?_;intro iF EV EW;refine B 5 ?_;refine CI (Hz:=[(iF,oC (aX (ak) 0) 352)]) (H0:=[(iZ,aU 5 (oM s) s31),(b6,oC (zK) 127)]) (first:=[]) (cap:=[]) (v:=λ_:Nat=>ptr iF 0) (Hn:=λbR=>[(iF,oC (aX (bV bR 32 64) 0) 352),(bR,aU 5 (cI f) (jA 32))]) (Φ:=λ_=>True) rfl rfl call207 rfl rfl rfl ⟨.inr ⟨by omega,by omega,by omega,trivial⟩,trivial⟩ (λW hS=>njj iF 352 f hf W (hS.own _ A0)) ?_;rintro bR-jY;have xx:bR=iF\/(w15.heap.size<=bR/\w3.heap.size<=bR/\w.heap.size<=bR/\iZ≠bR/\b6≠bR):=by
  rcases jY (bR,_) A1 with h|h
  ·left;simpa[keys]using h
  right;obtain⟨⟨h1,h2,h3,_⟩,h4⟩:=h;simp only[bM]at h4;exact⟨h1,h2,h3,h4.2.1,h4.2.2.1⟩
 refine B 3 ?_;refine nwd (i:=0) (j:=1) rfl rfl zA λwH=>?_;refine nwd (i:=1) (j:=2) rfl rfl zA λap5=>?_;refine CI (Hz:=[(iF,oC (aX (bV bR (cI f).length 64) 0) 352),(bR,aU 5 (cI f) (jA 32))]) (H0:=[(iZ,aU 5 (oM s) s31),(b6,oC (zK) 127)]) (first:=[]) (cap:=[]) (v:=λ_:Unit=>.tuple #[ab ((oM s).length:Int),.nilIface]) (Hn:=λ_=>[(iF,oC (aX (bV bR (cI f++oM s).length 64) 0) 352),(bR,aU 5 (cI f++oM s) ((jA 32).drop (oM s).length))]) (Φ:=λ_=>True) (by rw[nI]) rfl call208 rfl rfl rfl ⟨.inr ⟨by omega,by omega,by omega,trivial⟩,.inr ⟨by omega,by omega,by omega,trivial⟩,trivial⟩ (λW hS=>nIg iF bR 352 (cI f) (jA 32) (oM s) iZ 0 c31 (by rw[nI,nDi s mq];omega) (by rw[PD,nI]) (by rw[nI];decide) W (hS.own _ A0) (hS.own _ A1) wH (cx.row (hS.own _ A2)) aa aa) ?_;rintro _-lS;refine B 4 ?_;refine call call209 rfl rfl rfl (λW hS=>by rw[<-lz];exact nTm hZ iF bR 352 (⟨#[100,101,114,105,118,101]⟩:ByteArray) zA (cI f++oM s) (by rw[cO,nI];omega) W (hS.own _ A0) (cx.row (hS.own _ A1)) (hg.old hS A2 zH (by simp[Over]<;>omega))) (v:=.agg (dg df)) ?_;refine B 4 ?_;refine cu (.inl rfl) results142 bB A2 zB ?_;rw[show sI Z f s=df from lz];rfl
theorem HL(hZ:FxOk Z)(s:ByteArray)(hs0:s.size<1000)(f:Nat->Int)(hf:eu f)(b t:Nat)(fr:Nat×Nat)(w:World)(h:w.heap[b]? =some (.cells (dg f) t fr))(hg:Glb w):Calls prog 195 #[.string s,.slice (ao b) 32 32] w (aP w (ab (Z.sc s (cI f)))):=by
 have:=Oz hZ s hs0 (cI f) (by rw[nI];decide) b 0 32 (by rw[nI];decide) w (cx.dg h hf) hg;rwa[nI]at this
theorem iE.dg{tx e' c:Nat}{f:Nat->Int}{w1:World}(hU:C.P.underlying tx=some (.slice e'))(hf:eu f)(hm:w1∈L)(h:w1.heap[b]? =some (.cells (Px.dg f) t fr))(hG:¬G.X b)(hO:bM H b):iE C G L H tx (.slice (ao b) 32 c) (cI f):=by
 have:=iE.seg (c:=c) hU hm (cx.dg h hf) hG hO;rwa[nI]at this
theorem nrh(hZ:FxOk Z)(f:Nat->Int)(s:ByteArray):eu (sI Z f s):=hZ.byt _ _
theorem nnl(hZ:FxOk Z)(f:Nat->Int)(hf:eu f)(s:ByteArray)(abt:s.size<=28)(w:World)(hg:Glb w):Calls prog 203 #[.agg (dg f),.string s] w (aP w (ab (WY Z f s))):=by
 have hg4:=hg.lt;have hB:=nrh hZ f s;obtain⟨df,lz⟩:∃df,sI Z f s=df:=⟨_,rfl⟩;rw[lz]at hB;refine eN func203 ntmps203 ?_;refine cH 2 ?_;intro b2 w2 dw bX fB dJ dH;refine B 7 ?_;refine call call142 rfl rfl rfl (λW hS=>by rw[<-lz];exact noe hZ f hf s abt W (hg.old hS A1 zH zF)) (v:=.agg (dg df)) ?_;refine bH 1 ?_;intro b5 rF rG;refine B 5 ?_;refine rv rfl rfl rfl (fY (h:=32) underlying127 sizeOf5 rfl rfl aa) ?_;refine call call195 rfl rfl rfl (λW hS=>HL hZ (⟨#[115,99,97,108,97,114]⟩:ByteArray) zA df hB b5 _ _ W (hS.own _ A0) (hg.old hS A1 zH zF)) ?_;refine B 4 ?_;refine cu (.inl rfl) results203 bB A1 zB ?_;unfold WY;rw[lz];rfl
theorem HM{f:Nat}{fn:Func}{l:List Oper}{id d ty:Nat}{pos:String}{aC:Array Edge}{eJ:Array Nat}{x:Code}(u u':FrameMode)(rv:Value)(hu:∀(c₀:Frame) (cs:List Frame),c₀.mode=u->HN (c₀::cs)=(rv,{c₀ with mode:=u'}::cs))(hf:P.funcs[f]? =some fn)(hb:fn.body=some (.seq (.region id ((⟨some d,.call ⟨.builtin .recover,#[],eJ⟩,ty,pos,aC,none⟩:Oper)::l).toArray false) (.cond (.tmp t) x .skip)))(hr0:fn.results=#[])(hN:fn.ntmps=N)(hl:Nat.ble vs.length N=true)(hd:Nat.blt d N=true)(hS:St G [w] H w)(h:OJ ⟨P,none,N⟩ ((⟨some d,.call ⟨.builtin .recover,#[],eJ⟩,ty,pos,aC,none⟩:Oper)::l).toArray (λe a W=>e= .normal/\a.defers=[]/\a.eval (.tmp t)=bG/\Below w.heap.size w W) l ((d,rv)::yx 0 vs) [] G [w] H):CallsDIn (FW none) 0 P f vs.toArray u w (λe u'' w'=>u''=u'/\(∃v,e= .returned v)/\Below w.heap.size w w'):=by
 refine callsDIn_of_wpSIn hf hb trivial λc₀ cs hc=>?_;have jz:(vs.toArray++Array.replicate (fn.ntmps-vs.toArray.size) undef).size=N:=by
  have:=eh hl;simp[hN];omega
 have hF:Fits (yx 0 vs) ⟨vs.toArray++Array.replicate (fn.ntmps-vs.toArray.size) undef,[]⟩:=npc vs _;have p7:=hu c₀ cs hc;refine wpSIn_seq (nSp (w':=w) (rest:=List.range' 1 l.length) rfl ?_ rfl ?_ (λ_ _=>trivial) ?_ ?_)
 ·simp[List.range_eq_range',List.range'_succ]
 ·simp[Region.wanted]
 ·simp[execOp,resolve,invoke,builtin,Deferred.ofValue]
 rw[p7,wpOpsIn_eq_wpListIn l 1 (λj=>by simp[Nat.add_comm])];have hwp:=h ((⟨vs.toArray++Array.replicate (fn.ntmps-vs.toArray.size) undef,[]⟩:Act).put (some d) rv) w (by simp only[Act.put];simpa using jz) rfl (hF.put rv (by rw[jz];exact nW hd)) hS;have mono:∀(l':List Oper) (a:Act) (W:World),wpListIn (FW none) 0 P ((⟨some d,.call ⟨.builtin .recover,#[],eJ⟩,ty,pos,aC,none⟩:Oper)::l).toArray (λe a W=>e= .normal/\a.defers=[]/\a.eval (.tmp t)=bG/\Below w.heap.size w W) l' a W->
  wpListIn (FW none) 0 P ((⟨some d,.call ⟨.builtin .recover,#[],eJ⟩,ty,pos,aC,none⟩:Oper)::l).toArray (λe a' w'=>Exit.thenS ((Code.cond (.tmp t) x .skip).wpSIn (FW none) 0 P (bodyPostS P fn c₀ cs (λe u'' w'=>u''=u'/\(∃v,e= .returned v)/\Below w.heap.size w w'))) (bodyPostS P fn c₀ cs (λe u'' w'=>u''=u'/\(∃v,e= .returned v)/\Below w.heap.size w w')) e a' ({c₀ with mode:=u'}::cs) w') l' a W:=by
  intro l';induction l' with
  |nil=>
   intro a W hq;obtain⟨_,h1,h2,h3⟩:=hq;exact wpSIn_cond (t:=false) h2 (wpSIn_of_wpIn rfl (wpIn_skip ⟨h1,u',rfl,.tuple #[],results_none hr0 _ _ _,rfl,⟨_,rfl⟩,h3⟩))
  |cons o l' ih=>
   intro a W hq;unfold wpListIn at hq ⊢;split
   ·rename_i hwt;rw[if_pos hwt]at hq;refine nrj (λa' W' hk=>ih a' W' hk) (λc a' W' hk=>?_) (λhk=>?_) hq
    ·exact absurd hk.1 zJ
    obtain⟨a0,w0,hk⟩:=hk;exact absurd hk.1 zJ
   rename_i hwt;rw[if_neg hwt]at hq;exact⟨hq.1,ih _ _ hq.2⟩
 exact mono l _ _ hwp
theorem Rd.segN{off c n:Nat}{zs:List UInt8}{w1:World}(hn:zs.length=n)(hm:w1∈L)(h:cx w1 b off zs)(hG:¬G.X b)(hO:bM H b):Rd C G L H 1 n (.slice (some ⟨b,off,none⟩) n c) (ub zs):=by subst hn;exact Rd.seg hm h hG hO
theorem MH(w:World):CallsDIn (FW none) 0 prog 331 #[] .returning w (λe u' w'=>u'= .returning/\(∃v,e= .returned v)/\Below w.heap.size w w'):=by
 refine HM (vs:=[]) .returning .returning .nilIface n8k func331 rfl results331 ntmps331 rfl rfl (JU w) ?_;refine B 1 ?_;exact OJ.done λa W hN hD hF hS=>⟨rfl,hD,hF.ev rfl,hS.base A0 trivial⟩
theorem nql(bR:Nat)(xs:List UInt8)(hx:xs.length=64)(w:World)(sH:cx w bR 0 xs):Calls prog 311 #[.slice (ao bR) 64 64,ab 32] w (cZ w (λq:Nat×Nat=>.slice (ao q.1) 64 q.2) (λq w1=>w.heap.size<=q.1/\96<=q.2/\w1.heap[q.1]? =some (aU 5 xs (jA (q.2-64))))):=by
 have aH:=sH.lt;refine TY (vs:=[_,_]) Gh.no [] func311 rfl ntmps311 rfl (JU w) ?_;refine B 7 ?_;refine OJ.defer (cap:=[]) rfl rfl ?_;refine aE 5 (ab 64) ?_;refine B 1 ?_;refine rr (ab 96) (jx rfl rfl zA zA) ?_;refine aE 8 (ab 64) ?_;refine rr (ab 128) (vP rfl rfl zA zA) ?_;refine Rz ?_;refine dp (ab 64) ?_;refine rr (ab 128) (vP rfl rfl zA zA) ?_;refine B 6 ?_;refine XO (n:=128) underlying106 underlying3 Vk rfl rfl rfl rfl rfl rfl rfl rfl zA zA ?_;intro rL c21 D8 Qu aby;replace D8:=yb D8;refine B 7 ?_;refine OJ.reH (H':=[(rL,oC (ub ([]:List UInt8)++jA c21).toArray 5)]) (by rw[<-mkz]) ?_;refine Vj (i:=0) (m:=1) (n:=64) (k:=64) (news:=ub xs) rfl underlying106 sizeOf5 rfl rfl rfl rfl (λ_=>rfl) zA (Rd.segN hx A0 sH zI zz) (by simp only[rh,cO,wP,PD,fO];omega) (MG _) ?_;refine zLf ?_;refine B 4 ?_;refine PJ.reH (H':=[(rL,aU 5 xs (jA (c21-64)))]) (by have:=nYf [] xs (jA c21) (by rw[PD];omega);simp only[fO,eX]at this;simp only[dx,aU];rw[this,n0f,hx]) ?_;exact alI (.inl rfl) call331 (λW hS=>MH W) results311 bB λW hS=>⟨(rL,c21),rfl,hS.base A0 C2,by dsimp only;omega,by dsimp only;omega,hS.own _ A0⟩
theorem ncn(bI bR n c:Nat)(lr:Int)(t:Nat)(fr:Nat×Nat)(hn:n<=1000000)(w:World)(hb0:w.heap[bI]? =some (.cells (aX (.slice (ao bR) n c) lr) t fr)):Calls prog 309 #[ptr bI 0] w (aP w (ab (n:Int))):=by
 have xO:¬Gh.no.X bI:=λh=>h;refine ef 6 func309 ntmps309 ?_;refine eA 9 (k:=?_);refine B 5 ?_;refine aK results309 rfl A0 ?_;exact congrArg ab aa
theorem nbh(bI bR n c:Nat)(lr:Int)(t:Nat)(fr:Nat×Nat)(m:Nat)(hn:n<=c)(hc:c<=1000000)(hm:c<n+m)(w:World)(hb0:w.heap[bI]? =some (.cells (aX (.slice (ao bR) n c) lr) t fr)):Calls prog 269 #[ptr bI 0,ab (m:Int)] w (aP w (.tuple #[ab 0,bG])):=by
 exact zth
theorem n3k(bI bR:Nat)(xs:List UInt8)(hx:xs.length=64)(t:Nat)(w:World)(hb:w.heap[bI]? =some (oC (aX (.slice (ao bR) 64 64) 0) t))(sH:cx w bR 0 xs)(hne:bR≠bI):Calls prog 270 #[ptr bI 0,ab 32] w (mK w [bI] (λ_:Nat×Nat=>ab 64) (λq=>[(bI,oC (aX (.slice (ao q.1) 96 q.2) 0) t),(q.1,aU 5 xs (jA (q.2-64)))]) (λq=>96<=q.2)):=by
 have jr:=(bA.1 hb).1;have hRl:=sH.lt;refine nB (vs:=[_,_]) (Gh.lent (λk=>k∈keys [(bI,oC (aX (.slice (ao bR) 64 64) 0) t)])) [(bI,oC (aX (.slice (ao bR) 64 64) 0) t)] func270 rfl ntmps270 rfl (HH (fK.mem ⟨hb,trivial⟩) (EE _)) ?_;refine B 8 ?_;refine call call309 rfl rfl rfl (λW hS=>ncn bI bR 64 64 0 _ _ zA W (hS.own _ A0)) ?_;refine aE 7 bG ?_;refine B 17 ?_;refine call call269 rfl rfl rfl (λW hS=>nbh bI bR 64 64 0 _ _ 32 zA zA zA W (hS.own _ A0)) ?_;refine B 22 ?_;refine rv rfl rfl rfl (vw underlying106 rfl rfl) ?_;refine aE 15 (ab 64) ?_;refine B 8 ?_;refine rr (ab 32) (EC rfl rfl zA zA zA) ?_;refine B 1 ?_;refine rr (ab (-32)) (pq rfl rfl zA zA) ?_;refine wX ?_;refine rr (ab 9223372036854775743) (pq rfl rfl zA zA) ?_;refine B 1 ?_;refine rr (ab 9223372036854775711) (pq rfl rfl zA zA) ?_;refine dp bG ?_;refine B 3 ?_;refine eS 17 16 [] (pb:=by exact zU 9 (k:=by exact aJ (X.v (RV.re (v':=.slice (ao bR) 64 64) (gu (l:=0) (h:=64) (off':=0) underlying106 sizeOf5 rfl ⟨_,_,rfl,rfl⟩ rfl zA zA zA) rfl)) zT)) (sp:=[_,_,_,_,_,_,_,_,_,_,_,_,_,_,_,some (ab 32),_]) (h:=?_);intro _ _ hk;refine Qx (α:=Nat×Nat) (v:=λq=>.slice (ao q.1) 64 q.2) (bo:=λq=>(q.1,aU 5 xs (jA (q.2-64)))) (Φ:=λq=>96<=q.2) call311 rfl rfl rfl (λW hS=>nql bR xs hx W (sH.old hS A0 yw zz)) ?_
 rintro⟨bn,cn⟩ mX iw uD;dsimp only at mX iw uD;simp only[ah,and_true]at mX;simp only[bM,ne_eq,and_true]at iw;have hnI:bn≠bI:=λe=>iw e.symm;refine zE ?_;refine B 2 ?_;refine zPe ?_;refine B 7 ?_;refine kT (i:=1) rfl sizeOf3 rfl rfl rfl rfl (eh rfl) rfl ?_;refine B 11 ?_;refine rr (ab 96) (jx rfl rfl zA zA) ?_;refine rv rfl rfl rfl (eL (h:=96) underlying106 sizeOf5 rfl ⟨_,_,rfl,rfl⟩ aa) ?_;refine B 2 ?_;refine zPe ?_;refine B 9 ?_;refine PJ.swp ?_;exact tZ (Hz:=[(bI,oC (aX (.slice (ao bR) 64 64) 0) t)]) (H0:=[]) (bn,cn) (.inl rfl) results270 bB A0 JH rfl uD
theorem nXj(bI bR:Nat)(xs:List UInt8)(hx:xs.length=64)(zs:List UInt8)(hz:zs.length=32)(bz oz cz t:Nat)(w:World)(hb:w.heap[bI]? =some (oC (aX (.slice (ao bR) 64 64) 0) t))(KQ:cx w bR 0 xs)(hne:bR≠bI)(mq:cx w bz oz zs)(tP:bz≠bI):Calls prog 208 #[ptr bI 0,.slice (some ⟨bz,oz,none⟩) 32 cz] w (mK w [bI] (λ_:Nat×Nat=>.tuple #[ab 32,.nilIface]) (λq=>[(bI,oC (aX (.slice (ao q.1) 96 q.2) 0) t),(q.1,aU 5 (xs++zs) (jA (q.2-96)))]) (λq=>96<=q.2)):=by
 have jr:=(bA.1 hb).1;have hRl:=KQ.lt;have B7:=mq.lt;refine nB (vs:=[_,_]) (Gh.lent (λk=>k∈keys [(bI,oC (aX (.slice (ao bR) 64 64) 0) t)])) [(bI,oC (aX (.slice (ao bR) 64 64) 0) t)] func208 rfl ntmps208 rfl (HH (fK.mem ⟨hb,trivial⟩) (EE _)) ?_;refine B 11 ?_;refine zQe ?_;refine aE 6 (ab 32) ?_;refine call call269 rfl rfl rfl (λW hS=>nbh bI bR 64 64 0 _ _ 32 zA zA zA W (hS.own _ A0)) ?_;refine aE 18 (ab 32) ?_;refine CI (Hz:=[(bI,oC (aX (.slice (ao bR) 64 64) 0) t)]) (H0:=[]) (first:=[]) (cap:=[]) (v:=λ_:Nat×Nat=>ab 64) (Hn:=λq=>[(bI,oC (aX (.slice (ao q.1) 96 q.2) 0) t),(q.1,aU 5 xs (jA (q.2-64)))]) (Φ:=λq=>96<=q.2) rfl rfl call270 rfl rfl rfl ⟨.inl TV,trivial⟩ (λW hS=>n3k bI bR xs hx t W (hS.own _ A0) (KQ.old hS A0 yw zz) hne) ?_;rintro⟨bn,cn⟩ uD jY;dsimp only at uD jY ⊢;have mX:bn=bI\/w.heap.size<=bn:=by
  rcases jY (bn,_) A1 with h|h
  ·left;simpa[keys]using h
  right;exact h.1.1
 refine B 10 ?_;refine rv rfl rfl rfl (gu (l:=64) (h:=96) (off':=64) underlying106 sizeOf5 rfl ⟨_,_,rfl,rfl⟩ rfl aa aa XJ) ?_;refine B 1 ?_;refine Vj (i:=1) (m:=1) (n:=32) (k:=32) (news:=ub zs) rfl underlying106 sizeOf5 rfl rfl rfl rfl (λ_=>rfl) zA (Rd.segN hz A0 mq yw zz) (by simp only[rh,cO,wP,PD];omega) (MG _) ?_;refine B 5 ?_;refine PJ.reH (H':=[(bI,oC (aX (.slice (ao bn) 96 cn) 0) t),(bn,aU 5 (xs++zs) (jA (cn-96)))]) (by have:=nYf xs zs (jA (cn-64)) (by rw[PD];omega);rw[hx,n0f,hz,Nat.sub_sub]at this;simp only[ec,dx,aU];rw[this];rfl) ?_;exact tZ (Hz:=[(bI,oC (aX (.slice (ao bR) 64 64) 0) t)]) (H0:=[]) (bn,cn) (.inl rfl) results208 bB A0 JH rfl uD
theorem n9m(bI bR n c:Nat)(lr:Int)(t:Nat)(fr:Nat×Nat)(hn:n<=c)(w:World)(hb0:w.heap[bI]? =some (.cells (aX (.slice (ao bR) n c) lr) t fr)):Calls prog 271 #[ptr bI 0] w (aP w (.slice (ao bR) n c)):=by
 have xO:¬Gh.no.X bI:=λh=>h;refine ef 6 func271 ntmps271 ?_;refine eA 8 (k:=?_);refine rv rfl rfl rfl (gu (l:=0) (h:=n) (off':=0) underlying106 sizeOf5 rfl ⟨_,_,rfl,rfl⟩ rfl aa aa (by split<;>rfl)) ?_;refine B 4 ?_;refine aK results271 rfl A0 ?_;rfl
theorem nhk(hZ:FxOk Z)(bI bR c t:Nat)(s:ByteArray)(hs0:s.size<1000)(xs:List UInt8)(hxl:xs.length<=c)(Ju:xs.length<=1000)(w:World)(hb:w.heap[bI]? =some (oC (aX (.slice (ao bR) xs.length c) 0) t))(hR:cx w bR 0 xs)(hg:Glb w):Calls prog 209 #[ptr bI 0,.string s] w (aP w (.agg (dg (Z.tg s xs)))):=by
 have jr:=(bA.1 hb).1;have hRl:=hR.lt;have hg4:=hg.lt;obtain⟨df,lz⟩:∃df,Z.tg s xs=df:=⟨_,rfl⟩;refine eN func209 ntmps209 ?_;refine bH 3 ?_;intro b4 iT iU;refine B 8 ?_;refine call call271 rfl rfl rfl (λW hS=>n9m bI bR xs.length c 0 t _ hxl W (hS.old A0 hb zI zz)) ?_;refine call call87 rfl rfl rfl (λW hS=>by rw[<-lz];exact nTh hZ s hs0 xs aa bR 0 c hxl W (hR.old hS A0 zI zz) (hg.old hS A0 zH zF)) (v:=.agg (dg df)) ?_;refine B 4 ?_;refine cu (.inl rfl) results209 bB A0 zB ?_;rw[lz];rfl
theorem nlk(bI bR t:Nat)(xs:List UInt8)(hx:xs.length=32)(f:Nat->Int)(b3 t3:Nat)(ra:Nat×Nat)(hf:eu f)(w:World)(hb:w.heap[bI]? =some (oC (aX (.slice (ao bR) 32 64) 0) t))(xx:w.heap[bR]? =some (aU 5 xs (jA 32)))(wH:bI≠bR)(dA:w.heap[b3]? =some (.cells (dg f) t3 ra))(hne:b3≠bI)(tP:b3≠bR):Calls prog 208 #[ptr bI 0,.slice (ao b3) 32 32] w (mK w [bI,bR] (λ_:Unit=>.tuple #[ab 32,.nilIface]) (λ_=>[(bI,oC (aX (.slice (ao bR) 64 64) 0) t),(bR,aU 5 (xs++cI f) [])]) (λ_=>True)):=by
 have h:=nIg bI bR t xs (jA 32) (cI f) b3 0 32 (by rw[nI,hx];decide) (by rw[PD,hx]) (by rw[hx];decide) w (by rw[hx];exact hb) xx wH (cx.dg dA hf) hne tP;simp only[cO,nI,hx,n0f]at h;exact h
theorem nok(bI bR t:Nat)(xs:List UInt8)(hx:xs.length=64)(f:Nat->Int)(b3 t3:Nat)(ra:Nat×Nat)(hf:eu f)(w:World)(hb:w.heap[bI]? =some (oC (aX (.slice (ao bR) 64 64) 0) t))(KQ:cx w bR 0 xs)(TZ:bR≠bI)(dA:w.heap[b3]? =some (.cells (dg f) t3 ra))(hne:b3≠bI):Calls prog 208 #[ptr bI 0,.slice (ao b3) 32 32] w (mK w [bI] (λ_:Nat×Nat=>.tuple #[ab 32,.nilIface]) (λq=>[(bI,oC (aX (.slice (ao q.1) 96 q.2) 0) t),(q.1,aU 5 (xs++cI f) (jA (q.2-96)))]) (λq=>96<=q.2)):=
 nXj bI bR xs hx (cI f) (nI f) b3 0 32 t w hb KQ TZ (cx.dg dA hf) hne
theorem abz(s:ByteArray)(hs:s.size<1000)(D:Nat->Int)(hD:vZ s.size (sB s)=D)(b c t:Nat)(fr:Nat×Nat)(cs:Array Value)(hc:s.size<=c)(w:World)(hb:w.heap[b]? =some (.cells cs t fr))(ho:0+s.size<=cs.size)(hm:∀i,i<s.size->cs[0+i]? =some (.int .u8 (sB s i)))(hg:Glb w):Calls prog 164 #[.slice (ao b) s.size c] w (aP w (.agg (dg D))):=by
 subst hD;obtain⟨⟨t2,xQ,g1⟩,t3,ra,g2⟩:=hg;exact n9f s.size (sB s) b 0 c t t2 t3 fr xQ ra cs hc aa w hb ho hm g1 g2
theorem ndn(bI bR t:Nat)(xs:List UInt8)(hx:xs.length=32)(f:Nat->Int)(hf:eu f)(w:World)(hb:w.heap[bI]? =some (oC (aX (.slice (ao bR) 32 64) 0) t))(xx:w.heap[bR]? =some (aU 5 xs (jA 32)))(wH:bI≠bR):Calls prog 207 #[ptr bI 0,.agg (dg f)] w (mK w [bI,bR] (λ_:Unit=>ptr bI 0) (λ_=>[(bI,oC (aX (.slice (ao bR) 64 64) 0) t),(bR,aU 5 (xs++cI f) [])]) (λ_=>True)):=by
 have jr:=(bA.1 hb).1;have Eg:=(bA.1 xx).1;refine nB (vs:=[_,_]) (Gh.lent (λk=>k∈keys [(bI,oC (aX (.slice (ao bR) 32 64) 0) t),(bR,aU 5 xs (jA 32))])) [(bI,oC (aX (.slice (ao bR) 32 64) 0) t),(bR,aU 5 xs (jA 32))] func207 rfl ntmps207 rfl (HH (fK.mem ⟨hb,xx,trivial⟩) (WV wH)) ?_;refine cH 2 ?_;intro b3 w3 dA cX fT eC ff;refine B 4 ?_;refine eA 4 (pb:=by exact zU 3 (k:=by exact aJ (X.v (fY (h:=32) underlying127 sizeOf5 rfl rfl aa)) (rf rfl))) (k:=?_);refine CI (Hz:=[(bI,oC (aX (.slice (ao bR) 32 64) 0) t),(bR,aU 5 xs (jA 32))]) (H0:=[]) (first:=[]) (cap:=[]) (v:=λ_:Unit=>.tuple #[ab 32,.nilIface]) (Hn:=λ_=>[(bI,oC (aX (.slice (ao bR) 64 64) 0) t),(bR,aU 5 (xs++cI f) [])]) (Φ:=λ_=>True) rfl rfl call208 rfl rfl rfl ⟨.inl TV,.inl TV,trivial⟩ (λW hS=>nlk bI bR t xs hx f b3 _ _ hf W (hS.own _ A0) (hS.own _ A1) wH (hS.old A0 dA cX zz) aa aa) ?_;rintro _-jY;refine B 9 ?_;exact tZ (Hz:=[(bI,oC (aX (.slice (ao bR) 32 64) 0) t),(bR,aU 5 xs (jA 32))]) (H0:=[]) () (.inl rfl) results207 bB A1 JH rfl trivial
theorem nen(bI bR t:Nat)(xs:List UInt8)(hx:xs.length=64)(f:Nat->Int)(hf:eu f)(w:World)(hb:w.heap[bI]? =some (oC (aX (.slice (ao bR) 64 64) 0) t))(KQ:cx w bR 0 xs)(TZ:bR≠bI):Calls prog 207 #[ptr bI 0,.agg (dg f)] w (mK w [bI] (λ_:Nat×Nat=>ptr bI 0) (λq=>[(bI,oC (aX (.slice (ao q.1) 96 q.2) 0) t),(q.1,aU 5 (xs++cI f) (jA (q.2-96)))]) (λq=>96<=q.2)):=by
 have jr:=(bA.1 hb).1;have hRl:=KQ.lt;refine nB (vs:=[_,_]) (Gh.lent (λk=>k∈keys [(bI,oC (aX (.slice (ao bR) 64 64) 0) t)])) [(bI,oC (aX (.slice (ao bR) 64 64) 0) t)] func207 rfl ntmps207 rfl (HH (fK.mem ⟨hb,trivial⟩) (EE _)) ?_;refine cH 2 ?_;intro b3 w3 dA cX fT eC ff;refine B 4 ?_;refine eA 4 (pb:=by exact zU 3 (k:=by exact aJ (X.v (fY (h:=32) underlying127 sizeOf5 rfl rfl aa)) (rf rfl))) (k:=?_);refine CI (Hz:=[(bI,oC (aX (.slice (ao bR) 64 64) 0) t)]) (H0:=[]) (first:=[]) (cap:=[]) (v:=λ_:Nat×Nat=>.tuple #[ab 32,.nilIface]) (Hn:=λq=>[(bI,oC (aX (.slice (ao q.1) 96 q.2) 0) t),(q.1,aU 5 (xs++cI f) (jA (q.2-96)))]) (Φ:=λq=>96<=q.2) rfl rfl call208 rfl rfl rfl ⟨.inl TV,trivial⟩ (λW hS=>nok bI bR t xs hx f b3 _ _ hf W (hS.own _ A0) (KQ.old hS A1 yw zz) TZ (hS.old A0 dA cX zz) aa) ?_;rintro⟨bn,cn⟩ uD jY;have mX:bn=bI\/w.heap.size<=bn:=by
  rcases jY (bn,_) A1 with h|h
  ·left;simpa[keys]using h
  right;exact h.1.2.1
 dsimp only at uD ⊢;refine B 9 ?_;exact tZ (Hz:=[(bI,oC (aX (.slice (ao bR) 64 64) 0) t)]) (H0:=[]) (bn,cn) (.inl rfl) results207 bB A1 JH rfl uD
theorem nUj(hZ:FxOk Z)(bI bR c t:Nat)(s:ByteArray)(hs0:s.size<1000)(xs:List UInt8)(hx:xs.length=96)(hc:96<=c)(w:World)(hb:w.heap[bI]? =some (oC (aX (.slice (ao bR) 96 c) 0) t))(hR:cx w bR 0 xs)(hg:Glb w):Calls prog 209 #[ptr bI 0,.string s] w (aP w (.agg (dg (Z.tg s xs)))):=
 nhk hZ bI bR c t s hs0 xs aa aa w (by rw[hx];exact hb) hR hg
theorem n1o(hZ:FxOk Z)(s:ByteArray)(hs:s.size<1000)(a b:Nat->Int)(ha:eu a)(hb:eu b)(w:World)(hg:Glb w):Calls prog 202 #[.string s,.agg (dg a),.agg (dg b)] w (cZ w (λf:Nat->Int=>.agg (dg f)) (λf _=>eu f)):=by
 have hg4:=hg.lt;obtain⟨D,hD⟩:∃D,vZ s.size (sB s)=D:=⟨_,rfl⟩;have hDB:eu D:=by rw[<-hD];exact nGn _ _
 refine eN func202 ntmps202 ?_;refine cH 2 ?_;intro b4 w4 DX BR Vg iT iU;refine yX ?_;intro b5 w5 AP QW Yo rF rG;refine bH 1 ?_;intro b6 ky ri;refine bH 5 ?_;intro b7 kh v7;refine B 3 ?_;refine CJ.less (E':=[(0,_),(1,_),(2,_),(4,_),(5,_),(6,_),(7,_)]) zR ?_;refine CJ.chn 7 [1,2,3,5] [_,none,none,none,_,none,_] (λcv L' H'=>let iY:ad:=[(b7,oC (aX (ak) 0) 352),(b6,oC (zK) 127)];let eo:ad:=iY;match cv with| []=>L'=[w5,w4,w]/\H'=eo| [v1]=>∃(b9:Nat) (c9:Nat) (w9:World) (pT:Array Value) (vQ:Nat×Nat),v1= .slice (ao b9) s.size c9/\L'=[w9,w5,w4,w]/\H'=eo/\w9.heap[b9]? =some (.cells pT 5 vQ)/\bM iY b9/\s.size<=c9/\0+s.size<=pT.size/\(∀i,i<s.size->pT[0+i]? =some (.int .u8 (sB s i)))| [v1,v2]=>∃(b9:Nat) (c9:Nat) (w9:World) (pT:Array Value) (vQ:Nat×Nat),v1= .slice (ao b9) s.size c9/\v2= .agg (dg D)/\L'=[w5,w4,w]/\H'=eo/\w9.heap[b9]? =some (.cells pT 5 vQ)/\bM iY b9/\s.size<=c9/\0+s.size<=pT.size/\(∀i,i<s.size->pT[0+i]? =some (.int .u8 (sB s i)))| [v1,v2,v3]=>∃(b9:Nat) (c9:Nat) (w9:World) (pT:Array Value) (vQ:Nat×Nat) (bR:Nat),v1= .slice (ao b9) s.size c9/\v2= .agg (dg D)/\v3=ptr b7 0/\L'=[w5,w4,w]/\H'=[(b7,oC (aX (.slice (ao bR) 32 64) 0) 352),(bR,aU 5 (cI D) (jA 32)),(b6,oC (zK) 127)]/\w9.heap[b9]? =some (.cells pT 5 vQ)/\bM iY b9/\s.size<=c9/\0+s.size<=pT.size/\(∀i,i<s.size->pT[0+i]? =some (.int .u8 (sB s i)))/\b7≠bR/\b6≠bR/\w5.heap.size<=bR/\w4.heap.size<=bR/\w.heap.size<=bR| [v1,v2,v3,v4]=>∃(b9:Nat) (c9:Nat) (w9:World) (pT:Array Value) (vQ:Nat×Nat) (bR:Nat),v1= .slice (ao b9) s.size c9/\v2= .agg (dg D)/\v3=ptr b7 0/\v4=ptr b7 0/\L'=[w5,w4,w]/\H'=[(b7,oC (aX (.slice (ao bR) 64 64) 0) 352),(bR,aU 5 (cI D++cI a) []),(b6,oC (zK) 127)]/\w9.heap[b9]? =some (.cells pT 5 vQ)/\bM iY b9/\s.size<=c9/\0+s.size<=pT.size/\(∀i,i<s.size->pT[0+i]? =some (.int .u8 (sB s i)))/\b7≠bR/\b6≠bR/\w5.heap.size<=bR/\w4.heap.size<=bR/\w.heap.size<=bR|_=>False) (pc zM (pk (pk (pk (pc zct (pk (pc zct (pn)))))))) ?_ ?_
 ·refine ss rfl ?_ ?_
  ·intro cv L' H' hl hP F Q' hk;obtain rfl:=my hl;obtain⟨rfl,rfl⟩:=hP;refine Ou underlying9 underlying106 underlying5 rfl rfl rfl ?_;intro b_ c_ w_ cs_ fr_ tr pL iw xy yz hc_ alJ FI;exact OJ.done (hk _ _ _ ⟨b_,c_,w_,cs_,fr_,rfl,rfl,rfl,tr,iw,hc_,alJ,FI⟩)
  refine ss rfl ?_ ?_
  ·intro cv L' H' hl hP F Q' hk;obtain⟨v1,rfl⟩:=jv hl;obtain⟨b9,c9,w9,pT,vQ,rfl,rfl,rfl,sF,uj,ph,sJ,HO⟩:=hP;refine call (v:=.agg (dg D)) call164 rfl rfl rfl (λW hS=>abz s hs D hD b9 c9 _ vQ pT ph W (hS.old A0 sF zI uj) sJ HO (hg.old hS A3 zH zF)) ?_;exact OJ.done (B1 zJ (hk _ _ _ ⟨b9,c9,w9,pT,vQ,rfl,rfl,rfl,rfl,sF,uj,ph,sJ,HO⟩))
  refine ss rfl ?_ ?_
  ·intro cv L' H' hl hP F Q' hk;obtain⟨v1,v2,rfl⟩:=rP hl;obtain⟨b9,c9,w9,pT,vQ,rfl,rfl,rfl,rfl,sF,uj,ph,sJ,HO⟩:=hP;refine CI (Hz:=[(b7,oC (aX (ak) 0) 352)]) (H0:=[(b6,oC (zK) 127)]) (first:=[]) (cap:=[]) (v:=λ_:Nat=>ptr b7 0) (Hn:=λbR=>[(b7,oC (aX (.slice (ao bR) 32 64) 0) 352),(bR,aU 5 (cI D) (jA 32))]) (Φ:=λ_=>True) rfl rfl call207 rfl rfl rfl ⟨.inr ⟨by omega,by omega,by omega,trivial⟩,trivial⟩ (λW hS=>njj b7 352 D hDB W (hS.own _ A0)) ?_;rintro bR-jY;refine nwd (i:=0) (j:=1) rfl rfl zA λwH=>?_;refine nwd (i:=1) (j:=2) rfl rfl zA λWZ=>?_;have xx:w5.heap.size<=bR/\w4.heap.size<=bR/\w.heap.size<=bR:=by
    rcases jY (bR,_) A1 with h|h
    ·exact absurd (show bR=b7 by simpa[keys]using h) (Ne.symm wH)
    obtain⟨h1,_⟩:=h;simp only[ah,and_true]at h1;exact h1
   exact OJ.done (hk _ _ _ ⟨b9,c9,w9,pT,vQ,bR,rfl,rfl,rfl,rfl,rfl,sF,uj,ph,sJ,HO,wH,λe=>WZ e.symm,xx⟩)
  refine ss rfl ?_ ?_
  ·intro cv L' H' hl hP F Q' hk;obtain⟨v1,v2,v3,rfl⟩:=py hl;obtain⟨b9,c9,w9,pT,vQ,bR,rfl,rfl,rfl,rfl,rfl,sF,uj,ph,sJ,HO,wH,WZ,xx⟩:=hP;refine CI (Hz:=[(b7,oC (aX (.slice (ao bR) 32 64) 0) 352),(bR,aU 5 (cI D) (jA 32))]) (H0:=[(b6,oC (zK) 127)]) (first:=[]) (cap:=[]) (v:=λ_:Unit=>ptr b7 0) (Hn:=λ_=>[(b7,oC (aX (.slice (ao bR) 64 64) 0) 352),(bR,aU 5 (cI D++cI a) [])]) (Φ:=λ_=>True) rfl rfl call207 rfl rfl rfl ⟨.inr ⟨by omega,by omega,by omega,trivial⟩,.inr ⟨by omega,by omega,by omega,trivial⟩,trivial⟩ (λW hS=>ndn b7 bR 352 (cI D) (nI D) a ha W (hS.own _ A0) (hS.own _ A1) wH) ?_;rintro _-_;exact OJ.done (hk _ _ _ ⟨b9,c9,w9,pT,vQ,bR,rfl,rfl,rfl,rfl,rfl,rfl,sF,uj,ph,sJ,HO,wH,WZ,xx⟩)
  exact nn
 intro cv L' H' hl hP;obtain⟨v1,v2,v3,v4,rfl⟩:=vo hl;obtain⟨b9,c9,w9,pT,vQ,bR,rfl,rfl,rfl,rfl,rfl,rfl,sF,uj,ph,sJ,HO,wH,WZ,xx⟩:=hP;refine CI (Hz:=[(b7,oC (aX (.slice (ao bR) 64 64) 0) 352)]) (H0:=[(bR,aU 5 (cI D++cI a) []),(b6,oC (zK) 127)]) (first:=[]) (cap:=[]) (v:=λ_:Nat×Nat=>ptr b7 0) (Hn:=λq=>[(b7,oC (aX (.slice (ao q.1) 96 q.2) 0) 352),(q.1,aU 5 (cI D++cI a++cI b) (jA (q.2-96)))]) (Φ:=λq=>96<=q.2) rfl rfl call207 rfl rfl rfl ⟨.inr ⟨by omega,by omega,by omega,trivial⟩,trivial⟩ (λW hS=>nen b7 bR 352 (cI D++cI a) (by rw[cO,nI,nI]) b hb W (hS.own _ A0) (cx.row (hS.own _ A1)) (Ne.symm wH)) ?_;rintro⟨bn,cn⟩ uD jY;dsimp only at uD jY ⊢;refine nwd (i:=0) (j:=1) rfl rfl zA λhIn=>?_;have mX:w5.heap.size<=bn/\w4.heap.size<=bn/\w.heap.size<=bn:=by
  rcases jY (bn,_) A1 with h|h
  ·exact absurd (show bn=b7 by simpa[keys]using h) (Ne.symm hIn)
  obtain⟨h1,_⟩:=h;simp only[ah,and_true]at h1;exact h1
 refine OJ.reH (H':=[(b7,oC (aX (.slice (ao bn) 96 cn) 0) 352),(bn,aU 5 (cI D++cI a++cI b) (jA (cn-96))),(bR,aU 5 (cI D++cI a) []),(b6,oC (zK) 127)]) rfl ?_;obtain⟨F6,abA⟩:∃F,Z.tg (⟨#[109,105,120]⟩:ByteArray) (cI D++cI a++cI b)=F:=⟨_,rfl⟩;have hF6:eu F6:=by rw[<-abA];exact hZ.byt _ _
 refine call (v:=.agg (dg F6)) call209 rfl rfl rfl (λW hS=>by rw[<-abA];exact nUj hZ b7 bn cn 352 (⟨#[109,105,120]⟩:ByteArray) zA (cI D++cI a++cI b) (by rw[cO,cO,nI,nI,nI]) uD W (hS.own _ A0) (cx.row (hS.own _ A1)) (hg.old hS A2 zH C2)) ?_;refine B 4 ?_;exact bQ (.inl rfl) results202 bB λW hS=>⟨F6,rfl,hS.base A2 zQ,hF6⟩
def Lab (w:World):Prop:=∃t fr,w.heap[2]? =some (.cells #[.string (⟨#[105,110,105,116]⟩:ByteArray),.string (⟨#[99,111,109,109,105,116]⟩:ByteArray),.string (⟨#[99,104,105,108,100]⟩:ByteArray)] t fr)
theorem Lab.old(h:Lab w)(hS:St G L H W)(hw:w∈L)(hX:¬G.X 2)(hH:bM H 2):Lab W:=by
 obtain⟨t,fr,h1⟩:=h;exact⟨t,fr,hS.old hw h1 hX hH⟩
theorem T0(s:ByteArray)(hs0:s.size<1000)(n:Nat)(hn:n<1000000000000)(m:Nat->Int):∃F,eu F/\∀(bb off c t t2 t3:Nat) (fr xQ ra:Nat×Nat) (cs:Array Value) (hc:n<=c) (w:World) (AK:w.heap[bb]? =some (.cells cs t fr)) (mW:off+n<=cs.size) (hm:∀i,i<n->cs[off+i]? =some (.int .u8 (m i))) (hg:Glb w),Calls prog 87 #[.string s,.slice (some ⟨bb,off,none⟩) n c] w (aP w (.agg (dg F))):=
 ⟨tagged s n m,nug _ _ _,λbb off c t _ _ fr _ _ cs hc w AK mW hm hg=>by
  obtain⟨⟨t2,xQ,g1⟩,t3,ra,g2⟩:=hg;exact npe s n m bb off c t t2 t3 fr xQ ra cs hs0 hc hn w AK mW hm g1 g2⟩
theorem nrn(hZ:FxOk Z)(f:Nat->Int)(hf:eu f)(w:World)(hg:Glb w)(hl:Lab w):Calls prog 84 #[ab 1,.agg (dg f)] w (aP w (.agg (dg (sI Z f (⟨#[99,111,109,109,105,116]⟩:ByteArray))))):=by
 have hg4:=hg.lt;obtain⟨tl,fl,Jm⟩:=hl;refine eN func84 ntmps84 ?_;refine cH 2 ?_;intro b3 w3 dA cX fT eC ff;refine bH 1 ?_;intro b4 iT iU;refine B 3 ?_;refine eA 4 (pb:=by exact zU 2 (k:=by exact aJ (X.v (RV.re (v':=ptr 2 1) (uY underlying283 sizeOf9 rfl rfl zA zA) rfl)) (aJ (X.v (ar (v:=.string (⟨#[99,111,109,109,105,116]⟩:ByteArray)) isAgg9 rfl A1 Jm zI zz rfl)) (rf rfl)))) (k:=?_);refine call call142 rfl rfl rfl (λW hS=>noe hZ f hf (⟨#[99,111,109,109,105,116]⟩:ByteArray) zA W (hg.old hS A1 zH zF)) (v:=.agg (dg (sI Z f (⟨#[99,111,109,109,105,116]⟩:ByteArray)))) ?_;refine B 4 ?_;refine cu (.inl rfl) results84 bB A1 zB ?_;rfl
theorem nBi(hZ:FxOk Z)(f:Nat->Int)(hf:eu f)(w:World)(hg:Glb w):Calls prog 139 #[.agg (dg f)] w (aP w (ab (WY Z f (⟨#[110,111,100,101]⟩:ByteArray)))):=by
 have hg4:=hg.lt;refine eN func139 ntmps139 ?_;refine cH 2 ?_;intro b1 w1 hb1 cK gS fX jK;refine B 6 ?_;refine call call203 rfl rfl rfl (λW hS=>nnl hZ f hf (⟨#[110,111,100,101]⟩:ByteArray) zA W (hg.old hS A1 zH zF)) ?_;refine B 4 ?_;refine aK results139 rfl A1 ?_;rfl
theorem nyj(hZ:FxOk Z)(e f:Nat->Int)(he:eu e)(hf:eu f)(w:World)(hg:Glb w)(hl:Lab w):Calls prog 137 #[.agg (dg e),.agg (dg f)] w (cZ w (λf:Nat->Int=>.agg (dg f)) (λf _=>eu f)):=by
 have hg4:=hg.lt;refine eN func137 ntmps137 ?_;refine cH 2 ?_;intro b2 w2 dw bX fB dJ dH;refine yX ?_;intro b3 w3 dA cX fT eC ff;refine bH 1 ?_;intro b4 iT iU;refine B 3 ?_;refine eA 3 (pb:=by exact zU 2 (k:=by exact aJ (nf call84 rfl rfl (λW hS _=>nrn hZ f hf W (hg.old hS A2 zH zF) (hl.old hS A2 zI zz)) (λ_=>rfl)) (rf rfl))) (sp:=[_,_,some (.agg (dg (sI Z f (⟨#[99,111,109,109,105,116]⟩:ByteArray))))]) (k:=?_);refine nv (α:=Nat->Int) (v:=λf=>.agg (dg f)) (Φ:=λ_ f _=>eu f) call202 rfl rfl rfl (λW hS=>n1o hZ (⟨#[101,112,111,99,104]⟩:ByteArray) zA e _ he (nrh hZ f (⟨#[99,111,109,109,105,116]⟩:ByteArray)) W (hg.old hS A2 zH zF)) ?_;rintro Wm fm wm wU KW uH;refine B 4 ?_;exact bQ (.inl rfl) results137 bB λW hS=>⟨fm,rfl,hS.base A3 z0b,uH⟩
theorem npi(hZ:FxOk Z)(f g:Nat->Int)(hf:eu f)(hg1:eu g)(w:World)(hg:Glb w):Calls prog 145 #[.agg (dg f),.agg (dg g)] w (cZ w (λf:Nat->Int=>.agg (dg f)) (λf _=>eu f)):=by
 have hg4:=hg.lt;obtain⟨F,hFB,hFc⟩:=T0 (⟨#[99,111,110,102,105,114,109]⟩:ByteArray) zA 64 zA (yP 32 f g);refine eN func145 ntmps145 ?_;refine cH 2 ?_;intro b2 w2 dw bX fB dJ dH;refine yX ?_;intro b3 w3 dA cX fT eC ff;refine bH 1 ?_;intro b4 iT iU;refine B 3 ?_;refine eA 2 (pb:=by exact aJ (X.v (fY (h:=32) underlying127 sizeOf5 rfl rfl aa)) (aJ (X.v (fY (h:=32) underlying33 sizeOf5 rfl rfl aa)) (rf rfl))) (k:=?_);refine rM underlying377 sizeOf106 zeroValue106 rfl rfl rfl rfl rfl rfl rfl ?_;refine yV ?_;intro b7 w7 Qy Vn hz7 kh v7;have aH:(nG [⟨b2,0,32,32,f⟩,⟨b3,0,32,32,g⟩]).length=64:=by simp[nG,uo.l,Ea]
 refine Qx (v:=λp:Nat×Nat×List Value=>.slice (ao p.1) (nG [⟨b2,0,32,32,f⟩,⟨b3,0,32,32,g⟩]).length p.2.1) (bo:=λp:Nat×Nat×List Value=>(p.1,oC (nG [⟨b2,0,32,32,f⟩,⟨b3,0,32,32,g⟩]++p.2.2).toArray 5)) (Φ:=λp=>(nG [⟨b2,0,32,32,f⟩,⟨b3,0,32,32,g⟩]).length<=p.2.1/\p.2.2.length=p.2.1-(nG [⟨b2,0,32,32,f⟩,⟨b3,0,32,32,g⟩]).length) call165 rfl rfl rfl (λW hS=>ndh [⟨b2,0,32,32,f⟩,⟨b3,0,32,32,g⟩] b7 2 _ _ zJ (by rw[aH];omega) (by rw[aH];omega) W (hS.old A0 Qy zI zz) (λx hx=>by
  simp only[cd,dV,or_false]at hx;rcases hx with rfl|rfl
  ·exact⟨_,_,_,hS.old A2 dw zI zz,aj 32,λi hi=>by rw[mr];exact rI _ i hi⟩
  exact⟨_,_,_,hS.old A1 dA zI zz,aj 32,λi hi=>by rw[mr];exact rI _ i hi⟩)) ?_
 rintro⟨bc,cc,spc⟩ XV hoc ⟨Kc,Ec⟩;replace XV:=yb XV;dsimp only at Kc Ec;rw[aH]at Kc Ec;refine OJ.re (v':=.slice (ao bc) 64 cc) (by show Value.slice _ (nG _).length _=_;rw[aH]) ?_;refine OJ.reH (H':=[(bc,oC (lP 64 (yP 32 f g)++spc).toArray 5),(b4,oC (zK) 33)]) (by rw[<-nRk 32 32];simp only[nG,uo.l,ee];rfl) ?_;refine call (v:=.agg (dg F)) call87 rfl rfl rfl (λW hS=>hFc bc 0 cc _ 0 0 _ (0,0) (0,0) _ Kc W (hS.own _ A0) (by simp only[rh,cO,Ea];omega) (λi hi=>nio _ _ _ i hi) (hg.old hS A3 zH zF)) ?_;refine B 4 ?_;exact bQ (.inl rfl) results145 bB λW hS=>⟨F,rfl,hS.base A3 zQ,hFB⟩
theorem MJ:prog.info? 127=some Tryz.t127:=by kernel_rfl
theorem HP:jN prog 76 127 32:=⟨underlying76,Tryz.t127,.agg (um []).toArray,MJ,rfl,rfl,rfl,by decide⟩
def jd (Z:Fx):Nat->(Nat->Int)->List Dk
 |0,_=>[]
 |n+1,f=>dk f::jd Z n (sI Z f (⟨#[112,97,116,104]⟩:ByteArray))
theorem njm(Z:Fx):∀(n:Nat) (f:Nat->Int),(jd Z n f).length=n:=
 by intro x;induction x<;>(intros;grind [jd])
theorem nYg{f:Nat->Int}(hf:eu f):eu (fw (dk f)):=by
 intro i;unfold fw;rw[List.getD_eq_getElem?_getD];cases h:(dk f).1[i]? with
 |none=>exact⟨by decide,by decide⟩
 |some x=>
  have hx:=cA h;unfold dk at hx;simp only[cd,dV,or_false]at hx;rcases hx with rfl|rfl|rfl|rfl|rfl|rfl|rfl|rfl|rfl|rfl|rfl|rfl|rfl|rfl|rfl|rfl|rfl|rfl|rfl|rfl|rfl|rfl|rfl|rfl|rfl|rfl|rfl|rfl|rfl|rfl|rfl|rfl<;>exact hf _
theorem n3m{Z:Fx}(hZ:FxOk Z):∀(n:Nat) (f:Nat->Int),eu f->∀k∈jd Z n f,eu (fw k)
 |0,_,_,k,hk=>by cases hk
 |n+1,f,hf,k,hk=>by
  unfold jd at hk;rcases cd.1 hk with rfl|hk
  ·exact nYg hf
  exact n3m hZ n _ (nrh hZ f _) k hk
theorem Glb.blw{w':World}(h:Glb w)(hB:Below w.heap.size w w'):Glb w':=by
 have hl:=h.lt;obtain⟨⟨t,fr,h1⟩,t',C7,h2⟩:=h;exact⟨⟨t,fr,by rw[hB.block 3 aa];exact h1⟩,t',C7,by rw[hB.block 5 aa];exact h2⟩
section
variable {f:Nat}{fn:Func}{c:Code}(G:Gh)(H:ad)(hf:P.funcs[f]? =some fn)(hb:fn.body=some c)
include hf hb
theorem MK(hN:fn.ntmps=N)(hl:Nat.ble vs.length N=true)(hS:St G L H w)(h:CJ ⟨P,none,N⟩ c (bodyPostM (FW none) 0 P fn R) (yx 0 vs) [] G L H):Calls P f vs.toArray w R:=by
 exact zDh
theorem T3(hN:fn.ntmps=N)(hl:Nat.ble vs.length N=true)(hS:St G L H w)(h:CJ ⟨P,none,N⟩ c (bodyPost P fn R) (yx 0 vs) [] G L H):Calls P f vs.toArray w R:=by
 exact zIh
end
theorem nKn{Q:bC}{D:List Deferred}{w0:World}{ops:Array Oper}{l:List Oper}{d f ty:Nat}{pos:String}{aC:Array Edge}{g:Option (Nat×Bool)}{α:Type}{enc:α->List Value}{xo:List Operand}{eJ:Array Nat}{xs:List α}{v:Value->Value}(aA:eU C.P f)(hw:nr ops E g=some true)(hN:Nat.blt d C.N=true)(ha:jy E xo=some vs)(hc:∀W,St Gh.no [w0] H W->Calls C.P f vs.toArray W (aD w0 enc m t xs v))(k:∀r:Rw,r.ge w0.heap.size->r.Fit m xs->OJ C ops Q l ((d,v (r.val xs.length))::E) D Gh.no [w0] (r.hp enc t xs)):OJ C ops Q (⟨some d,.call ⟨.value (.func f),xo.toArray,eJ⟩,ty,pos,aC,g⟩::l) E D Gh.no [w0] H:=
 nK rfl hw rfl ha zJ aA λa W jz hD hF hS=>(hc W hS).mono (by
  rintro ed W' ⟨r,rfl,hb,jI,bP,fJ⟩;have h0:St Gh.no [w0] [] W':=⟨trivial,λ_ h=>h.elim,λ_ h=>h.elim,λw hw=>by simp at hw;subst hw;exact aQ.of_below hb,λ_ h=>by simp at h,λ_ _ _ _ h=>by simp at h,λ_ h=>by simp at h⟩;refine k r jI bP (a.put (some d) (v (r.val xs.length))) W' z8 z6 (hF.put _ z7) ?_;cases r with
  |nil=>exact h0
  |row b cap sp=>exact h0.adopt fJ True.intro (λhv=>hv.elim))
theorem ncp{α:Type}{Q:bC}{D:List Deferred}{H0:ad}{g:Operand}{ps:Array Tmp}{assign body:Code}{f:Nat}{cap:List Value}{enc:α->List Value}{Pre Fin:List α->Prop}{RO:Nat->Prop}{c:Nat}{o o2:Obj}(hp:H0.Perm ((b,o)::(c,o2)::H))(hb:ah L b)(hc:ah L c)(hbX:¬G.X b)(hcX:¬G.X c)(hg:ev E g=some (.func (.func f) #[] cap.toArray))(aA:eU P f)(qG:∀W W2,St G L H W->W.heap[b]? =some o->W.heap[c]? =some o2->Below W.heap.size W W2->uT P f cap enc Pre Fin (λk=>k=b\/k=c) RO W2)(pB:W4 G L H RO)(gV:∀x,(enc x).length=ps.size)(Inv:List α->Gh->ad->Prop)(ew:Code->Gh->ad->Prop)(h0:Inv [] G H)(HQ:∀p∈ps.toList,p<N)(round:W6 P N ps assign body E G H L enc (λk=>k=b\/k=c) (λp _ _=>Pre p) Inv ew)(done:RgD P N Q E D L Fin Inv)(stop:W8 P N Q E D L ew):CJ ⟨P,none,N⟩ (.rangeFunc g ps assign body) Q E D G L H0:=by
 refine ndm (B:=λW'=>W'.heap[b]? =some o/\W'.heap[c]? =some o2) (λW hS=>?_) hg aA (λW W2 h h1 hB=>qG W W2 h h1.1 h1.2 hB) pB gV Inv ew h0 HQ round done stop;have sA:=hS.perm hp;have Vf:=sA.own (b,o) zJ;have hcW:=sA.own (c,o2) zJ;have hnd:=(vO _).1 sA.nodup;simp only[dL,List.nodup_cons,cd,not_or]at hnd;refine⟨(sA.drop hb).drop hc,⟨Vf,hcW⟩,λk hk=>?_⟩;rcases hk with rfl|rfl
 ·exact⟨(bA.1 Vf).1,hb,hnd.1.2,sA.apart (k,o) zJ,hbX⟩
 exact⟨(bA.1 hcW).1,hc,hnd.2.1,sA.apart (k,o2) zJ,hcX⟩
theorem HR(k:Dk):dg (fw k)=(cW k).toArray:=by
 conv=>rhs;rw[<-Dp k]
 rfl
theorem nTp(hZ:FxOk Z)(f:Nat->Int)(hf:eu f)(bk bl:Nat)(ap6:6<=bk)(ap7:6<=bl)(hne:bl≠bk)(W:World)(hg:Glb W)(jr:W.heap[bl]? =some (oC #[ab 0] 3))(hbk:W.heap[bk]? =some (oC (dg f) 127)):uT prog 266 [ptr bl 0,ptr bk 0] (λk:Dk=>[.agg (dg (fw k))]) (CW (jd Z 10 f)) (Is (jd Z 10 f)) (λk=>k=bl\/k=bk) (λk=>k<6) W:=by
 intro l M I X0 hM hI hX hy h0;have hg4:=hg.lt;refine nB (dD hM (λ_=>False) (hI [] _)) [(bl,oC #[ab 0] 3),(bk,oC (dg f) 127)] (vs:=[_,_,_]) func266 rfl ntmps266 rfl (Oi hM (hI [] _) h0 (by intro p hp;simp only[cd,dV,or_false]at hp;rcases hp with rfl|rfl;(exact jr);exact hbk) (WV hne) (by intro p hp;simp only[cd,dV,or_false]at hp;rcases hp with rfl|rfl;(exact .inl rfl);exact .inr rfl)) ?_;refine B 1 ?_;refine CJ.loop (α:=(List Dk×Nat)×(Nat->Int)×aI) (λp=>[(0,yv l),(1,ptr bl 0),(2,ptr bk 0)]) (λp=>[(bl,oC #[ab (p.1.2:Int)] 3),(bk,oC (dg p.2.1) 127)]) (λp=>[W]) (λp=>dD hM p.2.2 (hI p.1.1 p.2.2)) (λp=>p.1.1++jd Z (10-p.1.2) p.2.1=jd Z 10 f/\p.1.2<=10/\eu p.2.1/\∀k,p.2.2 k->W.heap.size<=k) (λp=>10-p.1.2) (([],0),f,λ_=>False) ⟨rfl,cY _,hf,λ_ h=>h.elim⟩ zR rfl rfl zJ ?_;rintro⟨⟨pre,j⟩,g,V⟩ ⟨lQ,hj,hgB,hV⟩;dsimp only at lQ hj hgB hV ⊢;refine aG 7 ?_ ?_
 ·intro av;refine aE 8 (.agg (dg g)) ?_;refine BO (λV=>hI (pre++[(dk g)]) V) hX hV zJ rfl rfl rfl rfl (λW1 uU lI=>hy (pre) ((dk g)) V W1 ⟨jd Z (10-(j+1)) (sI Z g (⟨#[112,97,116,104]⟩:ByteArray)),by rw[<-lQ,show 10-j=(10-(j+1))+1 from by omega,jh];rfl⟩ uU lI) ?_ ?_
  ·intro V hV;refine aE 7 (.agg (dg g)) ?_;refine call call142 rfl rfl rfl (λW2 hS=>noe hZ g hgB (⟨#[112,97,116,104]⟩:ByteArray) zA W2 (hg.old hS A0 (λk hk h=>by rcases h with h|h;(exact(hM _ h).2.2 hk);(have:=hV _ h;omega)) zQ)) ?_;refine aE 6 (ab ((j+1:Nat):Int)) ?_;refine zTe ?_;refine B 1 ?_;refine ag ((pre++[dk g],j+1),sI Z g (⟨#[112,97,116,104]⟩:ByteArray),V) ⟨by dsimp only;rw[<-lQ,show 10-j=(10-(j+1))+1 from by omega,jh];rfl,by dsimp only;omega,nrh hZ g _,hV⟩
  intro V hV;refine B 10 ?_;exact BP (.inl rfl) results266 A0 hV (by intro k hk hx;simp only[dx,ec,dL,ft,cd,dV,or_false]at hx;exact hx) (λA hA=>.inr hA)
 intro av;refine B 4 ?_;exact BP (.inr rfl) results266 A0 hV (by intro k hk hx;simp only[dx,ec,dL,ft,cd,dV,or_false]at hx;exact hx) (λA hA=>.inl ⟨pre,by rw[<-lQ,show 10-j=0 from by omega];exact(ee pre).symm,hA⟩)
theorem nGi(f:Nat->Int)(w:World):Calls prog 201 #[.agg (dg f),ab 0] w (mK w [] (λp:Nat×Nat=>.func (.func 266) #[] #[ptr p.1 0,ptr p.2 0]) (λp=>[(p.1,oC #[ab 0] 3),(p.2,oC (dg f) 127)]) (λ_=>True)):=by
 refine nB (vs:=[_,_]) (Gh.lent (λk=>k∈keys [])) [] func201 rfl ntmps201 rfl (HH (fK.mem (H:=[]) True.intro) (by simp[lO])) ?_;refine OI ?_;refine yW ?_;intro b2 dJ dH;refine Ki rfl rfl rfl ?_;refine yW ?_;intro b3 eC ff;refine B 10 ?_;exact tZ (Hz:=[]) (H0:=[]) (b3,b2) (.inl rfl) results201 bB A0 JH rfl trivial
theorem ngn(hZ:FxOk Z)(f:Nat->Int)(hf:eu f)(bk bl:Nat)(w0 w:World)(Me:St Gh.no [w0] [(bl,oC #[ab 0] 3),(bk,oC (dg f) 127)] w)(HS:w0.heap.size<=bk)(zh:w0.heap.size<=bl)(hg:Glb w0):Calls prog 265 #[ak,.func (.func 266) #[] #[ptr bl 0,ptr bk 0]] w (aD w0 cW 32 127 (jd Z 10 f) id):=by
 have hg4:=hg.lt;have hne:bl≠bk:=λe=>by have:=Me.nodup 0 1 _ _ rfl rfl e;omega
 refine MK Gh.no [(bl,oC #[ab 0] 3),(bk,oC (dg f) 127)] (vs:=[_,_]) func265 rfl ntmps265 rfl Me ?_;refine OI ?_;refine yW ?_;intro b2 dJ dH;refine B 10 ?_;refine ncp (f:=266) (cap:=[ptr bl 0,ptr bk 0]) (α:=Dk) (enc:=(λk:Dk=>[.agg (dg (fw k))])) (Pre:=CW (jd Z 10 f)) (Fin:=Is (jd Z 10 f)) (RO:=λk=>k<6) (b:=bl) (c:=bk) (o:=oC #[ab 0] 3) (o2:=oC (dg f) 127) (H:=[(b2,oC #[ak] 76)]) (List.perm_append_comm (l₁:=[_]) (l₂:=[_,_])) ⟨zh,trivial⟩ ⟨HS,trivial⟩ zI zI rfl call266 (λW W2 hS jK dH hB=>nTp hZ f hf bk bl aa aa hne W2 ((hg.old hS A0 zH C2).blw hB) (by rw[hB.block bl (bA.1 jK).1];exact jK) (by rw[hB.block bk (bA.1 dH).1];exact dH)) (λW hS k hk=>⟨by have h2:=(hS.links w0 A0).size;omega,by simp only[dL,ft,cd,dV,or_false];omega,λh=>h⟩) (λ_=>rfl) (λpre G' Hc=>G'=Gh.no/\∃r:Rw,r.Fr Gh.no [w0]/\r.Fit 32 pre/\Hc=[(b2,oC #[r.val pre.length] 76)]++(r.hp cW 127 pre++[])) (λ_ _ _=>False) ⟨rfl,.nil,True.intro,rfl,rfl⟩ zA ?_ ?_ ?_
 ·rintro pre x G' Hc l Dk rec W1 M V Wy p7 xN eK ⟨rfl,r,aM,ae,rfl⟩ jf mm Qm yG dK DS;simp only[ah]at jf yG;have bJ:r.ge w0.heap.size:=Rw.ge_of aM A0;have gj:=eK.length_le;rw[njm]at gj;simp only[cO,dO,fO]at gj;have EF:∀p∈r.hp cW 127 pre,M p.1\/V p.1:=λp hp=>dK.loc.h p VC;refine bH 2 ?_;intro b5 rF rG;refine B 2 ?_;refine PJ.reH (H':=book ([(b5,oC (dg (fw x)) 127)]++([(b2,oC #[r.val pre.length] 76)]++(r.hp cW 127 pre++[]))) l rec (ji Dk)) rfl ?_;refine Om p7 ?_;refine aE 3 (.agg (dg (fw x))) ?_;refine kp underlying76 sizeOf127 zeroValue127 rfl rfl rfl rfl rfl rfl rfl ?_;refine yW ?_;intro gd lT pC;refine kz (r:=r) (xs:=pre) (zs:=[(dk (fw x))]) (enc:=cW) (m:=32) (H0:=[(gd,oC (dg (fw x)) 127),(b5,oC (dg (fw x)) 127),(b2,oC #[r.val pre.length] 76)]) (H1:=(l,.loop {rec with state:=.busy})::ji Dk) zX HP yk rfl rfl rfl rfl (cD.one (z:=dk (fw x)) yk WA underlying76 (bE.own (i:=0) rfl)) ae (Rw.Fr_ext EF) zJ y9 ?_;intro gB pD pE jL lk;replace jL:=yb jL;rw[Dp]at lk ⊢;refine B 3 ?_;refine vC ?_;refine JW (G2:=Gh.no) (Hc2:=[(b2,oC #[(Rw.row gB pD pE).val (pre++[x]).length] 76)]++((Rw.row gB pD pE).hp cW 127 (pre++[x])++[])) dK mm ⟨λ_ h=>h,λ_ h=>.inl h,λ_ h=>.inl h,(VD rfl (jL.imp id (λh=>h.1))),zUc⟩ (JX p7 xN) ?_
  exact zlh
 ·rintro qB l Dk rec G' Hc rfl jf mm ⟨rfl,r,aM,ae,rfl⟩;replace jf:=yb jf;have bJ:r.ge w0.heap.size:=Rw.ge_of aM A0;refine QZ λWd yF=>?_;have mX:=VE yF;refine B 9 ?_;have hq:=λ(k:Nat)=>Rw.mem_ge (enc:=cW) (t:=127) (xs:=jd Z 10 f) (k:=k) bJ;refine PJ.reH (H':=(b2,oC #[r.val (jd Z 10 f).length] 76)::(r.hp cW 127 (jd Z 10 f)++(l,.loop rec)::ji Dk)) VF ?_;refine B3 (.inl rfl) zJ λa W H' hF hS eV aW=>?_;refine⟨_,by rw[results_tmp results265];exact congrArg (λu=>Result.ok u W) (hF 4 _ rfl),r,rfl,?_,bJ,ae,?_⟩
  ·refine(hS.links w0 A0).below λk hk hx=>?_;exact Yr
  cases r with
  |nil=>trivial
  |row b cap sp=>exact hS.own _ (eV (b,bj cW 127 (jd Z 10 f) sp) oV (mX _ oV).1)
 exact Qo
theorem nAp(hZ:FxOk Z)(f:Nat->Int)(hf:eu f)(bk bl:Nat)(w0 w:World)(Me:St Gh.no [w0] [(bl,oC #[ab 0] 3),(bk,oC (dg f) 127)] w)(HS:w0.heap.size<=bk)(zh:w0.heap.size<=bl)(hg:Glb w0):Calls prog 200 #[.func (.func 266) #[] #[ptr bl 0,ptr bk 0]] w (aD w0 cW 32 127 (jd Z 10 f) id):=by
 refine T3 Gh.no [(bl,oC #[ab 0] 3),(bk,oC (dg f) 127)] (vs:=[_]) func200 rfl ntmps200 rfl Me ?_;refine B 8 ?_;refine nKn (enc:=cW) (m:=32) (t:=127) (xs:=jd Z 10 f) (v:=id) call265 rfl rfl rfl (λW hS=>ngn hZ f hf bk bl w0 W hS HS zh hg) ?_;intro r bJ ae;refine B 4 ?_;exact bQ (.inl rfl) results200 bB λW hS=>⟨r,rfl,hS.base A0 (Rw.over bJ),bJ,ae,by cases r with|nil=>exact True.intro|row b cap sp=>exact hS.own _ A0⟩
theorem nRi(hZ:FxOk Z)(f:Nat->Int)(hf:eu f)(w:World)(hg:Glb w):Calls prog 136 #[.agg (dg f)] w (aD w cW 32 127 (jd Z 10 f) id):=by
 refine eN func136 ntmps136 ?_;refine OI ?_;refine yW ?_;intro b1 fX jK;refine B 6 ?_;refine CI (Hz:=[]) (H0:=[(b1,oC (dg f) 127)]) (first:=[]) (cap:=[]) (v:=λp:Nat×Nat=>.func (.func 266) #[] #[ptr p.1 0,ptr p.2 0]) (Hn:=λp=>[(p.1,oC #[ab 0] 3),(p.2,oC (dg f) 127)]) (Φ:=λ_=>True) rfl rfl call201 rfl rfl rfl True.intro (λW hS=>nGi f W) ?_;rintro⟨bl,bk⟩-jY;dsimp only at jY ⊢;have zh:w.heap.size<=bl:=by
  rcases jY (bl,_) A0 with h|h
  ·exact absurd h (by simp[keys])
  exact h.1.1
 have HS:w.heap.size<=bk:=by
  rcases jY (bk,_) A1 with h|h
  ·exact absurd h (by simp[keys])
  exact h.1.1
 refine OJ.dropAt (i:=2) rfl zC ?_;refine OJ.reH (H':=[(bl,oC #[ab 0] 3),(bk,oC (dg f) 127)]) rfl ?_;refine nKn (enc:=cW) (m:=32) (t:=127) (xs:=jd Z 10 f) (v:=id) call200 rfl rfl rfl (λW hS=>nAp hZ f hf bk bl w W hS HS zh hg) ?_;intro r bJ ae;refine B 4 ?_;exact bQ (.inl rfl) results136 bB λW hS=>⟨r,rfl,hS.base A0 (Rw.over bJ),bJ,ae,by cases r with|nil=>exact True.intro|row b cap sp=>exact hS.own _ A0⟩
theorem T4{g:Gp}(h:iy Z g c=0):c.epoch=g.epoch+1:=by grind [iy,lC]
theorem HT:oU 512=[512,256,128,64,32,16,8,4,2]:=by simp_all[VB,Yp]
theorem abC:ki 0=[513,257,129,65,33,17,9,5,3]:=by unfold ki;rw[show(512+(0:Int)).toNat=512 from rfl,HT];rfl
theorem abD:dt 0=[256,128,64,32,16,8,4,2,1]:=by unfold dt;rw[show(512+(0:Int)).toNat=512 from rfl,HT];rfl
def vR (m:Nat):Prop:=∀e,m≠2^e
theorem vR.of(a:Nat)(h:2^a<m)(h2:m<2^(a+1)):vR m:=λe he=>by
 subst he;have h3:=(Nat.pow_lt_pow_iff_right (by decide:1<2)).1 h;have h4:=(Nat.pow_lt_pow_iff_right (by decide:1<2)).1 h2;omega
theorem vR.l(h:vR m)(h0:1<=m):vR (2*m):=λe he=>by
 cases e with
 |zero=>simp at he;omega
 |succ e=>rw[Nat.pow_succ]at he;exact h e aa
theorem vR.r(h0:1<=m):vR (2*m+1):=λe he=>by
 cases e with
 |zero=>simp at he;omega
 |succ e=>rw[Nat.pow_succ]at he;omega
theorem nvi(p:Int):∀(k m:Nat),1<=m->vR m->fP [(512,p)] k (m:Int)=[]
 |0,_,_,_=>rfl
 |k+1,m,h1,h2=>by
  have hn:¬(aF [((512:Int),p)] (m:Int)).isSome=true:=by
   rw[DE];have:¬(512:Int)=(m:Int):=λe=>h2 9 aa;rw[if_neg this,nie.2 zJ];simp
  by_cases h3:(512:Int)<=(m:Int)
  ·exact n9g hn h3
  rw[nif hn h3];have e1:=nvi p k (2*m) aa (h2.l h1);have e2:=nvi p k (2*m+1) aa (vR.r h1);rw[show(2*(m:Int))=((2*m:Nat):Int) by omega,show(((2*m:Nat):Int)+1)=((2*m+1:Nat):Int) by omega,e1,e2];rfl
theorem HU{p:Int}(hp:eg p):jF [⟨512,p⟩]=0:=by
 refine n7l λi x hx=>?_;cases i with
 |succ i=>simp at hx
 |zero=>
  simp only[J8,wK]at hx;subst hx;refine⟨by show(1:Int)<=512;decide,by show(512:Int)<=1023;decide,λy h=>by omega,hp,?_⟩;have hm:ei [⟨512,p⟩]=[0]:=by unfold ei mQ eY;simp[Go.Lib.compact];rfl
  rw[hm];show aF (wT [0]) 512=some true;show aF (Re [] 0) 512=some true;unfold Re;rw[abD];simp[Dd,PE]
theorem nmm(n:Int):iq [] n=[]:=rfl
theorem ML(d:Int):mS [] d=[]:=by
 unfold mS;rw[nmm];induction dt d with
 |nil=>rfl
 |cons x l ih=>rw[List.foldl_cons,nmm,ih]
theorem tr0:jF []=0:=n7l λi x hx=>by simp at hx
theorem PF(hk:ch.kind=1)(hd:ch.dev=0)(hp:eg ch.pub):aN [] [ch]=[⟨512,ch.pub⟩]:=by
 show tI [] ch=_;unfold tI;rw[if_neg aa];unfold ll;rw[if_pos ⟨tr0,hp⟩,hd];show nU (dM (mS [] 0) 512 ch.pub)=_;rw[ML];show nU [(512,ch.pub)]=_;unfold nU eY;simp[DE]
theorem alN{p:Int}(hp:eg p):lu [⟨512,p⟩] 0=[]:=by
 unfold lu qL;rw[List.flatMap_eq_nil_iff];intro t ht;have h9:=ux.1 ht;have key:∀m:Nat,1<=m->m<=1023->vR m->oX [⟨512,p⟩] (m:Int)=[]:=λm h1 h2 h3=>by
  unfold oX;rw[if_pos ⟨HU hp,by omega,by omega⟩];exact nvi p 10 m h1 h3
 rw[abC];have:oX [⟨512,p⟩] ((([513,257,129,65,33,17,9,5,3]:List Int)[t]?).getD 0)=[]:=by
  rcases(show t=0\/t=1\/t=2\/t=3\/t=4\/t=5\/t=6\/t=7\/t=8 by omega)with rfl|rfl|rfl|rfl|rfl|rfl|rfl|rfl|rfl
  ·exact key 513 zA zA (vR.of 9 zA zA)
  ·exact key 257 zA zA (vR.of 8 zA zA)
  ·exact key 129 zA zA (vR.of 7 zA zA)
  ·exact key 65 zA zA (vR.of 6 zA zA)
  ·exact key 33 zA zA (vR.of 5 zA zA)
  ·exact key 17 zA zA (vR.of 4 zA zA)
  ·exact key 9 zA zA (vR.of 3 zA zA)
  ·exact key 5 zA zA (vR.of 2 zA zA)
  exact key 3 zA zA (vR.of 1 zA zA)
 rw[this];rfl
theorem nKl(f:Nat->Int):iA f f=true:=Ey f
abbrev gZ (f:Int):Gp:=⟨f,0,λ_=>0,[],[]⟩
theorem T5{f:Int}(hf:qK f):dX (gZ f)=true:=by
 refine zk.2 ⟨⟨hf,by show(0:Int)<=0;decide,by show(0:Int)<=1099511627776;decide,tr0⟩,?_,?_,rfl⟩
 ·rintro⟨_,h|h⟩
  ·exact absurd h (by show ¬0<0;decide)
  rw[nKl]at h;cases h
 unfold ei mQ eY;simp[Go.Lib.compact];rfl
structure HV (ch:Ch):Prop where
 k:ch.kind=1
 d:ch.dev=0
 p:eg ch.pub
 v:eg ch.ver
 c:ch.cut=0
theorem abF(h:HV ch):jP [ch]=true:=by
 refine OS.2 ⟨λi x hi hx=>?_,by show 1<=64;decide⟩;cases i with
 |succ i=>simp at hx
 |zero=>
  simp only[J8,wK]at hx;subst hx;exact⟨⟨.inl ⟨h.k,⟨h.p,h.v⟩,h.c⟩,by rw[h.d];exact⟨by decide,by decide⟩⟩,rfl⟩
theorem mb0(d:Int):gD [] d=false:=by unfold gD;simp
theorem alP{f:Int}(h:HV ch):lU (gZ f) 0 [ch]=true:=by
 unfold lU zm;simp[mb0,h.k,h.d]
theorem T6{f:Int}(hf:qK f)(h:HV ch):fk (gZ f) 0 [ch]=0/\gE (gZ f) 0 [ch]=[]:=by
 have h1:xZ (gZ f) 0 [ch]=true:=by unfold xZ;rw[abF h,alP h];rfl
 constructor
 ·unfold fk;rw[if_pos (T5 hf),if_pos h1]
 unfold gE;rw[if_pos ⟨T5 hf,h1⟩,PF h.k h.d h.p];exact alN h.p
theorem abG(h:HV ch):oB 0 [ch]=[]:=by
 unfold oB;have:[ch].filter (λx=> !sg 0 x)=[]:=by simp[sg,h.d]
 rw[this];exact nvm
structure oN (Z:Fx) (fo:Int) (ch:Ch) (c:Cm):Prop where
 h:HV ch
 v:ch.ver=(Z.ge 4 300).1
 f:c.folder=fo
 e:c.epoch=1
 p:c.par=λ_=>0
 a:c.author=0
 ct:c.chs=[ch]
 pl:c.path.length=10
 po:∀x∈c.path,eg x
 b:c.bxs=[]
 w:c.wes=[]
 sr:c.sr=rR Z 300 (cI (ow Z c))
 ss:c.ss=wQ Z 300 (cI (ow Z c))
theorem oN.next(hZ:FxOk Z){f:Int}(hf:qK f)(h:oN Z f ch c):iy Z (gZ f) c=0:=by
 have kD:sX c=0:=by
  unfold sX;rw[if_pos];exact⟨by rw[h.f];exact hf,by rw[h.e];decide,by rw[h.e];decide,by rw[h.a];exact⟨by decide,by decide⟩,by rw[h.ct];exact abF h.h,h.pl,by rw[h.b];decide,by rw[h.w];decide,λi x hx=>h.po x (cA hx),λi x hx=>by rw[h.b]at hx;simp at hx,λi x hx=>by rw[h.w]at hx;simp at hx⟩
 have bP:lC (gZ f) c=true:=by unfold lC;rw[h.f,h.e,h.p];simp[nKl]
 have hn:=T6 hf h.h;have hb:vy (gZ f) c=true:=by unfold vy;rw[h.b,h.a,h.ct,hn.2];rfl
 have hw:xe c=true:=by unfold xe;rw[h.w,h.a,h.ct,abG h.h];rfl
 have hs:Ab Z (gZ f) c=true:=by
  unfold Ab lA;rw[if_neg (by rw[mb0];decide),h.ct,h.sr,h.ss];show pA Z ch.ver _ _ _=true;rw[h.v];exact ME hZ zA _
 have hr:oD (aN [] [ch]) 0=0:=by
  rw[PF h.h.k h.h.d h.h.p];unfold oD;rw[if_pos (HU h.h.p),if_pos];show(aF (di [⟨512,ch.pub⟩]) 512).isSome=true;have:di [⟨512,ch.pub⟩]=[(512,ch.pub)]:=rfl;rw[this,DE,if_pos rfl];rfl
 unfold iy;rw[if_pos (T5 hf),if_pos kD,if_pos bP,h.a,h.ct,if_pos hn.1,if_pos hb,if_pos hw,if_pos hs];exact hr
theorem abH(Z:Fx)(c:Cm):bO Z [c] 1=[(dk (aB Z c),0)]:=by
 show(if dk (aB Z c)∈([]:List (Dk×Int)).map (·.1)then[]else[]++[(dk (aB Z c),((0:Nat):Int))])=_;rw[if_neg zJ];rfl
theorem alQ(hZ:FxOk Z)(hi:qK fo.id)(h:oN Z fo.id ch c)(hf:dk fo.first=dk (aB Z c)):gI Z [c] fo=[(0,kr Z (gZ fo.id) c)]:=by
 have h1:LU Z [c] fo=some 0:=by
  unfold LU;rw[show([c]:List Cm).length=1 from rfl,abH,hf];simp[pM]
 have h2:sZ Z [c] fo=some 0:=by
  unfold sZ;rw[h1];show(if iy Z (gZ fo.id) c=0 then some 0 else none)=some 0;rw[if_pos (h.next hZ hi)]
 have h3:yo Z [c] (0,kr Z (gZ fo.id) c)=[]:=by
  unfold yo Ba wz;rw[show([c]:List Cm).length=1 from rfl,abH];have:F8 Z [c] (kr Z (gZ fo.id) c) 0=false:=by
   show(iA c.par _&&decide (iy Z (kr Z (gZ fo.id) c) c=0))=false;have hne:¬iy Z (kr Z (gZ fo.id) c) c=0:=λe=>by
    have h5:=T4 e;have h6:(kr Z (gZ fo.id) c).epoch=c.epoch:=rfl;omega
   rw[decide_eq_false hne,Bool.and_false]
  simp[this]
 unfold gI;rw[h2];show[(0,kr Z (gZ fo.id) c)]++th Z [c] 1 ([]++yo Z [c] (0,kr Z (gZ fo.id) c))=_;rw[h3];rfl
theorem abI(hZ:FxOk Z)(hi:qK fo.id)(h:oN Z fo.id ch c)(hf:dk fo.first=dk (aB Z c)):eQ Z [c] [fo]=[(c,true,aN [] c.chs,kr Z (gZ fo.id) c)]:=by
 show xq Z [c] fo++[]=_;unfold xq;rw[alQ hZ hi h hf];rfl
theorem D1(hZ:FxOk Z)(hi:qK fo.id)(h:oN Z fo.id ch c)(hf:dk fo.first=dk (aB Z c)):oJ Z [c] [fo] [] []=mf (c,true,aN [] c.chs,kr Z (gZ fo.id) c) 10++[([nj (dk (aB Z c)) 9],aT (dk (aB Z c)))]:=by
 unfold oJ;rw[abI hZ hi h hf];show(iL _++[])++[]++[]=_;unfold iL;rw[show(c,true,aN [] c.chs,kr Z (gZ fo.id) c).1=c from rfl,h.b,h.w,h.pl];simp[Md];exact⟨rfl,rfl⟩
theorem Xa{p:Ap}:∀{n:Nat} {d:List Se×Se},d∈mf p n↔∃k y,k<n/\p.1.path[k]? =some y/\d∈GR p k y:=
 by intro x;induction x<;>(intros;grind [mf])
theorem T7(p:Ap):∀d∈iL p,d.1≠ []:=by grind [iL,CB,Xa,GR,Md,GS]
theorem nto{cs:List Cm}{fos:List Fo}{gs:List Gr}{xs:List Ir}:∀d∈oJ Z cs fos gs xs,d.1≠ []:=by
 intro d hd;unfold oJ at hd;rcases aY.1 hd with hd|hd
 ·rcases aY.1 hd with hd|hd
  ·obtain⟨p,_,hd⟩:=xz.1 hd;exact T7 p d hd
  obtain⟨g,_,hd⟩:=xz.1 hd;unfold Bm at hd;split at hd
  ·split at hd
   ·obtain⟨o,_,hd⟩:=xz.1 hd;unfold Hp at hd;split at hd
    ·simp at hd;subst hd;simp
    simp at hd
   simp at hd
  simp at hd
 all_goals grind [DB]
theorem An.none{D:List (List Se×Se)}(hD:∀d∈D,d.1≠ []){s:Se}(h:An D [] s):False:=by
 induction h with
 |base h=>simp at h
 |@step d h1 _ ih=>
  cases hd:d.1 with
  |nil=>exact hD d h1 hd
  |cons f l=>exact ih f (by rw[hd];exact .head _)
theorem pS.nil{D:List (List Se×Se)}(hD:∀d∈D,d.1≠ [])(h:pS D [] lim ls):ls=[]:=by
 cases ls with
 |nil=>rfl
 |cons s l=>exact((h.iff s).1 A0).none hD |>.elim
theorem MM(xs:List Se):∀j,(mJ xs j).Sublist (xs.take j):=
 by intro x;induction x<;>(intros;grind [mJ,np])
theorem MN(xs:List Se):(gO xs).Pairwise (λx y=>l9 x y<=0):=by
 rw[List.pairwise_iff_getElem];intro i j hi hj vf;exact n8h CO.ord xs i j _ _ vf (lj hi) (lj hj)
theorem nFj(xs:List Se):(eF xs).Pairwise (λx y=>l9 x y<=0):=by
 have h:=MM (gO xs) (gO xs).length;rw[uw]at h;exact(MN xs).sublist h
theorem nJj:∀{a b:List Se},a.Perm b->a.Pairwise (λx y=>l9 x y<=0)->b.Pairwise (λx y=>l9 x y<=0)->(∀s∈a,vN s)->a=b
 | [],b,hp,_,_,_=>(List.Perm.nil_eq hp)
 |x::a,[],hp,_,_,_=>absurd hp.length_eq zJ
 |x::a,y::b,hp,ha,hb,hB=>by
  have hxy:x=y:=by
   have h1:=hp.mem_iff.1 (List.mem_cons_self (a:=x) (l:=a));have h2:=hp.mem_iff.2 (List.mem_cons_self (a:=y) (l:=b));rcases cd.1 h1 with h1|h1
   ·exact h1
   rcases cd.1 h2 with h2|h2
   ·exact h2.symm
   have h3:=(List.pairwise_cons.1 ha).1 y h2;have h4:=(List.pairwise_cons.1 hb).1 x h1;have h5:=CO.ord.anti x y;exact nIk (hB x A0) (hB y (.tail _ h2)) aa
  subst hxy;rw[nJj ((List.perm_cons x).1 hp) (List.pairwise_cons.1 ha).2 (List.pairwise_cons.1 hb).2 λs hs=>hB s (.tail _ hs)]
theorem nSn{a b:List Se}(hB:∀s∈a,vN s)(h:∀s,s∈a↔s∈b):eF a=eF b:=
 nJj ((List.perm_ext_iff_of_nodup (nae hB) (nae λs hs=>hB s ((h s).2 hs))).2 λs=>by rw[Dt,Dt,h s]) (nFj a) (nFj b) λs hs=>hB s ((Dt a s).1 hs)
theorem nwm{a:List Se}(hB:∀s∈a,vN s)(hn:a.Nodup)(hp:a.Pairwise (λx y=>l9 x y<=0)):eF a=a:=
 nJj ((List.perm_ext_iff_of_nodup (nae hB) hn).2 λs=>Dt a s) (nFj a) hp λs hs=>hB s ((Dt a s).1 hs)
theorem MO{a:List Se}(hB:∀s∈a,vN s):eF (eF a)=eF a:=by grind [nSn,Dt]
theorem PG:eu (fw (dk λ_=>0)):=nYg λ_=>⟨by decide,by decide⟩
theorem nmj(p:Int):vN (aO p):=PG
theorem nuh{d:Dk}(h:eu (fw d))(l:Int):vN (nj d l):=h
theorem T8{d:Dk}(h:eu (fw d)):vN (aT d):=h
structure vS (Z:Fx) (r:dY) (c:Cm) (ch:Ch) (fo:Fo):Prop where
 os:r.os=[(0,ch.pub)]
 cs:r.cs=[c]
 fos:r.fos=[fo]
 gs:r.gs=[]
 xs:r.xs=[]
 i:fo.id=6
 ok:oN Z 6 ch c
 f:dk fo.first=dk (aB Z c)
theorem vS.pls(hZ:FxOk Z){r:dY}(h:vS Z r c ch fo):eQ Z r.cs r.fos=[(c,true,aN [] c.chs,kr Z (gZ fo.id) c)]:=by
 rw[h.cs,h.fos];exact abI hZ (by rw[h.i];exact⟨by decide,by decide⟩) (by rw[h.i];exact h.ok) h.f
theorem vS.D(hZ:FxOk Z){r:dY}(h:vS Z r c ch fo):r.D Z=mf (c,true,aN [] c.chs,kr Z (gZ fo.id) c) 10++[([nj (dk (aB Z c)) 9],aT (dk (aB Z c)))]:=by
 unfold dY.D;rw[h.cs,h.fos,h.gs,h.xs];exact D1 hZ (by rw[h.i];exact⟨by decide,by decide⟩) (by rw[h.i];exact h.ok) h.f
theorem vS.fs0(hZ:FxOk Z){r:dY}(h:vS Z r c ch fo):r.fs Z 0=[aO ch.pub,nj (dk (aB Z c)) 0]:=by
 unfold dY.fs dY.fs0;rw[h.pls hZ,h.os];have e:qw [(0,ch.pub)] 0++rp [(c,true,aN [] c.chs,kr Z (gZ fo.id) c)] 0=[aO ch.pub,nj (dk (aB Z c)) 0]:=by
  unfold qw rp;simp[h.ok.a];rfl
 rw[e];refine nwm (λs hs=>?_) (by simp[aO,nj]) ?_
 ·simp only[cd,dV,or_false]at hs;rcases hs with rfl|rfl
  ·exact nmj _
  exact nuh (nYg (hZ.byt _ _)) _
 all_goals grind [du,aO,nj,dk,aB,l9,xn]
theorem vS.fs1(hZ:FxOk Z){r:dY}(h:vS Z r c ch fo):r.fs Z 1=[]:=by
 unfold dY.fs dY.fs0;rw[h.pls hZ,h.os];have e:qw [(0,ch.pub)] 1++rp [(c,true,aN [] c.chs,kr Z (gZ fo.id) c)] 1=[]:=by
  unfold qw rp;simp[h.ok.a]
 rw[e,nei]
structure Rc0 (r:dY):Prop where
 os:r.os=[]
 cs:r.cs=[]
 fos:r.fos=[]
 gs:r.gs=[]
 xs:r.xs=[]
theorem Rc0.fs{r:dY}(h:Rc0 r)(Z:Fx)(dv:Int):r.fs Z dv=[]:=by
 unfold dY.fs dY.fs0;rw[h.os,h.fos];exact nei
theorem Rc0.D{r:dY}(h:Rc0 r)(Z:Fx):r.D Z=[]:=by
 unfold dY.D oJ;rw[h.fos,h.gs,h.xs];rfl
theorem pS.nil0{L0:List Se}(h:pS [] L0 lim ls)(s:Se):s∈ls↔s∈L0:=by
 constructor
 ·intro hs;have:=(h.iff s).1 hs;cases this with
  |base h1=>exact h1
  |step h1 _=>simp at h1
 exact h.l0 s
theorem alU{k:Se}(hk:vN k)(h:pS [] [k,k] lim ls):eF ls=[k]:=by
 rw[<-nwm (a:=[k]) (by simpa using hk) zJ zJ];refine nSn (λs hs=>?_) λs=>?_
 ·have:=(h.nil0 s).1 hs;simp at this;subst this;exact hk
 rw[h.nil0 s];simp
theorem vS.ep(hZ:FxOk Z){r:dY}(h:vS Z r c ch fo):An (r.D Z) (r.fs Z 0) (aT (dk (aB Z c))):=by
 have hp:∀k:Nat,k<=9->An (r.D Z) (r.fs Z 0) (nj (dk (aB Z c)) (k:Int)):=by
  intro k;induction k with
  |zero=>intro _;exact .base (by rw[h.fs0 hZ];exact .tail _ A0)
  |succ k ih=>
   intro hk;obtain⟨y,hy⟩:=ng c.path k (by rw[h.ok.pl];omega);refine An.step (d:=([nj (dk (aB Z c)) (k:Int)],nj (dk (aB Z c)) ((k+1:Nat):Int))) ?_ λf hf=>?_
   ·rw[h.D hZ];refine aY.2 (.inl (Xa.2 ⟨k,y,by omega,hy,?_⟩));unfold GR;rw[if_pos aa];exact .tail _ A0
   simp at hf;subst hf;exact ih aa
 refine An.step (d:=([nj (dk (aB Z c)) 9],aT (dk (aB Z c)))) (by rw[h.D hZ];simp) λf hf=>?_;all_goals grind
theorem vS.k3(hZ:FxOk Z){r:dY}(h:vS Z r c ch fo){s:Se}(hs:An (r.D Z) (r.fs Z 0) s):vN s/\(s.kind=3->s=aT (dk (aB Z c))):=by
 have hB:eu (fw (dk (aB Z c))):=nYg (hZ.byt _ _);cases hs with
 |base h1=>
  rw[h.fs0 hZ]at h1;simp only[cd,dV,or_false]at h1;rcases h1 with rfl|rfl
  ·exact⟨nmj _,λe=>absurd e (by show ¬(1:Int)=3;decide)⟩
  exact⟨nuh hB _,λe=>absurd e (by show ¬(2:Int)=3;decide)⟩
 |@step d h1 _=>
  rw[h.D hZ]at h1;rcases aY.1 h1 with h1|h1
  ·obtain⟨k,y,_,_,h1⟩:=Xa.1 h1;unfold GR at h1;rcases cd.1 h1 with rfl|h1
   ·exact⟨nmj _,λe=>absurd e (by show ¬(1:Int)=3;decide)⟩
   split at h1
   ·simp only[cd,dV,or_false]at h1;subst h1;exact⟨nuh hB _,λe=>absurd e (by show ¬(2:Int)=3;decide)⟩
   simp at h1
  simp only[cd,dV,or_false]at h1;subst h1;exact⟨T8 hB,λ_=>rfl⟩
theorem PH{α:Type}{p:α->Bool}{a:α}:∀{l:List α},l.Nodup->a∈l->p a=true->(∀x∈l,p x=true->x=a)->l.filter p=[a]
 | [],_,h,_,_=>by simp at h
 |x::l,hn,h,hp,hu=>by
  rw[List.nodup_cons]at hn;rcases cd.1 h with rfl|h
  ·rw[List.filter_cons,if_pos hp];congr 1;rw[List.filter_eq_nil_iff];intro y hy hpy;have:=hu y (.tail _ hy) hpy;subst this;exact hn.1 hy
  have hx:¬p x=true:=λHq=>by
   have:=hu x A0 Hq;subst this;exact hn.1 h
  rw[List.filter_cons,if_neg hx];exact PH hn.2 h hp λy hy=>hu y (.tail _ hy)
theorem vS.epL(hZ:FxOk Z){r:dY}(h:vS Z r c ch fo)(hl:pS (r.D Z) (r.fs Z 0) lim ls):epL (eF ls)=[dk (aB Z c)]:=by
 have hB:∀s∈ls,vN s:=λs hs=>(h.k3 hZ ((hl.iff s).1 hs)).1;unfold Px.epL;rw[PH (a:=aT (dk (aB Z c))) (nae hB) ((ntm hl _).2 (h.ep hZ)) rfl λx hx hk=>(h.k3 hZ ((ntm hl x).1 hx)).2 (by simpa using hk)];rfl
theorem vS.why(hZ:FxOk Z){r:dY}(h:vS Z r c ch fo)(hl:pS (r.D Z) (r.fs Z 0) lim ls):ls[0]? =some (aO ch.pub):=by
 have h1:=hl.pf;have h2:eF (r.fs Z 0)=r.fs Z 0:=by
  have hd:∀s∈r.fs0 Z 0,vN s:=λs hs=>(h.k3 hZ (.base (by unfold dY.fs;rw[Dt];exact hs))).1;unfold dY.fs;exact MO hd
 rw[h2,h.fs0 hZ]at h1;obtain⟨t,ht⟩:=h1;rw[<-ht];rfl
def Aq (ca:Option Addr) (cc:Nat) (pv:Value) (cf:Nat->Int) (sr ss:Int):Array Value:=(ab 6::ab 1::um (ab 0:: .slice ca 1 cc::pv::ak::ak::lJ cf [ab sr,ab ss])).toArray
def qx (ca:Option Addr) (cc:Nat) (ch:Ch) (path:List Int) (pa:Option Addr) (pc:Nat) (cf:Nat->Int) (sr ss:Int):Cm:=⟨6,1,λ_=>0,0,[ch],ca,cc,path,pa,pc,[],none,0,[],none,0,cf,sr,ss⟩
theorem ndi{ca:Option Addr}{cc:Nat}{path:List Int}{pa:Option Addr}{pc:Nat}{cf:Nat->Int}{sr ss:Int}(hc:HV ch)(hl:path.length=10)(hp:∀x∈path,eg x)(hf:eu cf)(h1:kK sr)(h2:kK ss):bN (qx ca cc ch path pa pc cf sr ss):=by
 refine⟨⟨λ_=>⟨by show(0:Int)<=0;decide,by show(0:Int)<256;decide⟩,hf,by show 1<=10;decide,by show path.length<=12;omega,by show 0<=40;decide,by show 0<=10;decide,λx hx=>(by simp[qx]at hx),λx hx=>(by simp[qx]at hx)⟩,?_⟩;have Gc:=hc.p;have hv1:=hc.v;have DC:V.fineL (path.map V.int):=by
  clear hl;induction path with
  |nil=>simp[V.fineL]
  |cons x l ih=>
   rw[dL];have:=hp x A0;unfold V.fineL;exact⟨by simp only[V.fine];omega,ih λy hy=>hp y (.tail _ hy)⟩
 have hpd:V.depthL (path.map V.int)<=1000000000:=by
  clear hl hp DC;induction path with
  |nil=>simp[V.depthL]
  |cons x l ih=>rw[dL];simp only[V.depthL,V.depth];omega
 have ht:∀f:Nat->Int,(qM (cI f)).size=32:=λf=>by rw[Fj,nI]
 unfold ou qx;simp only[V.fineL,V.fine,dL,ft,Ci,V.depthL,V.depth,ht,dO,fO,eO,hl,DC,hc.k,hc.d,hc.c];all_goals grind
theorem alW(f:Int)(ch:Ch):lA (gZ f) 0 [ch]=ch.ver:=by unfold lA;rw[if_neg (by rw[mb0];decide)];rfl
theorem nqh(hZ:FxOk Z){k:Int}(hk:DY k)(w:World):Calls prog 79 #[ab k] w (aP w (.tuple #[ab (Z.ge 4 k).1,ab 0])):=by
 have h:=nDn k w;have e:rH (J2 k)= .tuple #[ab (Z.ge 4 k).1,ab 0]:=by
  rw[<-hZ.ge,Oo hk];unfold J2 rH;rw[if_pos hk]
 rwa[e]at h
theorem HW(hZ:FxOk Z)(f:Nat->Int)(s:ByteArray):DY (WY Z f s):=hZ.bd _ _
abbrev G6:Gv:=⟨gZ 6,none,0,none,0⟩
theorem Bn(N:Nat)(w:World):cj N w G6:=⟨.inl rfl,.inl rfl,cY _,cY _⟩
theorem fd6:qK 6:=⟨by decide,by decide⟩
theorem ntl{ca:Option Addr}{cc:Nat}{path:List Int}{pa:Option Addr}{pc:Nat}{cf:Nat->Int}{sr ss:Int}(h1:ai gK 5 N w ca [ch])(h2:ai encI 1 N w pa path):dB N w (qx ca cc ch path pa pc cf sr ss):=⟨h1,h2,.inl rfl,.inl rfl,λx hx=>(by simp[qx]at hx),λx hx=>(by simp[qx]at hx)⟩
theorem CJ.fixAt{Q:bC}{D:List Deferred}{c:Code}{i:Nat}{o:Obj}(hi:H[i]? =some (b,o))(ha:ah L b)(k:∀W,St G L H W->W.heap[b]? =some o->bM (H.eraseIdx i) b->CJ C c Q E D G (W::L) (H.eraseIdx i)):CJ C c Q E D G L H:=λa W hN hD hF hS=>by
 have h1:=hS.perm (PI H i _ hi);have hnd:=(vO _).1 h1.nodup;simp only[dL,List.nodup_cons]at hnd;exact k W hS (hS.own _ (cA hi)) (bM.of_mem hnd.1) a W hN hD hF (hS.dropAt hi ha).snap
theorem MP(sw:HV ch){cp:Nat}(hN:N<=w.heap.size)(aH:ai gK 5 N w a [ch]):Calls prog 134 #[.agg (bF G6),ab 0,.slice a 1 cp] w (aD w tK 4 110 [] (λs=>.tuple #[s,ab 0])):=by
 have h9:Calls prog 134 #[.agg (bF G6),ab 0,.slice a [ch].length cp] w (aD w tK 4 110 (gE (gZ 6) 0 [ch]) (λs=>.tuple #[s,ab (fk (gZ 6) 0 [ch])])):=nBb G6 N w hN (Bn _ _) [ch] (by show 1<=1000000;decide) a cp aH 0 ⟨by decide,by decide⟩;rw[(T6 fd6 sw).1,(T6 fd6 sw).2]at h9;exact h9
theorem MQ{cp:Nat}(hN:N<=w.heap.size)(aH:ai gK 5 N w a [ch]):Calls prog 135 #[.agg (bF G6),ab 0,.slice a 1 cp] w (aP w (ab ch.ver)):=by
 have h9:Calls prog 135 #[.agg (bF G6),ab 0,.slice a [ch].length cp] w (aP w (ab (lA (gZ 6) 0 [ch]))):=nPc G6 N w hN (Bn _ _) [ch] (by show 1<=1000000;decide) a cp aH 0 (λ_=>by show 0<1;decide);rw[alW]at h9;exact h9
theorem HX(sw:HV ch){cp:Nat}(hN:N<=w.heap.size)(aH:ai gK 5 N w a [ch]):Calls prog 144 #[ab 0,.slice a 1 cp] w (aD w oj 5 99 [] id):=by
 have h9:Calls prog 144 #[ab 0,.slice a [ch].length cp] w (aD w oj 5 99 (oB 0 [ch]) id):=n6b 0 [ch] (by show 1<=100000;decide) N a cp w hN aH;rw[abG sw]at h9;exact h9
theorem St.sameO{w1:World}(hS:St Gh.no L H W)(hw:w1∈L)(ho:∀p∈H,w1.heap[p.1]? =some p.2):∀k,k<w1.heap.size->W.heap[k]? =w1.heap[k]? :=λk hk=>by
 by_cases h:k∈H.map (·.1)
 ·obtain⟨p,hp,rfl⟩:=bT.1 h;rw[hS.own p hp,ho p hp]
 exact(hS.links w1 hw).block k hk λhx=>hx.elim zI h
theorem T9{cap:Nat}{xs:List Int}{sp:List Value}(hf:(Rw.row b cap sp).Fit 1 xs)(h:W.heap[b]? =some (bj az t xs sp)):ai encI 1 W.heap.size W (ao b) xs:=by
 obtain⟨a,cp,he,aH⟩:=(Rw.row b cap sp).sl ny hf (show(Rw.row b cap sp).At az t xs W from h) (aj _);exact zki
theorem MR(a b:Int):q9 (rJ a b).1:=by grind [rJ]
theorem HY(ca:Option Addr)(cc:Nat)(pv:Value)(cf:Nat->Int):setCells (Aq ca cc pv (λ_=>0) 0 0) 39 (dg cf).toList=Aq ca cc pv cf 0 0:=by
 apply Array.ext';rw[nZ];rfl
theorem MS(ca:Option Addr)(cc:Nat)(pv:Value)(cf:Nat->Int)(sr ss:Int):setCells (Aq ca cc pv cf 0 0) 71 [ab sr,ab ss]=Aq ca cc pv cf sr ss:=by
 apply Array.ext';rw[nZ];rfl
theorem abK:eu (λ_=>0):=by grind
theorem nWm(hZ:FxOk Z)(ch:Ch)(sw:HV ch)(hv0:ch.ver=(Z.ge 4 300).1)(N:Nat)(a:Option Addr)(cp:Nat)(lf sd:Nat->Int)(hlf:eu lf)(w:World)(hN:N<=w.heap.size)(aH:ai gK 5 N w a [ch])(hg:Glb w)(CK:Lab w):Calls prog 81 #[.agg (bF G6),ab 0,ab 300,.slice a 1 cp,.agg (dg lf),.agg (dg λ_=>0),.agg (dg sd)] w (cZ w (λq:Cm×(Nat->Int)=>.tuple #[.agg (cM q.1),.agg (dg q.2),ab 0]) (λq w'=>oN Z 6 ch q.1/\bN q.1/\dB w'.heap.size w' q.1/\eu q.2/\(∀u,q.1.ca=some u->w.heap.size<=u.block)/\∀u,q.1.pa=some u->w.heap.size<=u.block)):=by
 have hg4:=hg.lt;obtain⟨pv,hpv⟩:∃p,(Z.ge 4 300).1=p:=⟨_,rfl⟩;have hv:ch.ver=pv:=by rw[hv0,hpv]
 obtain⟨ks,PK⟩:∃l,jd Z 10 lf=l:=⟨_,rfl⟩;have sU:ks.length=10:=by rw[<-PK,njm]
 have hkB:∀k∈ks,eu (fw k):=by rw[<-PK];exact n3m hZ 10 lf hlf
 obtain⟨k9,hk9⟩:=ng ks 9 aa;have al0:=cA hk9;obtain⟨dZ,HZ⟩:∃l,(ks.map λk=>(Z.ge 4 (WY Z (fw k) (⟨#[110,111,100,101]⟩:ByteArray))).1)=l:=⟨_,rfl⟩;have gj:dZ.length=10:=by rw[<-HZ,eO,sU]
 have JI:∀x∈dZ,eg x:=by rw[<-HZ];intro x hx;obtain⟨k,_,rfl⟩:=bT.1 hx;exact WX hZ ⟨by have:=(HW hZ (fw k) (⟨#[110,111,100,101]⟩:ByteArray)).1;omega,(HW hZ (fw k) (⟨#[110,111,100,101]⟩:ByteArray)).2⟩
 obtain⟨T,hT⟩:∃T,aN G6.g.ns [ch]=T:=⟨_,rfl⟩;have al1:∀x∈[ch],dd x.dev:=λx hx=>by simp only[cd,dV,or_false]at hx;subst hx;rw[sw.d];exact⟨by decide,by decide⟩
 refine eN func81 ntmps81 ?_;refine cH 2 ?_;intro b7 w7 Qy Vn hz7 kh v7;refine yX ?_;intro gB XT Ka Kb XU uZ yQ;refine Ki rfl rfl rfl ?_;refine yW ?_;intro iF EV EW;refine yX ?_;intro Vo w13 ap8 ap9 aqa yS BU;refine bH 1 ?_;intro eI aaW akL;refine bH 1 ?_;intro dS Fk Ll;refine aE 8 bG ?_;refine B 10 ?_;refine nH (enc:=tK) (m:=4) (t:=110) (xs:=([]:List (Int×Int))) (v:=λs=>.tuple #[s,ab 0]) (first:=[]) (cap:=[]) rfl call134 rfl rfl rfl VY (λW hS=>MP sw cJ (aH.up (aj _) hS.sm)) ?_;intro Wn a3 c3 wn tM AS so sq;refine B 11 ?_;refine CV ?_;refine zWe ?_;refine aE 11 bG ?_;refine B 12 ?_;refine call call135 rfl rfl rfl (λW hS=>MQ cJ (aH.up (aj _) hS.sm)) ?_;refine rq bG (dz rfl rfl) (vb (by simp[hv])) ?_;refine aE 10 bZ ?_;refine aE 10 (.agg (dg lf)) ?_;refine nH (enc:=cW) (m:=32) (t:=127) (xs:=ks) (v:=id) (first:=[]) (cap:=[]) rfl call136 rfl rfl rfl yk (λW hS=>by rw[<-PK];exact nRi hZ lf hlf W (hg.old hS A4 zH zF)) ?_;intro Wl al cl wl hSl hBl al3 abN;have abO:ai vA 32 wl.heap.size wl al ks:=al3;obtain⟨bL,oL,csL,tL,frL,hpL,hbL,hcL,heL⟩:=abO.get aa;have aqb:dS<bL/\eI<bL/\iF<bL:=by have g1:=hSl.lt _ A0;have g2:=hSl.lt _ A1;have g3:=hSl.lt _ A2;have g4:=abN _ hpL;dsimp only at g1 g2 g3 g4;exact⟨by omega,by omega,by omega⟩
 refine B 4 ?_;refine eA 4 (pb:=by exact zU 2 (k:=by exact aJ (X.v (bK underlying76 sizeOf127 (congrArg (λq=>some (Value.slice q ks.length cl)) hpL) rfl aa aa)) (aJ (X.v (RV.re (v':=.agg (dg (fw k9))) (dy isAgg127 sizeOf127 rfl A0 hcL zI zz (dc heL hk9 rfl)) (va ((dU heL hk9 rfl).trans (HR k9).symm)))) (rf rfl)))) (sp:=((some (.agg (dg λ_=>0)))::_)) (k:=?_);refine nv (α:=Nat->Int) (v:=λf=>.agg (dg f)) (Φ:=λ_ f _=>eu f) call137 rfl rfl rfl (λW hS=>nyj hZ (λ_=>0) (fw k9) abK (hkB k9 al0) W (hg.old hS A5 zH zF) (CK.old hS A5 zI zz)) ?_;rintro We fs we hSe hBe qT;refine B 4 ?_;refine eS 10 9 [] (pb:=by exact zU 4 (k:=by exact aJ (X.v (RV.re (v':=ab 1) (jx (m:=0) (n:=1) rfl rfl zA zA) rfl)) zT)) (sp:=[_,some (ab 6),_,some (ab 0),_,_,some (.agg (dg λ_=>0)),_,_,_]) (h:=?_);intro _ _ hk;refine nH (enc:=oj) (m:=5) (t:=99) (xs:=[ch]) (v:=id) (first:=[]) (cap:=[]) rfl call138 rfl rfl rfl Ce (λW hS=>nul [ch] (by show 1<=100000;decide) N a cp W cJ (aH.up (aj _) hS.sm)) ?_;intro W7 a7 cc wc CG Pp zp od;obtain⟨bc,oc,cs_,t_,f_,rfl,al5,tr,aqc⟩:=zp.get Xb;have g1:=CG.lt _ A0;have g2:=CG.lt _ A1;have g3:=CG.lt _ A2;have g4:=od _ rfl;dsimp only at g1 g2 g3 g4;have hbc:(dS<bc/\eI<bc/\iF<bc/\bc<wc.heap.size):=⟨by omega,by omega,by omega,al5⟩
 have hwc:(wl.heap.size<=wc.heap.size/\w.heap.size<=wc.heap.size):=⟨eE (CG.links wl A1).size Pp.size,eE (CG.links w A6).size Pp.size⟩;refine zE ?_;refine aE 8 (ab 10) ?_;refine B 4 ?_;refine CJ.lp (α:=Rw×Nat) [1,2,3,7,14,15,17,89,90] (λp=>[(91,ab (p.2:Int))]) (λp=>[(dS,oC (dg fs) 127),(eI,oC (Aq (some ⟨bc,oc,none⟩) cc (p.1.val (dZ.take p.2).length) (λ_=>0) 0 0) 61),(iF,oC (dg λ_=>0) 127)]++(p.1.hp az 3 (dZ.take p.2)++[])) (λp=>p.2<=10/\p.1.Fr Gh.no [wc,we,wl,wn,w13,XT,w7,w]/\p.1.Fit 1 (dZ.take p.2)) (λp=>10-p.2) (.nil,0) ⟨cY _,True.intro,rfl⟩ ?_;rintro⟨ro,j⟩ ⟨hj,aM,ae⟩;dsimp only at hj aM ae ⊢;have bJ:ro.ge wc.heap.size:=Rw.ge_of aM A0;refine aG 6 ?_ ?_
 ·intro av;refine B 5 ?_;obtain⟨k,hk⟩:=ng ks j aa;have CH:=cA hk;refine B 1 ?_;refine rv rfl rfl rfl (bK underlying76 sizeOf127 (congrArg (λq=>some (Value.slice q ks.length cl)) hpL) rfl aa aa) ?_;refine rq (.agg (dg (fw k))) (dy isAgg127 sizeOf127 rfl A2 hcL zI zz (dc heL hk rfl)) (va ((dU heL hk rfl).trans (HR k).symm)) ?_;refine bH 1 ?_;intro rL D8 Qu;refine B 4 ?_;obtain⟨x,hxe⟩:∃x,WY Z (fw k) (⟨#[110,111,100,101]⟩:ByteArray)=x:=⟨_,rfl⟩;have hxk:DY x:=by rw[<-hxe];exact HW hZ _ _
  obtain⟨y,hye⟩:∃y,(Z.ge 4 x).1=y:=⟨_,rfl⟩;have hpy:dZ[j]? =some y:=by rw[<-HZ,mY,hk,<-hye,<-hxe];rfl
  refine aE 1 (.agg (dg (fw k))) ?_;refine call (v:=ab x) call139 rfl rfl rfl (λW hS=>by rw[<-hxe];exact nBi hZ (fw k) (hkB k CH) W (hg.old hS A7 zH (by simp only[Over,nC,im,eX,ee,and_true];(repeat' apply And.intro);all_goals first|omega|exact True.intro|exact Rw.over (Rw.ge_mono bJ aa)))) ?_;refine call (v:=.tuple #[ab y,ab 0]) call79 rfl rfl rfl (λW hS=>by rw[<-hye];exact nqh hZ hxk W) ?_;refine B 11 ?_;refine EL ?_;refine yW ?_;intro al6 aoO aoP;refine kz (r:=ro) (xs:=(dZ.take j)) (zs:=[y]) (enc:=az) (m:=1) (H0:=[(al6,oC #[ab y] 3),(rL,oC (dg (fw k)) 127),(dS,oC (dg fs) 127),(eI,oC (Aq (some ⟨bc,oc,none⟩) cc (ro.val (dZ.take j).length) (λ_=>0) 0 0) 61),(iF,oC (dg λ_=>0) 127)]) (H1:=[]) zX OC ny rfl rfl rfl rfl (cD.one (z:=y) ny OE underlying55 (bE.own (i:=0) rfl)) ae aM zJ (by rw[jM];simp only[dO,fO];omega) ?_;intro al7 abP abQ H2 MT;replace H2:=yb H2;refine B 1 ?_;refine kT (i:=3) rfl sizeOf55 rfl rfl rfl rfl (eh rfl) rfl ?_;refine aE 4 (ab ((j+1:Nat):Int)) ?_;refine B 2 ?_;refine vC ?_;refine PJ.again (Rw.row al7 abP abQ,j+1) ⟨by dsimp only;omega,H2.elim (λh=>Rw.Fr_at aM h) (λh=>.inr h),by dsimp only;rw[np hpy];exact MT⟩ zW zR (by dsimp only;rw[np hpy];rfl) rfl zJ
 intro av;refine B 6 ?_;have cF:dZ.take j=dZ:=iz aa;rw[cF]at ae ⊢;obtain⟨bp,ig,spp,rfl⟩:=Rw.row_of ae aa;have abR:=aM.elim (λh=>h.elim) id;have aqd:=abR.mem w zJ;refine CJ.reH (H':=[(dS,oC (dg fs) 127),(eI,oC (Aq (some ⟨bc,oc,none⟩) cc ((.slice (ao bp) dZ.length ig)) (λ_=>0) 0 0) 61),(iF,oC (dg λ_=>0) 127),(bp,bj az 3 dZ spp)]) rfl ?_;refine CJ.fixAt (i:=3) rfl abR λwp B4 BL hop=>?_;have hop:dS≠bp/\eI≠bp/\iF≠bp:=by simpa[bM]using hop
 refine CJ.reH (H':=[(dS,oC (dg fs) 127),(eI,oC (Aq (some ⟨bc,oc,none⟩) cc ((.slice (ao bp) dZ.length ig)) (λ_=>0) 0 0) 61),(iF,oC (dg λ_=>0) 127)]) rfl ?_;have pF:ai encI 1 wp.heap.size wp (ao bp) dZ:=T9 ae BL;have aqe:=(bA.1 BL).1;have aqf:=(B4.links wc A0).size;refine B 3 ?_;refine nv (α:=Option Addr×Nat) (v:=λq=>.agg #[.slice q.1 T.length q.2]) (Φ:=λW q w1=>ai fV 2 w1.heap.size w1 q.1 T/\∀b off,q.1=some ⟨b,off,none⟩->T=[]\/b<N\/W.heap.size<=b) call140 rfl rfl rfl (λW hS=>by rw[<-hT];exact nzc G6 N W cJ (Bn _ _) [ch] (by show 1<=1000000;decide) a cp (aH.up (aj _) hS.sm) (by show 1<=64;decide) al1) ?_;rintro Wr ⟨ta,tc⟩ wr VX hBr -;refine bH 1 ?_;intro lR Q2 Q3;refine aE 7 (ab 0) ?_;refine B 4 ?_;refine CJ.lp (α:=Unit) [1,2,3,7,14,15,111,112,113] (λp=>[]) (λp=>[(lR,oC #[.slice ta T.length tc] 51),(dS,oC (dg fs) 127),(eI,oC (Aq (some ⟨bc,oc,none⟩) cc ((.slice (ao bp) dZ.length ig)) (λ_=>0) 0 0) 61),(iF,oC (dg λ_=>0) 127)]) (λp=>True) (λp=>0) () trivial ?_;rintro⟨⟩ -;refine Ji ?_;refine B 14 ?_;refine nH (enc:=oj) (m:=5) (t:=99) (xs:=([]:List Ch)) (v:=id) (first:=[]) (cap:=[]) rfl call144 rfl rfl rfl Ce (λW hS=>HX sw cJ (aH.up (aj _) hS.sm)) ?_;intro Ww aw cw ww hSw hBw Lh xg
 refine dp (ab 0) ?_;refine B 4 ?_;refine CJ.lp (α:=Unit) [1,2,3,7,14,15,158,159,160] (λp=>[]) (λp=>[(lR,oC #[.slice ta T.length tc] 51),(dS,oC (dg fs) 127),(eI,oC (Aq (some ⟨bc,oc,none⟩) cc ((.slice (ao bp) dZ.length ig)) (λ_=>0) 0 0) 61),(iF,oC (dg λ_=>0) 127)]) (λp=>True) (λp=>0) () trivial ?_;rintro⟨⟩ -;refine Ji ?_;refine B 10 ?_;have hg0:bN (qx (some ⟨bc,oc,none⟩) cc ch dZ (ao bp) ig (λ_=>0) 0 0):=ndi sw gj JI abK ⟨by decide,by decide⟩ ⟨by decide,by decide⟩;refine CJ.less (E':=[(1,_),(2,_),(3,_),(7,_),(14,_),(15,_),(158,_),(159,_),(160,_),(161,_)]) zR ?_;refine CJ.chn 5 [2,3,4] [some (.agg (dg fs)),some (.agg (cM (qx (some ⟨bc,oc,none⟩) cc ch dZ (ao bp) ig (λ_=>0) 0 0))),none,none,none] (λcv L' H'=>let uI:ad:=[(lR,oC #[.slice ta T.length tc] 51),(dS,oC (dg fs) 127),(eI,oC (Aq (some ⟨bc,oc,none⟩) cc ((.slice (ao bp) dZ.length ig)) (λ_=>0) 0 0) 61),(iF,oC (dg λ_=>0) 127)];let eo:ad:=uI;let iY:List World:=[ww,wr,wp,wc,we,wl,wn,w13,XT,w7,w];match cv with| []=>L'=iY/\H'=eo| [v1]=>∃(bq:Nat) (wq:World),v1= .slice (ao bq) 11 11/\L'=wq::iY/\H'=eo/\(lR<bq/\dS<bq/\eI<bq/\iF<bq)/\(∀p∈(uI:ad),wq.heap[p.1]? =some p.2)/\fu wq.heap.size wq (.list (ou (qx (some ⟨bc,oc,none⟩) cc ch dZ (ao bp) ig (λ_=>0) 0 0))) (vL (ao bq) 11 11)| [v1,v2]=>∃(bq:Nat) (wq:World),v1= .slice (ao bq) 11 11/\v2= .slice (ao bq) 8 11/\L'=wq::iY/\H'=eo/\(lR<bq/\dS<bq/\eI<bq/\iF<bq)/\(∀p∈(uI:ad),wq.heap[p.1]? =some p.2)/\fu wq.heap.size wq (.list (ou (qx (some ⟨bc,oc,none⟩) cc ch dZ (ao bp) ig (λ_=>0) 0 0))) (vL (ao bq) 11 11)| [v1,v2,v3]=>∃(bq:Nat) (wq:World) (hd:Nat->Int),v1= .slice (ao bq) 11 11/\v2= .slice (ao bq) 8 11/\v3= .agg (dg hd)/\L'=wq::iY/\H'=eo/\(lR<bq/\dS<bq/\eI<bq/\iF<bq)/\(∀p∈(uI:ad),wq.heap[p.1]? =some p.2)/\fu wq.heap.size wq (.list (ou (qx (some ⟨bc,oc,none⟩) cc ch dZ (ao bp) ig (λ_=>0) 0 0))) (vL (ao bq) 11 11)/\eu hd|_=>False) (pc zcu (pc zcu (pk (pk (pk (pn)))))) ?_ ?_
 ·refine ss rfl ?_ ?_
  ·intro cv L' H' hl hP F Q' hk;obtain rfl:=my hl;obtain⟨rfl,rfl⟩:=hP;refine nv (α:=Nat) (v:=λb=>.slice (ao b) 11 11) (Φ:=λW b w1=>W.heap.size<=b/\fu w1.heap.size w1 (.list (ou (qx (some ⟨bc,oc,none⟩) cc ch dZ (ao bp) ig (λ_=>0) 0 0))) (vL (ao b) 11 11)) call45 rfl rfl rfl (λW hS=>ndd (qx (some ⟨bc,oc,none⟩) cc ch dZ (ao bp) ig (λ_=>0) 0 0) hg0.few W.heap.size W (aj _) (ntl (zp.to hS A3 (aj _) (λb off e=>by cases e;exact .inr zz)) (pF.to hS A2 (aj _) (λb off e=>by cases e;exact .inr zz)))) ?_;rintro Wq bq_ wq_ Cf RJ ⟨xX,uB⟩;have g0:=Cf.lt _ A0;have g1:=Cf.lt _ A1;have g2:=Cf.lt _ A2;have g3:=Cf.lt _ A3;dsimp only at g0 g1 g2 g3;exact OJ.done (hk _ _ _ ⟨bq_,wq_,rfl,rfl,rfl,⟨by omega,by omega,by omega,by omega⟩,λp hp=>(RJ.block p.1 (Cf.lt p hp)).trans (Cf.own p hp),uB⟩)
  refine ss rfl ?_ ?_
  ·intro cv L' H' hl hP F Q' hk;obtain⟨v1,rfl⟩:=jv hl;obtain⟨bq,wq,rfl,rfl,rfl,pG,PL,PM⟩:=hP;refine rv rfl rfl rfl (eL (h:=8) underlying134 sizeOf200 rfl ⟨_,_,rfl,rfl⟩ zA) ?_;exact OJ.done (hk _ _ _ ⟨bq,wq,rfl,rfl,rfl,rfl,pG,PL,PM⟩)
  refine ss rfl ?_ ?_
  ·intro cv L' H' hl hP F Q' hk;obtain⟨v1,v2,rfl⟩:=rP hl;obtain⟨bq,wq,rfl,rfl,rfl,rfl,pG,PL,PM⟩:=hP;refine call (v:=.agg (dg (Z.tg (⟨#[99,111,109,109,105,116,32,98,111,100,121]⟩:ByteArray) (V.list ((ou (qx (some ⟨bc,oc,none⟩) cc ch dZ (ao bp) ig (λ_=>0) 0 0)).take 8)).enc))) call44 rfl rfl rfl (λW hS=>nZe hZ (⟨#[99,111,109,109,105,116,32,98,111,100,121]⟩:ByteArray) zA ((ou (qx (some ⟨bc,oc,none⟩) cc ch dZ (ao bp) ig (λ_=>0) 0 0)).take 8) (Zz _ hg0.few hg0.fine 8).1 (Zz _ hg0.few hg0.fine 8).2.1 (Zz _ hg0.few hg0.fine 8).2.2 W.heap.size bq 11 W (aj _) (fu.up (hS.links wq A0).size (hS.sameO A0 PL) _ _ (nrm (n:=11) rfl zA 8 zA PM)) (hg.old hS A11 zH zF)) ?_;exact OJ.done (hk _ _ _ ⟨bq,wq,_,rfl,rfl,rfl,rfl,rfl,pG,PL,PM,hZ.byt _ _⟩)
  exact nn
 intro cv L' H' hl hP;obtain⟨v1,v2,v3,rfl⟩:=py hl;obtain⟨bq,wq,hd,rfl,rfl,rfl,rfl,rfl,pG,PL,PM,hhd⟩:=hP;refine nv (α:=Nat->Int) (v:=λf=>.agg (dg f)) (Φ:=λ_ f _=>eu f) call145 rfl rfl rfl (λW hS=>npi hZ fs hd qT hhd W (hg.old hS A11 zH zF)) ?_;rintro Wf cf wf hSf hBf hcf;refine B 1 ?_;refine kT (i:=2) rfl sizeOf33 rfl rfl rfl rfl (eh rfl) rfl ?_;refine OJ.reH (H':=[(lR,oC #[.slice ta T.length tc] 51),(dS,oC (dg fs) 127),(eI,oC (Aq (some ⟨bc,oc,none⟩) cc (.slice (ao bp) dZ.length ig) cf 0 0) 61),(iF,oC (dg λ_=>0) 127)]) (by show([(lR,oC #[.slice ta T.length tc] 51),(dS,oC (dg fs) 127),(eI,oC (setCells (Aq (some ⟨bc,oc,none⟩) cc (.slice (ao bp) dZ.length ig) (λ_=>0) 0 0) 39 ((dg cf).toList)) 61),(iF,oC (dg λ_=>0) 127)]:ad)=_;rw[HY]) ?_;refine aE 6 (.agg (cM (qx (some ⟨bc,oc,none⟩) cc ch dZ (ao bp) ig cf 0 0))) ?_;have hg1:bN (qx (some ⟨bc,oc,none⟩) cc ch dZ (ao bp) ig cf 0 0):=ndi sw gj JI hcf ⟨by decide,by decide⟩ ⟨by decide,by decide⟩;refine nv (α:=Nat) (v:=λb=>.slice (ao b) 32 32) (Φ:=λW b w1=>W.heap.size<=b/\w1.heap[b]? =some (oC (dg (ow Z (qx (some ⟨bc,oc,none⟩) cc ch dZ (ao bp) ig cf 0 0))) 33)) call147 rfl rfl rfl (λW hS=>nxc hZ (qx (some ⟨bc,oc,none⟩) cc ch dZ (ao bp) ig cf 0 0) hg1 W.heap.size W (aj _) (ntl (zp.to hS A5 (aj _) (λb off e=>by cases e;exact .inr zz)) (pF.to hS A4 (aj _) (λb off e=>by cases e;exact .inr zz))) (hg.old hS A12 zH zF)) ?_
 rintro Wm bm wm wU KW ⟨xO,oW⟩;have g0:=wU.lt _ A0;have g1:=wU.lt _ A1;have g2:=wU.lt _ A2;have g3:=wU.lt _ A3;simp only[dx,ec]at g0 g1 g2 g3;obtain⟨ms,Cb⟩:∃m,ow Z (qx (some ⟨bc,oc,none⟩) cc ch dZ (ao bp) ig cf 0 0)=m:=⟨_,rfl⟩;have tF:eu ms:=by rw[<-Cb];exact hZ.byt _ _
 rw[Cb]at oW;obtain⟨zr,rX⟩:∃s,rR Z 300 (cI ms)=s:=⟨_,rfl⟩;obtain⟨zs,uy⟩:∃s,wQ Z 300 (cI ms)=s:=⟨_,rfl⟩;refine call (v:=.tuple #[.agg #[ab zr,ab zs],ab 0]) call146 rfl rfl rfl (λW hS=>by have h9:=nVp hZ 300 (cI ms) bm 0 32 (by rw[nS];decide) W (cx.dg (hS.old A0 oW zI zz) tF) (hg.old hS A13 zH zF);rw[nS]at h9;unfold BY at h9;rw[if_pos (by decide:DY 300),rX,uy]at h9;exact h9) ?_;refine B 4 ?_;refine kT (i:=2) rfl sizeOf59 rfl rfl rfl rfl (eh rfl) rfl ?_;refine OJ.reH (H':=[(lR,oC #[.slice ta T.length tc] 51),(dS,oC (dg fs) 127),(eI,oC (Aq (some ⟨bc,oc,none⟩) cc (.slice (ao bp) dZ.length ig) cf zr zs) 61),(iF,oC (dg λ_=>0) 127)]) (by show([(lR,oC #[.slice ta T.length tc] 51),(dS,oC (dg fs) 127),(eI,oC (setCells (Aq (some ⟨bc,oc,none⟩) cc (.slice (ao bp) dZ.length ig) cf 0 0) 71 ([ab zr,ab zs])) 61),(iF,oC (dg λ_=>0) 127)]:ad)=_;rw[MS]) ?_;refine B 6 ?_;refine Eo ?_;refine CJ.less (E':=[(1,_),(2,_),(3,_),(7,_),(14,_),(15,_),(16,_),(158,_),(159,_),(160,_),(161,_),(192,_),(193,_),(194,_),(195,_),(196,_),(197,_),(198,_),(199,_),(200,_),(201,_),(202,_),(203,_),(204,_),(205,_),(206,_),(207,_),(208,_)]) zR ?_;refine CJ.chn 3 [2] [some (.agg (cM (qx (some ⟨bc,oc,none⟩) cc ch dZ (ao bp) ig cf zr zs))),some (.agg (dg fs)),none] (λcv L' H'=>let eo:ad:=[(lR,oC #[.slice ta T.length tc] 51),(dS,oC (dg fs) 127),(eI,oC (cM (qx (some ⟨bc,oc,none⟩) cc ch dZ (ao bp) ig cf zr zs)) 61),(iF,oC (dg λ_=>0) 127)];let iY:List World:=[wm,wf,wq,ww,wr,wp,wc,we,wl,wn,w13,XT,w7,w];match cv with| []=>L'=iY/\H'=eo| [v1]=>v1= .tuple #[]/\L'=iY/\H'=eo|_=>False) (pc Jx (pc Jx (pk (pn)))) ?_ ?_
 ·exact z3g
 intro cv L' H' hl hP;obtain⟨v1,rfl⟩:=jv hl;obtain⟨rfl,rfl,rfl⟩:=hP;refine B 5 ?_;have al8:kK zr:=by have h:=WX hZ (nOl hZ 300 (cI ms));rw[<-rX];unfold rR;exact⟨by omega,by omega⟩
 have al9:kK zs:=by have h:=MR (C8 Z 300 (cI ms)) (qC (C9 Z (rR Z 300 (cI ms)) (Z.ge 4 300).1 (cI ms)) 300).1;rw[<-uy];unfold wQ;exact⟨by omega,by omega⟩
 refine bQ (.inl rfl) results81 bB λW hS=>⟨((qx (some ⟨bc,oc,none⟩) cc ch dZ (ao bp) ig cf zr zs),fs),rfl,hS.base A13 zF,?_,ndi sw gj JI hcf al8 al9,(ntl (zp.to hS A6 (aj _) (λb off e=>by cases e;exact .inr zz)) (pF.to hS A5 (aj _) (λb off e=>by cases e;exact .inr zz))),qT,λu hu=>(by cases hu;dsimp only;omega),λu hu=>(by cases hu;dsimp only;omega)⟩;exact⟨sw,by rw[hv,hpv],rfl,rfl,rfl,rfl,rfl,gj,JI,rfl,rfl,by show zr=rR Z 300 (cI (ow Z (qx (some ⟨bc,oc,none⟩) cc ch dZ (ao bp) ig cf 0 0)));rw[Cb,rX],by show zs=wQ Z 300 (cI (ow Z (qx (some ⟨bc,oc,none⟩) cc ch dZ (ao bp) ig cf 0 0)));rw[Cb,uy]⟩
def Xc (k:Nat):Nat->Int:=λi=>match i with|0=>(k:Int)|_=>0
theorem MU(k:Nat)(h:k<256):eu (Xc k):=λi=>by
 unfold Xc;split
 ·exact⟨by omega,by omega⟩
 exact⟨by decide,by decide⟩
theorem H3(w:World):Calls prog 78 #[ab 0,ab 0] w (aP w (ab 5000)):=by
 refine ef 8 func78 ntmps78 ?_;refine rr (ab 0) (vP rfl rfl zA zA) ?_;refine rr (ab 5000) (jx rfl rfl zA zA) ?_;refine B 1 ?_;refine rr (ab 5000) (jx rfl rfl zA zA) ?_;refine B 4 ?_;refine aK results78 rfl A0 ?_;rfl
theorem n1h(w:World):Calls prog 80 #[ab 0] w (aP w (ab 300)):=by
 refine ef 8 func80 ntmps80 ?_;refine rr (ab 300) (jx rfl rfl zA zA) ?_;refine B 4 ?_;refine aK results80 rfl A0 ?_;rfl
theorem n8o(w:World):Calls prog 82 #[ab 0] w (aP w (.agg (dg (Xc 1)))):=by
 refine eN func82 ntmps82 ?_;refine bH 3 ?_;intro b2 dJ dH;refine B 5 ?_;refine rv rfl rfl rfl (pw underlying3 underlying5 rfl) ?_;refine B 5 ?_;refine cu (.inl rfl) results82 bB A0 zB ?_;rfl
theorem n5o(hZ:FxOk Z)(w:World):Calls prog 41 #[ab 1,ab 0,ab 0] w (aP w (.tuple #[.agg (gK ⟨1,0,(Z.ge 4 5000).1,(Z.ge 4 300).1,0⟩),ab 5000])):=by
 obtain⟨pv,hpv⟩:∃p,(Z.ge 4 5000).1=p:=⟨_,rfl⟩;obtain⟨vv,MV⟩:∃p,(Z.ge 4 300).1=p:=⟨_,rfl⟩;rw[hpv,MV];refine eN func41 ntmps41 ?_;refine bH 3 ?_;intro b6 ky ri;refine B 7 ?_;refine call call78 rfl rfl rfl (λW hS=>H3 W) ?_;refine B 6 ?_;refine zWe ?_;refine B 10 ?_;refine call call80 rfl rfl rfl (λW hS=>n1h W) ?_;refine call (v:=.tuple #[ab vv,ab 0]) call79 rfl rfl rfl (λW hS=>by rw[<-MV];exact nqh hZ zA W) ?_;refine B 20 ?_;refine cu (.inl rfl) results41 bB A0 zB ?_;rfl
def H4 {α:Type} (w:World) (Z:List Nat) (v:α->Value) (Hn:α->ad) (Φ:α->World->Prop):Ending->World->Prop:=λe w'=>
 ∃x,e= .returned (v x)/\aQ (λk=>k∈Z) w w'/\Φ x w'/\(∀p∈Hn x,w'.heap[p.1]? =some p.2/\(p.1∈Z\/w.heap.size<=p.1))/\lO (Hn x)
section
variable {C:Cx} {Q:bC} {E:Env} {D:List Deferred} {G:Gh} {L:List World} {H:ad} {ops:Array Oper} {l:List Oper}
variable {d T ty f:Nat} {pos:String} {aC:Array Edge} {g:Option (Nat×Bool)} {x:Operand} {xs:List Operand} {vs:List Value} {eJ:Array Nat} {fn:Func}
theorem abS{α:Type}{v:α->Value}{Hn:α->ad}{Φ:α->World->Prop}{Hz H0:ad}{rs:List ResultVar}{us:List Value}{ex:Exit}(z:α)(he:ex= .ret\/ex= .normal)(hr:fn.results=rs.toArray)(h:RS C (Gh.lent (λk=>k∈keys Hz)) L (Hn z++H0) E rs us)(hw:w∈L)(ho:qy (keys Hz) w.heap.size (Hn z++H0))(hv:MW us=v z)(hΦ:∀W,St (Gh.lent (λk=>k∈keys Hz)) L (Hn z++H0) W->Φ z W):PJ C (bodyPost C.P fn (H4 w (keys Hz) v Hn Φ)) ex E [] (Gh.lent (λk=>k∈keys Hz)) L (Hn z++H0):=
 bQ he hr h λW hS=>⟨z,by rw[hv],(hS.links w hw).mono (λk hk hx=>by
  rcases hx with hx|hx
  ·exact hx
  ·obtain⟨p,hp,rfl⟩:=bT.1 hx;rcases ho.mem p hp with h|h
   ·exact h
   omega),hΦ W hS,λp hp=>⟨hS.own p (by simp[hp]),ho.mem p (by simp[hp])⟩,by
  have:=(vO _).1 hS.nodup;rw[gL,List.nodup_append]at this;exact(vO _).2 this.1⟩
theorem Ua{α:Type}{v:α->Value}{Hn:α->ad}{Φ:World->α->World->Prop}{Hz H0:ad}{first cap:List Value}(hH:H=Hz++H0)(hx:ev E x=some (.func (.func f) first.toArray cap.toArray))(aA:eU C.P f)(hw:nr ops E g=some true)(hN:Nat.blt d C.N=true)(ha:jy E xs=some vs)(jY:qu G L Hz)(hc:∀W,St G L (Hz++H0) W->Calls C.P f (first++vs++cap).toArray W (H4 W (keys Hz) v Hn (Φ W)))(k:∀W z W',St G L (Hz++H0) W->Φ W z W'->(∀p∈Hn z,p.1∈keys Hz\/(ah L p.1/\bM H p.1))->OJ C ops Q l ((d,v z)::E) D G (W'::L) (Hn z++H0)):OJ C ops Q (⟨some d,.call ⟨.value x,xs.toArray,eJ⟩,ty,pos,aC,g⟩::l) E D G L H:=by
 subst hH;exact nK rfl hw hx ha zJ aA λa W jz hD hF hS=>(hc W hS).mono (by
  rintro ed W' ⟨z,rfl,hk,hΦ,hn,hd⟩;refine k W z W' hS hΦ (λp hp=>?_) (a.put (some d) (v z)) W' z8 z6 (hF.put _ z7) (hS.swapZ hk jY hn hd).snap;rcases(hn p hp).2 with h|h
  ·exact .inl h
  exact .inr ⟨CD hS h,DF hS h⟩)
end
theorem abT{T:Nat}{x:Operand}{off:Nat}(hi:(b,Obj.cells cs t fr)∈H)(hA:fe C.P T false)(hx:ev E x=some (ptr b off))(hv:cs[off]? =some v):RV C G L H E (.load T x) v:=
 (List.getElem?_of_mem hi).elim λ_ h=>bU h hA hx hv
theorem nAj{T:Nat}{x:Operand}{n:Nat}(hi:(b,Obj.cells cs t fr)∈H)(hA:fe C.P T true)(hZ:nL C.P T n)(hx:ev E x=some (ptr b 0))(hn:cs.size=n):RV C G L H E (.load T x) (.agg cs):=
 (List.getElem?_of_mem hi).elim λ_ h=>eB h hA hZ hx hn
theorem abU{α:Type}{a b d:List α}{x:α}:∀w∈a++(b++([x]++d)),w∈x::(a++(b++([]++d))):=by grind
theorem H5{α:Type}{a d:List α}{x:α}:∀w∈a++([x]++d),w∈x::(a++([]++d)):=by grind
theorem H6{α:Type}{d:List α}{x:α}:∀w∈[x]++d,w∈x::([]++d):=λ_ h=>h
def ob (k:Bool) (v:Value):Option Value:=if k then some v else none
theorem nu{rq:List Nat}{k:Nat}(hr:H7 rq k cv=true)(j:Nat)(hj:j∈rq)(e:cv[j]? =some (ob kb v)):kb=true:=by grind [H7,ob]
theorem nV{rq:List Nat}{k:Nat}(hr:H7 rq k cv=true)(e:cv[k]? =some (ob kb v)):kb=false:=by grind [H7,ob]
theorem nX(hr:cv.all (λx=>x.isSome)=true)(j:Nat)(e:cv[j]? =some (ob kb v)):kb=true:=by
 have h:=uF.1 hr _ (cA e);all_goals grind [ob]
theorem Bo{ch ds:List Nat}(hd:MX ch ds cv=true)(j:Nat)(hj:j∈ds/\(ch.any λc=>Nat.beq c j)=true)(e:cv[Ub ch j]? =some (ob kb v)):kb=true:=by
 have h:=uF.1 hd j hj.1;all_goals grind [ob]
def ua (c:Cm):List Value:=(cM c).toList
theorem nvj(c:Cm):(ua c).length=73:=rfl
theorem MY(c:Cm):∀u∈ua c,u.oneCell'=true:=LC rfl
def JJ (o:Ow):List Value:=(HF o).toList
theorem n9j(o:Ow):(JJ o).length=2:=rfl
theorem MZ(o:Ow):∀u∈JJ o,u.oneCell'=true:=LC rfl
theorem OJ.swpK{Q:bC}{D:List Deferred}{ops:Array Oper}{l:List Oper}{p q:Nat×Obj}(k:OJ C ops Q l E D G L (q::p::H)):OJ C ops Q l E D G L (p::q::H):=OJ.perm (List.Perm.swap _ _ _) k
abbrev tu (pp vv:Int):Ch:=⟨1,0,pp,vv,0⟩
theorem M1:prog.info? 61=some Tryz.t61:=by kernel_rfl
theorem M3:prog.info? 71=some Tryz.t71:=by kernel_rfl
theorem Uc:jN prog 24 61 73:=⟨underlying24,Tryz.t61,.agg (cM zCm),M1,rfl,rfl,rfl,by decide⟩
theorem Ud:jN prog 23 71 2:=⟨underlying23,Tryz.t71,.agg #[ab 0,ab 0],M3,rfl,rfl,rfl,by decide⟩
theorem oN.at_{fo:Int}(h:oN Z fo ch c)(hC:dB N w c)(hS:St G L H W)(hw:w∈L)(hN:N<=w.heap.size)(h1:∀u,c.ca=some u->¬G.X u.block/\bM H u.block)(h2:∀u,c.pa=some u->¬G.X u.block/\bM H u.block):dB W.heap.size W c:=
 ⟨hC.chs.toG hS hw hN λb off e=>.inr λ_=>h1 _ e,hC.path.toG hS hw hN λb off e=>.inr λ_=>h2 _ e,.inl h.b,.inl h.w,λx hx=>(by rw[h.b]at hx;cases hx),λx hx=>(by rw[h.w]at hx;cases hx)⟩
theorem abV(hZ:FxOk Z)(h:oN Z 6 ch c)(dE:bN c)(N:Nat)(w:World)(hN:N<=w.heap.size)(hC:dB N w c)(hg:Glb w):Calls prog 83 #[.agg (bF G6),.agg (cM c)] w (cZ w (λXg:Gv=>.tuple #[.agg (bF Xg),ab 0]) (λ_ _=>True)):=
 (nud hZ G6 c dE N w hN (Bn _ _) hC hg).mono (by
  have h0:iy Z (gZ 6) c=0:=h.next hZ fd6;rintro e w' ⟨X,rfl,hb,_⟩;exact⟨X,by show Ending.returned _=_;rw[show iy Z G6.g c=0 from h0],hb,trivial⟩)
theorem Ue{x:Ch}(h:W.heap[b]? =some (.cells (gK x) t fr)):ai gK 5 W.heap.size W (ao b) [x]:=
 .inr ⟨b,0,_,t,fr,rfl,(bA.1 h).1,h,λi hi=>by
  have:i=0:=by simpa using hi
  subst this;exact⟨aj 5,rfl⟩⟩
theorem nyo{α:Type}{enc:α->List Value}{cap:Nat}{xs:List α}{sp:List Value}(hm:∀x,(enc x).length=m)(hf:(Rw.row b cap sp).Fit m xs)(h:W.heap[b]? =some (bj enc t xs sp)):ai (λx=>(enc x).toArray) m W.heap.size W (ao b) xs:=by
 obtain⟨a,cp,he,aH⟩:=(Rw.row b cap sp).sl hm hf (show(Rw.row b cap sp).At enc t xs W from h) (aj _);exact zki
theorem M4(hZ:FxOk Z)(pp vv:Int)(sw:HV (tu pp vv))(hv0:vv=(Z.ge 4 300).1)(bx bq bh bm tx tq:Nat)(w:World)(yl:w.heap[bx]? =some (oC (gK (tu pp vv)) tx))(pG:w.heap[bq]? =some (oC #[ab 5000] tq))(hbh:w.heap[bh]? =some (oC #[ak,ak,ak,ak,ak,ak,ak,ak,ak,ak,.map (some bm)] 79))(oW:w.heap[bm]? =some ((Mp.mk [] 0).obj (id:Value->Value) []))(hne:bh≠bm/\bx≠bh/\bx≠bm/\bq≠bh/\bq≠bm)(hb6:6<=bh/\6<=bm)(hg:Glb w)(CK:Lab w):Calls prog 42 #[ptr bh 0,.agg (bF G6),ab 0,.agg (dg λ_=>0),.slice (ao bx) 1 1,.slice (ao bq) 1 1] w (H4 w [bh,bm] (λ_:Cm×(Nat×Nat)×(Nat×Nat)×(Nat×Nat)×(Nat×Nat)=>bZ) (λq=>[(bh,oC #[ak,.slice (ao q.2.1.1) 1 q.2.1.2,.slice (ao q.2.2.1.1) 1 q.2.2.1.2,ak,ak,ak,ak,ak,.slice (ao q.2.2.2.1.1) 1 q.2.2.2.1.2,.slice (ao q.2.2.2.2.1) 1 q.2.2.2.2.2,.map (some bm)] 79)]) (λq w'=>oN Z 6 (tu pp vv) q.1/\bN q.1/\dB w'.heap.size w' q.1/\ai HF 2 w'.heap.size w' (ao q.2.1.1) [(0,pp)]/\ai cM 73 w'.heap.size w' (ao q.2.2.1.1) [q.1]/\w.heap.size<=q.2.1.1/\w.heap.size<=q.2.2.1.1/\(∀u,q.1.ca=some u->w.heap.size<=u.block)/\∀u,q.1.pa=some u->w.heap.size<=u.block)):=by
 have hg4:=hg.lt;obtain⟨pK,tP,Cj,aqg,aqh⟩:=hne;obtain⟨aqi,aqj⟩:=hb6;have aqk:=(bA.1 hbh).1;have B5:=(bA.1 oW).1;have aql:=(bA.1 yl).1;have aqm:=(bA.1 pG).1;refine nB (vs:=[_,_,_,_,_,_]) (Gh.lent (λk=>k∈keys [(bh,oC #[ak,ak,ak,ak,ak,ak,ak,ak,ak,ak,.map (some bm)] 79),(bm,(Mp.mk [] 0).obj (id:Value->Value) [])])) [(bh,oC #[ak,ak,ak,ak,ak,ak,ak,ak,ak,ak,.map (some bm)] 79),(bm,(Mp.mk [] 0).obj (id:Value->Value) [])] func42 rfl ntmps42 rfl (HH (fK.mem ⟨hbh,oW,trivial⟩) (WV pK)) ?_;refine cH 2 ?_;intro b7 w7 Qy Vn hz7 kh v7;refine yX ?_;intro b9 w9 sF hm9 Za xP uj;refine aE 9 (ab 0) ?_;refine B 4 ?_;refine CJ.less (E':=[(0,_),(1,_),(2,_),(3,_),(4,_),(5,_),(7,_),(9,_),(12,_),(13,_),(20,_),(21,_),(22,_),(23,_),(24,_)]) zR ?_;refine dN 20 [11,12,13,14,16,17,18,19] [[],[0],[0,1],[0,1],[],[],[0,1,2,4,5],[0,1,2,3,4,5,6]] (λcv L' H'=>∃(c:Cm) (fs:Nat->Int) (wk:World) (eI:Nat) (dS:Nat) (dG jB jJ gw eH fy kE pU:Bool),cv=[ob dG (.tuple #[.agg (cM c),.agg (dg fs),ab 0]),ob jB (.tuple #[.agg (cM c),.agg (dg fs),ab 0]),ob jJ (.agg (cM c)),ob gw (.agg (dg fs)),ob eH (ptr eI 0),ob fy (ptr dS 0),ob kE (.tuple #[]),ob pU (.tuple #[])]/\L'=(if dG then[wk]else[])++[w9,w7,w]/\H'=(if fy then[(dS,Obj.cells (dg (if pU then fs else λ_=>0)) 127 (0,0))]else[])++((if eH then[(eI,Obj.cells (cM (if kE then c else zCm)) 61 (0,0))]else[])++[(bh,oC #[ak,ak,ak,ak,ak,ak,ak,ak,ak,ak,.map (some bm)] 79),(bm,(Mp.mk [] 0).obj (id:Value->Value) [])])/\(dG=true->oN Z 6 (tu pp vv) c/\bN c/\dB wk.heap.size wk c/\eu fs/\(∀u,c.ca=some u->w.heap.size<=u.block/\u.block<wk.heap.size)/\(∀u,c.pa=some u->w.heap.size<=u.block/\u.block<wk.heap.size)/\w.heap.size<=wk.heap.size)/\(eH=true->w9.heap.size<=eI)/\(fy=true->w9.heap.size<=dS)/\(dG=true->eH=true->((∀u,c.ca=some u->eI≠u.block)/\∀u,c.pa=some u->eI≠u.block))/\(dG=true->fy=true->((∀u,c.ca=some u->dS≠u.block)/\∀u,c.pa=some u->dS≠u.block))/\(jB=true->dG=true)/\(jJ=true->dG=true)/\(gw=true->dG=true)/\(kE=true->dG=true/\eH=true)/\(pU=true->dG=true/\fy=true)) ⟨zCm,(λ_=>0),w,0,0,false,false,false,false,false,false,false,false,rfl,rfl,rfl,λh=>zS,λh=>zS,λh=>zS,λh=>zS,λh=>zS,λh=>zS,λh=>zS,λh=>zS,λh=>zS,λh=>zS⟩ (lD (λcv L' H' hl hd hP=>by obtain⟨c,fs,wk,eI,dS,dG,jB,jJ,gw,eH,fy,kE,pU,rfl,rfl,rfl,f11,f16,f17,d14,d15,g12,g13,g14,g18,g19⟩:=hP;exact X.v (fb isAgg53 sizeOf53 rfl (cG _ A1) Qy Vn zyb rfl)) (qm 2 (k:=by exact lD (λcv L' H' _ _ hP=>nf call80 rfl rfl (λW hS _=>n1h W) (λ_=>rfl)) (qm 2 (k:=by exact lD (λcv L' H' _ _ hP=>nf call82 rfl rfl (λW hS _=>n8o W) (λ_=>rfl)) (lD (λcv L' H' hl hd hP=>by obtain⟨c,fs,wk,eI,dS,dG,jB,jJ,gw,eH,fy,kE,pU,rfl,rfl,rfl,f11,f16,f17,d14,d15,g12,g13,g14,g18,g19⟩:=hP;exact X.v (fb isAgg127 sizeOf127 rfl (cG _ A0) sF hm9 zyb rfl)) (qm 1 (k:=by exact lD (λcv L' H' _ _ hP=>X.v (RV.re (v':=C1) (vU (m:=0) underlying3 underlying5 rfl zA zA) rfl)) (qm 5 (k:=by exact lD (λcv L' H' hl hd hP=>by obtain⟨c,fs,wk,eI,dS,dG,jB,jJ,gw,eH,fy,kE,pU,rfl,rfl,rfl,f11,f16,f17,d14,d15,g12,g13,g14,g18,g19⟩:=hP;obtain rfl:jB=true:=Bo hd 12 zA rfl;exact X.v (jg rfl rfl)) LI)))))))))) (sp:=[some (.agg (bF G6)),_,_,_,_,_,_,some (.agg (dg λ_=>0)),_,_,some (.agg (dg (Xc 2))),_,_,_,_,some (ab 0),_,_,_,_]) ?_ ?_
 ·refine nc rfl rfl ?_ ?_
  ·intro cv L' H' hl hr hP F Q' hk;obtain⟨c,fs,wk,eI,dS,dG,jB,jJ,gw,eH,fy,kE,pU,rfl,rfl,rfl,f11,f16,f17,d14,d15,g12,g13,g14,g18,g19⟩:=hP;obtain rfl:dG=false:=nV hr rfl;show OJ _ _ _ _ _ _ _ [w9,w7,w] _;refine nv (α:=Cm×(Nat->Int)) (v:=λq=>.tuple #[.agg (cM q.1),.agg (dg q.2),ab 0]) (Φ:=λW q w1=>oN Z 6 (tu pp vv) q.1/\bN q.1/\dB w1.heap.size w1 q.1/\eu q.2/\(∀u,q.1.ca=some u->W.heap.size<=u.block)/\∀u,q.1.pa=some u->W.heap.size<=u.block) call81 rfl rfl rfl (λW hS=>nWm hZ (tu pp vv) sw hv0 W.heap.size (ao bx) 1 (Xc 1) (Xc 2) (MU 1 zA) W (aj _) (Ue (hS.old A2 yl yw zyb)) (hg.old hS A2 (λk hk=>by simp only[Gh.lent,keys,dL,ft,cd,dV,or_false];omega) (by have g16:=f16;have g17:=f17;cases eH<;>cases fy<;>simp[Over]at g16 g17 ⊢ <;>omega)) (CK.old hS A2 yw zyb)) ?_;rintro Wk ⟨c_,fs_⟩ wk_ wj ES ⟨xA,dE,CL,qT,M5,M6⟩;dsimp only at xA dE CL qT M5 M6;have tJ:=(wj.links w A2).size;have hcb:∀u,c_.ca=some u->u.block<wk_.heap.size:=λu hu=>by obtain⟨b,off,_,_,_,e,h,_⟩:=CL.chs.get (by rw[xA.ct];show 0<1;decide);rw[hu]at e;cases e;exact h
   have hpb:∀u,c_.pa=some u->u.block<wk_.heap.size:=λu hu=>by obtain⟨b,off,_,_,_,e,h,_⟩:=CL.path.get (by rw[xA.pl];decide);rw[hu]at e;cases e;exact h
   obtain rfl:jB=false:=by cases jB;(rfl);exact absurd (g12 rfl) zJ
   obtain rfl:jJ=false:=by cases jJ;(rfl);exact absurd (g13 rfl) zJ
   obtain rfl:gw=false:=by cases gw;(rfl);exact absurd (g14 rfl) zJ
   obtain rfl:kE=false:=by cases kE;(rfl);exact absurd (g18 rfl).1 zJ
   obtain rfl:pU=false:=by cases pU;(rfl);exact absurd (g19 rfl).1 zJ
   exact OJ.done (hk _ _ _ ⟨c_,fs_,wk_,eI,dS,true,false,false,false,eH,fy,false,false,rfl,rfl,rfl,λ_=>⟨xA,dE,CL,qT,λu hu=>⟨(by have:=M5 u hu;omega),hcb u hu⟩,λu hu=>⟨(by have:=M6 u hu;omega),hpb u hu⟩,(by have h9:=ES.size;omega)⟩,f16,f17,λ_ h=>(by subst h;have gw:=wj.lt (eI,_) (cG _ (uc _ A0));dsimp only at gw;exact⟨λu hu=>(by have:=M5 u hu;omega),λu hu=>(by have:=M6 u hu;omega)⟩),λ_ h=>(by subst h;have k15:=wj.lt (dS,_) (uc _ A0);dsimp only at k15;exact⟨λu hu=>(by have:=M5 u hu;omega),λu hu=>(by have:=M6 u hu;omega)⟩),λh=>zS,λh=>zS,λh=>zS,λh=>zS,λh=>zS⟩)
  refine nc rfl rfl ?_ ?_
  ·intro cv L' H' hl hr hP F Q' hk;obtain⟨c,fs,wk,eI,dS,dG,jB,jJ,gw,eH,fy,kE,pU,rfl,rfl,rfl,f11,f16,f17,d14,d15,g12,g13,g14,g18,g19⟩:=hP;obtain rfl:dG=true:=nu hr 0 zA rfl;obtain rfl:jB=false:=nV hr rfl;refine B 1 ?_;exact OJ.done (hk _ _ _ ⟨c,fs,wk,eI,dS,true,true,jJ,gw,eH,fy,kE,pU,rfl,rfl,rfl,f11,f16,f17,d14,d15,λ_=>rfl,g13,g14,g18,g19⟩)
  refine nc rfl rfl ?_ ?_
  ·intro cv L' H' hl hr hP F Q' hk;obtain⟨c,fs,wk,eI,dS,dG,jB,jJ,gw,eH,fy,kE,pU,rfl,rfl,rfl,f11,f16,f17,d14,d15,g12,g13,g14,g18,g19⟩:=hP;obtain rfl:dG=true:=nu hr 0 zA rfl;obtain rfl:jB=true:=nu hr 1 zA rfl;obtain rfl:jJ=false:=nV hr rfl;refine B 1 ?_;exact OJ.done (hk _ _ _ ⟨c,fs,wk,eI,dS,true,true,true,gw,eH,fy,kE,pU,rfl,rfl,rfl,f11,f16,f17,d14,d15,g12,λ_=>rfl,g14,g18,g19⟩)
  refine nc rfl rfl ?_ ?_
  ·intro cv L' H' hl hr hP F Q' hk;obtain⟨c,fs,wk,eI,dS,dG,jB,jJ,gw,eH,fy,kE,pU,rfl,rfl,rfl,f11,f16,f17,d14,d15,g12,g13,g14,g18,g19⟩:=hP;obtain rfl:dG=true:=nu hr 0 zA rfl;obtain rfl:jB=true:=nu hr 1 zA rfl;obtain rfl:gw=false:=nV hr rfl;refine B 1 ?_;exact OJ.done (hk _ _ _ ⟨c,fs,wk,eI,dS,true,true,jJ,true,eH,fy,kE,pU,rfl,rfl,rfl,f11,f16,f17,d14,d15,g12,g13,λ_=>rfl,g18,g19⟩)
  refine nc rfl rfl ?_ ?_
  ·intro cv L' H' hl hr hP F Q' hk;obtain⟨c,fs,wk,eI,dS,dG,jB,jJ,gw,eH,fy,kE,pU,rfl,rfl,rfl,f11,f16,f17,d14,d15,g12,g13,g14,g18,g19⟩:=hP;obtain rfl:eH=false:=nV hr rfl;obtain rfl:kE=false:=by cases kE;(rfl);exact absurd (g18 rfl).2 zJ
   refine B 1 ?_;intro b_ pL iw;have h16:w9.heap.size<=b_:=pL.mem w9 zJ;have abW:dG=true->true=true->(∀u,c.ca=some u->b_≠u.block)/\∀u,c.pa=some u->b_≠u.block:=λh _=>zSc;cases fy with
   |false=>exact OJ.done (hk _ _ _ ⟨c,fs,wk,b_,dS,dG,jB,jJ,gw,true,false,false,pU,rfl,rfl,rfl,f11,λ_=>h16,f17,abW,d15,g12,g13,g14,λh=>zS,g19⟩)
   |true=>exact OJ.swpK (OJ.done (hk _ _ _ ⟨c,fs,wk,b_,dS,dG,jB,jJ,gw,true,true,false,pU,rfl,rfl,rfl,f11,λ_=>h16,f17,abW,d15,g12,g13,g14,λh=>zS,g19⟩))
  refine nc rfl rfl ?_ ?_
  ·intro cv L' H' hl hr hP F Q' hk;obtain⟨c,fs,wk,eI,dS,dG,jB,jJ,gw,eH,fy,kE,pU,rfl,rfl,rfl,f11,f16,f17,d14,d15,g12,g13,g14,g18,g19⟩:=hP;obtain rfl:fy=false:=nV hr rfl;obtain rfl:pU=false:=by cases pU;(rfl);exact absurd (g19 rfl).2 zJ
   refine B 1 ?_;intro b_ pL iw;have h17:w9.heap.size<=b_:=pL.mem w9 zJ;exact OJ.done (hk _ _ _ ⟨c,fs,wk,eI,b_,dG,jB,jJ,gw,eH,true,kE,false,rfl,rfl,rfl,f11,f16,λ_=>h17,d14,λh _=>zSc,g12,g13,g14,g18,λh=>zS⟩)
  refine nc rfl rfl ?_ ?_
  ·intro cv L' H' hl hr hP F Q' hk;obtain⟨c,fs,wk,eI,dS,dG,jB,jJ,gw,eH,fy,kE,pU,rfl,rfl,rfl,f11,f16,f17,d14,d15,g12,g13,g14,g18,g19⟩:=hP;obtain rfl:dG=true:=nu hr 0 zA rfl;obtain rfl:jB=true:=nu hr 1 zA rfl;obtain rfl:jJ=true:=nu hr 2 zA rfl;obtain rfl:eH=true:=nu hr 4 zA rfl;obtain rfl:fy=true:=nu hr 5 zA rfl;obtain rfl:kE=false:=nV hr rfl;refine B 1 ?_;exact OJ.done (hk (.tuple #[]) _ _ ⟨c,fs,wk,eI,dS,true,true,true,gw,true,true,true,pU,rfl,rfl,rfl,f11,f16,f17,d14,d15,g12,g13,g14,λ_=>⟨rfl,rfl⟩,g19⟩)
  refine nc rfl rfl ?_ ?_
  ·intro cv L' H' hl hr hP F Q' hk;obtain⟨c,fs,wk,eI,dS,dG,jB,jJ,gw,eH,fy,kE,pU,rfl,rfl,rfl,f11,f16,f17,d14,d15,g12,g13,g14,g18,g19⟩:=hP;obtain rfl:dG=true:=nu hr 0 zA rfl;obtain rfl:jB=true:=nu hr 1 zA rfl;obtain rfl:jJ=true:=nu hr 2 zA rfl;obtain rfl:gw=true:=nu hr 3 zA rfl;obtain rfl:eH=true:=nu hr 4 zA rfl;obtain rfl:fy=true:=nu hr 5 zA rfl;obtain rfl:kE=true:=nu hr 6 zA rfl;obtain rfl:pU=false:=nV hr rfl;refine B 1 ?_;exact OJ.done (hk (.tuple #[]) _ _ ⟨c,fs,wk,eI,dS,true,true,true,true,true,true,true,true,rfl,rfl,rfl,f11,f16,f17,d14,d15,g12,g13,g14,g18,λ_=>⟨rfl,rfl⟩⟩)
  exact nn
 intro cv L' H' hl hr hP;obtain⟨c,fs,wk,eI,dS,dG,jB,jJ,gw,eH,fy,kE,pU,rfl,rfl,rfl,f11,f16,f17,d14,d15,g12,g13,g14,g18,g19⟩:=hP;obtain rfl:dG=true:=nX hr 0 rfl;obtain rfl:jB=true:=nX hr 1 rfl;obtain rfl:jJ=true:=nX hr 2 rfl;obtain rfl:gw=true:=nX hr 3 rfl;obtain rfl:eH=true:=nX hr 4 rfl;obtain rfl:fy=true:=nX hr 5 rfl;obtain rfl:kE=true:=nX hr 6 rfl;obtain rfl:pU=true:=nX hr 7 rfl;obtain⟨xA,dE,CL,qT,hca,WT,aqn⟩:=f11 rfl;have aaW:=f16 rfl;have Fk:=f17 rfl;have d14:=d14 rfl rfl;have d15:=d15 rfl rfl;show OJ _ _ _ _ _ _ _ [wk,w9,w7,w] [(dS,oC (dg fs) 127),(eI,oC (cM c) 61),(bh,oC #[ak,ak,ak,ak,ak,ak,ak,ak,ak,ak,.map (some bm)] 79),(bm,(Mp.mk [] 0).obj (id:Value->Value) [])];refine aE 5 (.agg (bF G6)) ?_;refine dp (.agg (cM c)) ?_;refine nv (α:=Gv) (v:=λXg:Gv=>.tuple #[.agg (bF Xg),ab 0]) (Φ:=λ_ _ _=>True) call83 rfl rfl rfl (λW hS=>abV hZ xA dE W.heap.size W (aj _) (xA.at_ CL hS A0 (aj _) (λu hu=>by have h8:=hca u hu;have h6:=d14.1 u hu;have h7:=d15.1 u hu;exact⟨by simp only[Gh.lent,keys,dL,ft,cd,dV,or_false];omega,by simp only[bM,dx,ec,ne_eq,and_true];omega⟩) (λu hu=>by have h8:=WT u hu;have h6:=d14.2 u hu;have h7:=d15.2 u hu;exact⟨by simp only[Gh.lent,keys,dL,ft,cd,dV,or_false];omega,by simp only[bM,dx,ec,ne_eq,and_true];omega⟩)) (hg.old hS A3 (λk hk=>by simp only[Gh.lent,keys,dL,ft,cd,dV,or_false];omega) zF)) ?_
 rintro Wx Xg wx hSx hBx -;refine bH 4 ?_;intro qv akZ ak0;refine aE 8 bG ?_;refine B 2 ?_;refine wX ?_;refine CJ.less (E':=[(0,_),(1,_),(2,_),(3,_),(4,_),(5,_),(7,_),(9,_),(12,_),(13,_),(14,_),(15,_),(16,_),(17,_),(18,_),(20,_),(21,_),(22,_),(23,_),(24,_),(25,_),(26,_),(27,_),(28,_),(29,_),(30,_),(31,_),(32,_),(33,_),(34,_),(35,_),(36,_),(37,_),(38,_),(39,_),(40,_),(41,_),(42,_),(43,_),(44,_),(45,_),(46,_),(47,_),(48,_),(49,_),(50,_),(51,_),(52,_)]) zR ?_;refine dN 32 [7,9,10,14,16,17,23,24,28,31] [[],[],[0,1],[],[],[0,1,2,3,4],[],[0,1,2,3,4,5,6],[0,1,2,3,4,5,6,7],[0,1,2,3,4,5,6,7,8]] (λcv L' H'=>∃(lF:Nat) (mh:World) (kV:Nat) (lN:World) (kR:Nat) (lG:World) (fN:Nat) (ke:Nat) (jC:List Value) (gb:Nat) (kf:Nat) (jD:List Value) (gy:Nat) (kF:Nat) (jE:List Value) (k7 k9 eR gw eH fy mj kG kH kI:Bool),cv=[ob k7 (ak),ob k9 (.slice (ao lF) 1 1),ob eR (.slice (ao fN) 1 ke),ob gw (ak),ob eH (.slice (ao kV) 1 1),ob fy (.slice (ao gb) 1 kf),ob mj (.slice (ao kR) 1 1),ob kG (.slice (ao gy) 1 kF),ob kH (.tuple #[]),ob kI (.tuple #[])]/\L'=(if mj then[lG]else[])++((if eH then[lN]else[])++((if k9 then[mh]else[])++[wx,wk,w9,w7,w]))/\H'=(if kG then[(gy,bj cW 127 [dk fs] jE)]else[])++((if fy then[(gb,bj lL 53 [Xg] jD)]else[])++((if eR then[(fN,bj ua 61 [c] jC)]else[])++[(qv,Obj.cells (bF Xg) 53 (0,0)),(dS,Obj.cells (dg fs) 127 (0,0)),(eI,Obj.cells (cM c) 61 (0,0)),(bh,Obj.cells #[ak,ak,(if kH then Value.slice (ao fN) 1 ke else ak),ak,ak,ak,ak,ak,(if kI then Value.slice (ao gb) 1 kf else ak),ak,.map (some bm)] 79 (0,0)),(bm,(Mp.mk [] 0).obj (id:Value->Value) [])]))/\(k9=true->mh.heap[lF]? =some (oC (cM c) 61)/\mh.heap.size=lF+1/\¬(Gh.lent (λk=>k∈keys [(bh,oC #[ak,ak,ak,ak,ak,ak,ak,ak,ak,ak,.map (some bm)] 79),(bm,(Mp.mk [] 0).obj (id:Value->Value) [])])).X lF/\qv≠lF/\dS≠lF/\eI≠lF/\bh≠lF/\bm≠lF/\w.heap.size<=lF)/\(eH=true->lN.heap[kV]? =some (oC (bF Xg) 53)/\lN.heap.size=kV+1/\¬(Gh.lent (λk=>k∈keys [(bh,oC #[ak,ak,ak,ak,ak,ak,ak,ak,ak,ak,.map (some bm)] 79),(bm,(Mp.mk [] 0).obj (id:Value->Value) [])])).X kV/\qv≠kV/\dS≠kV/\eI≠kV/\bh≠kV/\bm≠kV/\w.heap.size<=kV)/\(mj=true->lG.heap[kR]? =some (oC (dg fs) 127)/\lG.heap.size=kR+1/\¬(Gh.lent (λk=>k∈keys [(bh,oC #[ak,ak,ak,ak,ak,ak,ak,ak,ak,ak,.map (some bm)] 79),(bm,(Mp.mk [] 0).obj (id:Value->Value) [])])).X kR/\qv≠kR/\dS≠kR/\eI≠kR/\bh≠kR/\bm≠kR/\w.heap.size<=kR)/\(eR=true->(Rw.row fN ke jC).Fit 73 [c]/\wk.heap.size<=fN)/\(fy=true->(Rw.row gb kf jD).Fit 36 [Xg]/\wk.heap.size<=gb)/\(kG=true->(Rw.row gy kF jE).Fit 32 [dk fs]/\wk.heap.size<=gy)/\(eR=true->eH=true->fN≠kV)/\(eR=true->mj=true->fN≠kR)/\(fy=true->mj=true->gb≠kR)/\(eR=true->k9=true/\k7=true)/\(fy=true->eR=true/\eH=true/\gw=true)/\(kG=true->fy=true/\mj=true)/\(kH=true->kG=true)/\(kI=true->kH=true)) ⟨0,w,0,w,0,w,0,0,[],0,0,[],0,0,[],false,false,false,false,false,false,false,false,false,false,rfl,rfl,rfl,λh=>zS,λh=>zS,λh=>zS,λh=>zS,λh=>zS,λh=>zS,λh _=>zS,λh _=>zS,λh _=>zS,λh=>zS,λh=>zS,λh=>zS,λh=>zS,λh=>zS⟩ (qm 8 (k:=by exact lD (λcv L' H' hl hd hP=>by obtain⟨lF,mh,kV,lN,kR,lG,fN,ke,jC,gb,kf,jD,gy,kF,jE,k7,k9,eR,gw,eH,fy,mj,kG,kH,kI,rfl,rfl,rfl,f9,f16,f23,f10,f17,f24,fh,fj,gz,g10,g17,g24,sK,sL⟩:=hP;exact X.v (nAj (cG _ (cG _ (cG _ A2))) isAgg61 sizeOf61 rfl rfl)) (qm 6 (k:=by exact lD (λcv L' H' hl hd hP=>by obtain⟨lF,mh,kV,lN,kR,lG,fN,ke,jC,gb,kf,jD,gy,kF,jE,k7,k9,eR,gw,eH,fy,mj,kG,kH,kI,rfl,rfl,rfl,f9,f16,f23,f10,f17,f24,fh,fj,gz,g10,g17,g24,sK,sL⟩:=hP;exact X.v (nAj (cG _ (cG _ (cG _ A0))) isAgg53 sizeOf53 rfl rfl)) (qm 5 (k:=by exact lD (λcv L' H' hl hd hP=>by obtain⟨lF,mh,kV,lN,kR,lG,fN,ke,jC,gb,kf,jD,gy,kF,jE,k7,k9,eR,gw,eH,fy,mj,kG,kH,kI,rfl,rfl,rfl,f9,f16,f23,f10,f17,f24,fh,fj,gz,g10,g17,g24,sK,sL⟩:=hP;exact X.v (abT (cG _ (cG _ (cG _ A3))) isAgg76 rfl rfl)) (lD (λcv L' H' hl hd hP=>by obtain⟨lF,mh,kV,lN,kR,lG,fN,ke,jC,gb,kf,jD,gy,kF,jE,k7,k9,eR,gw,eH,fy,mj,kG,kH,kI,rfl,rfl,rfl,f9,f16,f23,f10,f17,f24,fh,fj,gz,g10,g17,g24,sK,sL⟩:=hP;exact X.v (nAj (cG _ (cG _ (cG _ A1))) isAgg127 sizeOf127 rfl rfl)) LI))))))) (sp:=[_,_,_,_,_,_,_,_,some (.agg (cM c)),_,_,_,_,_,_,some (.agg (bF Xg)),_,_,_,_,_,some (ak),some (.agg (dg fs)),_,_,_,_,_,_,_,_,_]) ?_ ?_
 ·refine nc rfl rfl ?_ ?_
  ·intro cv L' H' hl hr hP F Q' hk;obtain⟨lF,mh,kV,lN,kR,lG,fN,ke,jC,gb,kf,jD,gy,kF,jE,k7,k9,eR,gw,eH,fy,mj,kG,kH,kI,rfl,rfl,rfl,f9,f16,f23,f10,f17,f24,fh,fj,gz,g10,g17,g24,sK,sL⟩:=hP;obtain rfl:k7=false:=nV hr rfl;obtain rfl:eR=false:=by cases eR;(rfl);exact absurd ((g10 rfl).2) zJ
   obtain rfl:fy=false:=by cases fy;(rfl);exact absurd ((g17 rfl).1) zJ
   obtain rfl:kG=false:=by cases kG;(rfl);exact absurd ((g24 rfl).1) zJ
   obtain rfl:kH=false:=by cases kH;(rfl);exact absurd (sK rfl) zJ
   obtain rfl:kI=false:=by cases kI;(rfl);exact absurd (sL rfl) zJ
   refine B 1 ?_;exact OJ.done (hk _ _ _ ⟨lF,mh,kV,lN,kR,lG,fN,ke,jC,gb,kf,jD,gy,kF,jE,true,k9,false,gw,eH,false,mj,false,false,false,rfl,rfl,rfl,f9,f16,f23,λh=>zS,λh=>zS,λh=>zS,λh _=>zS,λh _=>zS,λh _=>zS,λh=>zS,λh=>zS,λh=>zS,λh=>zS,λh=>zS⟩)
  refine nc rfl rfl ?_ ?_
  ·intro cv L' H' hl hr hP F Q' hk;obtain⟨lF,mh,kV,lN,kR,lG,fN,ke,jC,gb,kf,jD,gy,kF,jE,k7,k9,eR,gw,eH,fy,mj,kG,kH,kI,rfl,rfl,rfl,f9,f16,f23,f10,f17,f24,fh,fj,gz,g10,g17,g24,sK,sL⟩:=hP;obtain rfl:k9=false:=nV hr rfl;obtain rfl:eR=false:=by cases eR;(rfl);exact absurd ((g10 rfl).1) zJ
   obtain rfl:fy=false:=by cases fy;(rfl);exact absurd ((g17 rfl).1) zJ
   obtain rfl:kG=false:=by cases kG;(rfl);exact absurd ((g24 rfl).1) zJ
   obtain rfl:kH=false:=by cases kH;(rfl);exact absurd (sK rfl) zJ
   obtain rfl:kI=false:=by cases kI;(rfl);exact absurd (sL rfl) zJ
   refine rM underlying24 sizeOf61 zeroValue61 rfl rfl rfl rfl rfl rfl rfl ?_;intro b_ w_ tr pL iw xy yz;have wu:qv≠b_/\dS≠b_/\eI≠b_/\bh≠b_/\bm≠b_/\w.heap.size<=b_:=⟨λe=>iw.mem (bT.2 ⟨_,(cG _ (cG _ (cG _ A0))),e⟩),λe=>iw.mem (bT.2 ⟨_,(cG _ (cG _ (cG _ A1))),e⟩),λe=>iw.mem (bT.2 ⟨_,(cG _ (cG _ (cG _ A2))),e⟩),λe=>iw.mem (bT.2 ⟨_,(cG _ (cG _ (cG _ A3))),e⟩),λe=>iw.mem (bT.2 ⟨_,(cG _ (cG _ (cG _ A4))),e⟩),pL.mem w zJ⟩;exact OJ.done (B1 abU (hk _ _ _ ⟨b_,w_,kV,lN,kR,lG,fN,ke,jC,gb,kf,jD,gy,kF,jE,k7,true,false,gw,eH,false,mj,false,false,false,rfl,rfl,rfl,λ_=>⟨tr,yz,xy,wu⟩,f16,f23,f10,f17,f24,λh _=>zS,λh _=>zS,λh _=>zS,λh=>zS,λh=>zS,λh=>zS,λh=>zS,λh=>zS⟩))
  refine nc rfl rfl ?_ ?_
  ·intro cv L' H' hl hr hP F Q' hk;obtain⟨lF,mh,kV,lN,kR,lG,fN,ke,jC,gb,kf,jD,gy,kF,jE,k7,k9,eR,gw,eH,fy,mj,kG,kH,kI,rfl,rfl,rfl,f9,f16,f23,f10,f17,f24,fh,fj,gz,g10,g17,g24,sK,sL⟩:=hP;obtain rfl:k7=true:=nu hr 0 zA rfl;obtain rfl:k9=true:=nu hr 1 zA rfl;obtain rfl:eR=false:=nV hr rfl;obtain rfl:fy=false:=by cases fy;(rfl);exact absurd ((g17 rfl).1) zJ
   obtain rfl:kG=false:=by cases kG;(rfl);exact absurd ((g24 rfl).1) zJ
   obtain rfl:kH=false:=by cases kH;(rfl);exact absurd (sK rfl) zJ
   obtain rfl:kI=false:=by cases kI;(rfl);exact absurd (sL rfl) zJ
   obtain⟨tr,yz,xy,n17,n15,n14,nh,nm,_⟩:=f9 rfl;refine kz (r:=.nil) (xs:=[]) (zs:=[c]) (enc:=ua) (m:=73) (H0:=[]) (H1:=_) rfl Uc nvj rfl rfl rfl rfl (cD.one (z:=c) nvj MY underlying24 (bE.old (cG _ (cG _ (uc _ A0))) tr xy ⟨n17,n15,n14,nh,nm,trivial⟩)) rfl True.intro zJ zJ ?_;intro b_ c_ s_ M7 iH;have pV:=M7.elim (λh=>h.elim) id;have hw_:=pV.mem wk zJ;exact OJ.done (hk _ _ _ ⟨lF,mh,kV,lN,kR,lG,b_,c_,s_,gb,kf,jD,gy,kF,jE,true,true,true,gw,eH,false,mj,false,false,false,rfl,rfl,rfl,f9,f16,f23,λ_=>⟨iH,hw_⟩,f17,f24,λ_ h=>(by subst h;have h9:=pV.mem lN (cG _ (uc _ A0));have h8:=(f16 rfl).2.1;omega),λ_ h=>(by subst h;have h9:=pV.mem lG (uc _ A0);have h8:=(f23 rfl).2.1;omega),λh _=>zS,λ_=>⟨rfl,rfl⟩,λh=>zS,λh=>zS,λh=>zS,λh=>zS⟩)
  refine nc rfl rfl ?_ ?_
  ·intro cv L' H' hl hr hP F Q' hk;obtain⟨lF,mh,kV,lN,kR,lG,fN,ke,jC,gb,kf,jD,gy,kF,jE,k7,k9,eR,gw,eH,fy,mj,kG,kH,kI,rfl,rfl,rfl,f9,f16,f23,f10,f17,f24,fh,fj,gz,g10,g17,g24,sK,sL⟩:=hP;obtain rfl:gw=false:=nV hr rfl;obtain rfl:fy=false:=by cases fy;(rfl);exact absurd ((g17 rfl).2.2) zJ
   obtain rfl:kG=false:=by cases kG;(rfl);exact absurd ((g24 rfl).1) zJ
   obtain rfl:kH=false:=by cases kH;(rfl);exact absurd (sK rfl) zJ
   obtain rfl:kI=false:=by cases kI;(rfl);exact absurd (sL rfl) zJ
   cases eR with
   |false=>exact rv rfl rfl rfl (bU (i:=3) rfl isAgg75 rfl rfl) (OJ.done (hk _ _ _ ⟨lF,mh,kV,lN,kR,lG,fN,ke,jC,gb,kf,jD,gy,kF,jE,k7,k9,false,true,eH,false,mj,false,false,false,rfl,rfl,rfl,f9,f16,f23,f10,λh=>zS,λh=>zS,fh,fj,λh _=>zS,g10,λh=>zS,λh=>zS,λh=>zS,λh=>zS⟩))
   |true=>exact rv rfl rfl rfl (bU (i:=4) rfl isAgg75 rfl rfl) (OJ.done (hk _ _ _ ⟨lF,mh,kV,lN,kR,lG,fN,ke,jC,gb,kf,jD,gy,kF,jE,k7,k9,true,true,eH,false,mj,false,false,false,rfl,rfl,rfl,f9,f16,f23,f10,λh=>zS,λh=>zS,fh,fj,λh _=>zS,g10,λh=>zS,λh=>zS,λh=>zS,λh=>zS⟩))
  refine nc rfl rfl ?_ ?_
  ·intro cv L' H' hl hr hP F Q' hk;obtain⟨lF,mh,kV,lN,kR,lG,fN,ke,jC,gb,kf,jD,gy,kF,jE,k7,k9,eR,gw,eH,fy,mj,kG,kH,kI,rfl,rfl,rfl,f9,f16,f23,f10,f17,f24,fh,fj,gz,g10,g17,g24,sK,sL⟩:=hP;obtain rfl:eH=false:=nV hr rfl;obtain rfl:fy=false:=by cases fy;(rfl);exact absurd ((g17 rfl).2.1) zJ
   obtain rfl:kG=false:=by cases kG;(rfl);exact absurd ((g24 rfl).1) zJ
   obtain rfl:kH=false:=by cases kH;(rfl);exact absurd (sK rfl) zJ
   obtain rfl:kI=false:=by cases kI;(rfl);exact absurd (sL rfl) zJ
   refine rM underlying75 sizeOf53 zeroValue53 rfl rfl rfl rfl rfl rfl rfl ?_;intro b_ w_ tr pL iw xy yz;have wu:qv≠b_/\dS≠b_/\eI≠b_/\bh≠b_/\bm≠b_/\w.heap.size<=b_:=⟨λe=>iw.mem (bT.2 ⟨_,(cG _ (cG _ (cG _ A0))),e⟩),λe=>iw.mem (bT.2 ⟨_,(cG _ (cG _ (cG _ A1))),e⟩),λe=>iw.mem (bT.2 ⟨_,(cG _ (cG _ (cG _ A2))),e⟩),λe=>iw.mem (bT.2 ⟨_,(cG _ (cG _ (cG _ A3))),e⟩),λe=>iw.mem (bT.2 ⟨_,(cG _ (cG _ (cG _ A4))),e⟩),pL.mem w zJ⟩;exact OJ.done (B1 H5 (hk _ _ _ ⟨lF,mh,b_,w_,kR,lG,fN,ke,jC,gb,kf,jD,gy,kF,jE,k7,k9,eR,gw,true,false,mj,false,false,false,rfl,rfl,rfl,f9,λ_=>⟨tr,yz,xy,wu⟩,f23,f10,f17,f24,λh _=>(by subst h;exact λe=>iw.mem (bT.2 ⟨_,(cG _ (cG _ (uc _ A0))),e⟩)),fj,λh _=>zS,g10,λh=>zS,λh=>zS,λh=>zS,λh=>zS⟩))
  refine nc rfl rfl ?_ ?_
  ·intro cv L' H' hl hr hP F Q' hk;obtain⟨lF,mh,kV,lN,kR,lG,fN,ke,jC,gb,kf,jD,gy,kF,jE,k7,k9,eR,gw,eH,fy,mj,kG,kH,kI,rfl,rfl,rfl,f9,f16,f23,f10,f17,f24,fh,fj,gz,g10,g17,g24,sK,sL⟩:=hP;obtain rfl:k7=true:=nu hr 0 zA rfl;obtain rfl:k9=true:=nu hr 1 zA rfl;obtain rfl:eR=true:=nu hr 2 zA rfl;obtain rfl:gw=true:=nu hr 3 zA rfl;obtain rfl:eH=true:=nu hr 4 zA rfl;obtain rfl:fy=false:=nV hr rfl;obtain rfl:kG=false:=by cases kG;(rfl);exact absurd ((g24 rfl).1) zJ
   obtain rfl:kH=false:=by cases kH;(rfl);exact absurd (sK rfl) zJ
   obtain rfl:kI=false:=by cases kI;(rfl);exact absurd (sL rfl) zJ
   obtain⟨tr,yz,xy,n17,n15,n14,nh,nm,_⟩:=f16 rfl;refine kz (r:=.nil) (xs:=[]) (zs:=[Xg]) (enc:=lL) (m:=36) (H0:=[]) (H1:=_) rfl FU Z0 rfl rfl rfl rfl (cD.one (z:=Xg) Z0 nxo underlying75 (bE.old (cG _ (uc _ A0)) tr xy ⟨fh rfl rfl,n17,n15,n14,nh,nm,trivial⟩)) rfl True.intro zJ zJ ?_;intro b_ c_ s_ M7 iH;have pV:=M7.elim (λh=>h.elim) id;have hw_:=pV.mem wk zJ;exact OJ.done (hk _ _ _ ⟨lF,mh,kV,lN,kR,lG,fN,ke,jC,b_,c_,s_,gy,kF,jE,true,true,true,true,true,true,mj,false,false,false,rfl,rfl,rfl,f9,f16,f23,f10,λ_=>⟨iH,hw_⟩,f24,fh,fj,λ_ h=>(by subst h;have h9:=pV.mem lG (uc _ A0);have h8:=(f23 rfl).2.1;omega),g10,λ_=>⟨rfl,rfl,rfl⟩,λh=>zS,λh=>zS,λh=>zS⟩)
  refine nc rfl rfl ?_ ?_
  ·intro cv L' H' hl hr hP F Q' hk;obtain⟨lF,mh,kV,lN,kR,lG,fN,ke,jC,gb,kf,jD,gy,kF,jE,k7,k9,eR,gw,eH,fy,mj,kG,kH,kI,rfl,rfl,rfl,f9,f16,f23,f10,f17,f24,fh,fj,gz,g10,g17,g24,sK,sL⟩:=hP;obtain rfl:mj=false:=nV hr rfl;obtain rfl:kG=false:=by cases kG;(rfl);exact absurd ((g24 rfl).2) zJ
   obtain rfl:kH=false:=by cases kH;(rfl);exact absurd (sK rfl) zJ
   obtain rfl:kI=false:=by cases kI;(rfl);exact absurd (sL rfl) zJ
   refine rM underlying76 sizeOf127 zeroValue127 rfl rfl rfl rfl rfl rfl rfl ?_;intro b_ w_ tr pL iw xy yz;have wu:qv≠b_/\dS≠b_/\eI≠b_/\bh≠b_/\bm≠b_/\w.heap.size<=b_:=⟨λe=>iw.mem (bT.2 ⟨_,(cG _ (cG _ (cG _ A0))),e⟩),λe=>iw.mem (bT.2 ⟨_,(cG _ (cG _ (cG _ A1))),e⟩),λe=>iw.mem (bT.2 ⟨_,(cG _ (cG _ (cG _ A2))),e⟩),λe=>iw.mem (bT.2 ⟨_,(cG _ (cG _ (cG _ A3))),e⟩),λe=>iw.mem (bT.2 ⟨_,(cG _ (cG _ (cG _ A4))),e⟩),pL.mem w zJ⟩;exact OJ.done (B1 H6 (hk _ _ _ ⟨lF,mh,kV,lN,b_,w_,fN,ke,jC,gb,kf,jD,gy,kF,jE,k7,k9,eR,gw,eH,fy,true,false,false,false,rfl,rfl,rfl,f9,f16,λ_=>⟨tr,yz,xy,wu⟩,f10,f17,f24,fh,λh _=>(by subst h;exact λe=>iw.mem (bT.2 ⟨_,(cG _ (cG _ (uc _ A0))),e⟩)),λh _=>(by subst h;exact λe=>iw.mem (bT.2 ⟨_,(cG _ (uc _ A0)),e⟩)),g10,g17,λh=>zS,λh=>zS,λh=>zS⟩))
  refine nc rfl rfl ?_ ?_
  ·intro cv L' H' hl hr hP F Q' hk;obtain⟨lF,mh,kV,lN,kR,lG,fN,ke,jC,gb,kf,jD,gy,kF,jE,k7,k9,eR,gw,eH,fy,mj,kG,kH,kI,rfl,rfl,rfl,f9,f16,f23,f10,f17,f24,fh,fj,gz,g10,g17,g24,sK,sL⟩:=hP;obtain rfl:k7=true:=nu hr 0 zA rfl;obtain rfl:k9=true:=nu hr 1 zA rfl;obtain rfl:eR=true:=nu hr 2 zA rfl;obtain rfl:gw=true:=nu hr 3 zA rfl;obtain rfl:eH=true:=nu hr 4 zA rfl;obtain rfl:fy=true:=nu hr 5 zA rfl;obtain rfl:mj=true:=nu hr 6 zA rfl;obtain rfl:kG=false:=nV hr rfl;obtain rfl:kH=false:=by cases kH;(rfl);exact absurd (sK rfl) zJ
   obtain rfl:kI=false:=by cases kI;(rfl);exact absurd (sL rfl) zJ
   obtain⟨tr,yz,xy,n17,n15,n14,nh,nm,_⟩:=f23 rfl;refine kz (r:=.nil) (xs:=[]) (zs:=[(dk fs)]) (enc:=cW) (m:=32) (H0:=[]) (H1:=_) rfl HP yk rfl rfl rfl rfl (cD.one (z:=(dk fs)) yk WA underlying76 (bE.old (uc _ A0) tr xy ⟨gz rfl rfl,fj rfl rfl,n17,n15,n14,nh,nm,trivial⟩)) rfl True.intro zJ zJ ?_;intro b_ c_ s_ M7 iH;have pV:=M7.elim (λh=>h.elim) id;have hw_:=pV.mem wk zJ;exact OJ.done (hk _ _ _ ⟨lF,mh,kV,lN,kR,lG,fN,ke,jC,gb,kf,jD,b_,c_,s_,true,true,true,true,true,true,true,true,false,false,rfl,rfl,rfl,f9,f16,f23,f10,f17,λ_=>⟨iH,hw_⟩,fh,fj,gz,g10,g17,λ_=>⟨rfl,rfl⟩,λh=>zS,λh=>zS⟩)
  refine nc rfl rfl ?_ ?_
  ·intro cv L' H' hl hr hP F Q' hk;obtain⟨lF,mh,kV,lN,kR,lG,fN,ke,jC,gb,kf,jD,gy,kF,jE,k7,k9,eR,gw,eH,fy,mj,kG,kH,kI,rfl,rfl,rfl,f9,f16,f23,f10,f17,f24,fh,fj,gz,g10,g17,g24,sK,sL⟩:=hP;obtain rfl:k7=true:=nu hr 0 zA rfl;obtain rfl:k9=true:=nu hr 1 zA rfl;obtain rfl:eR=true:=nu hr 2 zA rfl;obtain rfl:gw=true:=nu hr 3 zA rfl;obtain rfl:eH=true:=nu hr 4 zA rfl;obtain rfl:fy=true:=nu hr 5 zA rfl;obtain rfl:mj=true:=nu hr 6 zA rfl;obtain rfl:kG=true:=nu hr 7 zA rfl;obtain rfl:kH=false:=nV hr rfl;obtain rfl:kI=false:=by cases kI;(rfl);exact absurd (sL rfl) zJ
   refine kT (i:=6) rfl sizeOf24 rfl rfl rfl rfl (eh rfl) rfl ?_;exact OJ.done (hk (.tuple #[]) _ _ ⟨lF,mh,kV,lN,kR,lG,fN,ke,jC,gb,kf,jD,gy,kF,jE,true,true,true,true,true,true,true,true,true,false,rfl,rfl,rfl,f9,f16,f23,f10,f17,f24,fh,fj,gz,g10,g17,g24,λ_=>rfl,λh=>zS⟩)
  refine nc rfl rfl ?_ ?_
  ·intro cv L' H' hl hr hP F Q' hk;obtain⟨lF,mh,kV,lN,kR,lG,fN,ke,jC,gb,kf,jD,gy,kF,jE,k7,k9,eR,gw,eH,fy,mj,kG,kH,kI,rfl,rfl,rfl,f9,f16,f23,f10,f17,f24,fh,fj,gz,g10,g17,g24,sK,sL⟩:=hP;obtain rfl:k7=true:=nu hr 0 zA rfl;obtain rfl:k9=true:=nu hr 1 zA rfl;obtain rfl:eR=true:=nu hr 2 zA rfl;obtain rfl:gw=true:=nu hr 3 zA rfl;obtain rfl:eH=true:=nu hr 4 zA rfl;obtain rfl:fy=true:=nu hr 5 zA rfl;obtain rfl:mj=true:=nu hr 6 zA rfl;obtain rfl:kG=true:=nu hr 7 zA rfl;obtain rfl:kH=true:=nu hr 8 zA rfl;obtain rfl:kI=false:=nV hr rfl;refine kT (i:=6) rfl sizeOf75 rfl rfl rfl rfl (eh rfl) rfl ?_;exact OJ.done (hk (.tuple #[]) _ _ ⟨lF,mh,kV,lN,kR,lG,fN,ke,jC,gb,kf,jD,gy,kF,jE,true,true,true,true,true,true,true,true,true,true,rfl,rfl,rfl,f9,f16,f23,f10,f17,f24,fh,fj,gz,g10,g17,g24,sK,λ_=>rfl⟩)
  exact nn
 intro cv L' H' hl hr hP;obtain⟨lF,mh,kV,lN,kR,lG,fN,ke,jC,gb,kf,jD,gy,kF,jE,k7,k9,eR,gw,eH,fy,mj,kG,kH,kI,rfl,rfl,rfl,f9,f16,f23,f10,f17,f24,fh,fj,gz,g10,g17,g24,sK,sL⟩:=hP;obtain rfl:k7=true:=nX hr 0 rfl;obtain rfl:k9=true:=nX hr 1 rfl;obtain rfl:eR=true:=nX hr 2 rfl;obtain rfl:gw=true:=nX hr 3 rfl;obtain rfl:eH=true:=nX hr 4 rfl;obtain rfl:fy=true:=nX hr 5 rfl;obtain rfl:mj=true:=nX hr 6 rfl;obtain rfl:kG=true:=nX hr 7 rfl;obtain rfl:kH=true:=nX hr 8 rfl;obtain rfl:kI=true:=nX hr 9 rfl;obtain⟨Uf,aqo⟩:=f10 rfl;obtain⟨amf,aqp⟩:=f17 rfl;obtain⟨amg,aqs⟩:=f24 rfl;show OJ _ _ _ _ _ _ _ [lG,lN,mh,wx,wk,w9,w7,w] [(gy,bj cW 127 [dk fs] jE),(gb,bj lL 53 [Xg] jD),(fN,bj ua 61 [c] jC),(qv,oC (bF Xg) 53),(dS,oC (dg fs) 127),(eI,oC (cM c) 61),(bh,oC #[ak,ak,.slice (ao fN) 1 ke,ak,ak,ak,ak,ak,.slice (ao gb) 1 kf,ak,.map (some bm)] 79),(bm,(Mp.mk [] 0).obj (id:Value->Value) [])];refine B 2 ?_;refine kT (i:=6) rfl sizeOf76 rfl rfl rfl rfl (eh rfl) rfl ?_;refine B 9 ?_;refine CJ.lp (α:=(Rw×(Mp×List (Int×Value)))×Nat) [0,4,5] (λp=>[(19,ab (p.2:Int))]) (λp=>p.1.1.hp JJ 71 ([((0:Int),pp)].take p.2)++[(gy,bj cW 127 [dk fs] jE),(gb,bj lL 53 [Xg] jD),(fN,bj ua 61 [c] jC),(qv,oC (bF Xg) 53),(dS,oC (dg fs) 127),(eI,oC (cM c) 61),(bh,oC #[ak,p.1.1.val p.2,.slice (ao fN) 1 ke,ak,ak,ak,ak,ak,.slice (ao gb) 1 kf,.slice (ao gy) 1 kF,.map (some bm)] 79),(bm,(p.1.2.1).obj (id:Value->Value) (p.1.2.2))]) (λp=>p.2<=1/\p.1.1.ge wk.heap.size/\p.1.1.Fit 2 ([((0:Int),pp)].take p.2)/\p.1.2.1.Ok p.1.2.2/\(p.2=0->p.1.1= .nil/\p.1.2.2=[])) (λp=>1-p.2) ((.nil,(Mp.mk [] 0,[])),0) ⟨cY _,True.intro,rfl,Mp.nil,λ_=>⟨rfl,rfl⟩⟩ ?_
 rintro⟨⟨ro,mp,kv⟩,j⟩ ⟨hj,aM,ae,Bd,hkv⟩;dsimp only at hj aM ae Bd hkv ⊢;refine aE 5 (ab 1) ?_;refine aG 3 ?_ ?_
 ·intro av;refine B 5 ?_;obtain rfl:j=0:=by omega
  obtain⟨rfl,rfl⟩:=hkv rfl;refine CJ.less (E':=[(0,_),(4,_),(5,_),(19,_),(85,_),(86,_),(87,_),(88,_)]) zR ?_;refine CJ.chn 19 [17,18] [_,_,_,_,_,some (ak),_,_,_,_,some (ab 0),_,_,_,_,some (ab pp),_,none,none] (λcv L' H'=>let uI:Nat×Obj:=(bh,oC #[ak,ak,ak,ak,ak,ak,ak,ak,ak,ak,.map (some bm)] 79);let iY:Nat×Obj:=(bh,oC #[ak,Rw.nil.val 0,.slice (ao fN) 1 ke,ak,ak,ak,ak,ak,.slice (ao gb) 1 kf,.slice (ao gy) 1 kF,.map (some bm)] 79);let eo:List World:=[lG,lN,mh,wx,wk,w9,w7,w];match cv with| []=>L'=eo/\H'=[(gy,bj cW 127 [dk fs] jE),(gb,bj lL 53 [Xg] jD),(fN,bj ua 61 [c] jC),(qv,oC (bF Xg) 53),(dS,oC (dg fs) 127),(eI,oC (cM c) 61),iY,(bm,(mp).obj (id:Value->Value) ([]))]| [v1]=>∃(oO:Nat) (qV:World),v1= .slice (ao oO) 1 1/\L'=qV::eo/\H'=[(gy,bj cW 127 [dk fs] jE),(gb,bj lL 53 [Xg] jD),(fN,bj ua 61 [c] jC),(qv,oC (bF Xg) 53),(dS,oC (dg fs) 127),(eI,oC (cM c) 61),iY,(bm,(mp).obj (id:Value->Value) ([]))]/\qV.heap[oO]? =some (oC (HF (0,pp)) 71)/\(bM [(gy,bj cW 127 [dk fs] jE),(gb,bj lL 53 [Xg] jD),(fN,bj ua 61 [c] jC),(qv,oC (bF Xg) 53),(dS,oC (dg fs) 127),(eI,oC (cM c) 61),iY,(bm,(mp).obj (id:Value->Value) ([]))] oO)/\(¬(Gh.lent (λk=>k∈keys [uI,(bm,(Mp.mk [] 0).obj (id:Value->Value) [])])).X oO)| [v1,v2]=>∃(oO:Nat) (qV:World) (iN:Nat) (oP:Nat) (qW:List Value),v1= .slice (ao oO) 1 1/\v2= .slice (ao iN) 1 oP/\L'=qV::eo/\H'=[(iN,bj JJ 71 [((0:Int),pp)] qW),(gy,bj cW 127 [dk fs] jE),(gb,bj lL 53 [Xg] jD),(fN,bj ua 61 [c] jC),(qv,oC (bF Xg) 53),(dS,oC (dg fs) 127),(eI,oC (cM c) 61),iY,(bm,(mp).obj (id:Value->Value) ([]))]/\qV.heap[oO]? =some (oC (HF (0,pp)) 71)/\(bM [(gy,bj cW 127 [dk fs] jE),(gb,bj lL 53 [Xg] jD),(fN,bj ua 61 [c] jC),(qv,oC (bF Xg) 53),(dS,oC (dg fs) 127),(eI,oC (cM c) 61),iY,(bm,(mp).obj (id:Value->Value) ([]))] oO)/\(¬(Gh.lent (λk=>k∈keys [uI,(bm,(Mp.mk [] 0).obj (id:Value->Value) [])])).X oO)/\wk.heap.size<=iN/\((Rw.row iN oP qW).Fit 2 [((0:Int),pp)])|_=>False) (pc zM (pc zM (pc zHc (pc (by exact λcv L' H' hd hP=>X.v (cR underlying79 rfl sizeOf31 rfl)) (pc (by exact λcv L' H' hd hP=>X.v (cR underlying31 rfl sizeOf23 rfl)) (pc zcv (pc zM (pc zM (pc zBb (pc Ln (pc zcv (pc zM (pc zM (pc zBb (pc Ln (pc zcv (pc (by exact λcv L' H' hd hP=>X.v (RV.re (v':=.agg (HF (0,pp))) (vF underlying71 zeroValue71 (qp.c sizeOf3 (qp.c sizeOf3 (qp.n))) rfl rfl) (rfl))) (pk (pk (pn)))))))))))))))))))) ?_ ?_
  ·refine ss rfl ?_ ?_
   ·intro cv L' H' hl hP F Q' hk;obtain rfl:=my hl;obtain⟨rfl,rfl⟩:=hP;refine rM underlying23 sizeOf71 zeroValue71 rfl rfl rfl rfl rfl rfl rfl ?_;exact zZh
   refine ss rfl ?_ ?_
   ·intro cv L' H' hl hP F Q' hk;obtain⟨v1,rfl⟩:=jv hl;obtain⟨oO,qV,rfl,rfl,rfl,xB,xC,xD⟩:=hP;refine kz (r:=.nil) (xs:=[]) (zs:=[((0:Int),pp)]) (enc:=JJ) (m:=2) (H0:=[]) (H1:=[(gy,bj cW 127 [dk fs] jE),(gb,bj lL 53 [Xg] jD),(fN,bj ua 61 [c] jC),(qv,oC (bF Xg) 53),(dS,oC (dg fs) 127),(eI,oC (cM c) 61),(bh,oC #[ak,Rw.nil.val 0,.slice (ao fN) 1 ke,ak,ak,ak,ak,ak,.slice (ao gb) 1 kf,.slice (ao gy) 1 kF,.map (some bm)] 79),(bm,(mp).obj (id:Value->Value) ([]))]) rfl Ud n9j rfl rfl rfl rfl (cD.one (z:=((0:Int),pp)) n9j MZ underlying23 (bE.old A0 xB xD xC)) rfl True.intro zJ zJ ?_;intro b_ c_ s_ M7 iH;have pV:=M7.elim (λh=>h.elim) id;have amj:=pV.mem wk zJ;exact OJ.done (hk _ _ _ ⟨oO,qV,b_,c_,s_,rfl,rfl,rfl,rfl,xB,xC,xD,amj,iH⟩)
   exact nn
  intro cv L' H' hl hP;obtain⟨v1,v2,rfl⟩:=rP hl;obtain⟨oO,qV,iN,oP,qW,rfl,rfl,rfl,rfl,xB,xC,xD,PN,Bp⟩:=hP;refine B 3 ?_;refine kT (i:=7) rfl sizeOf23 rfl rfl rfl rfl (eh rfl) rfl ?_;refine B 2 ?_;refine CJ.less (E':=[(0,_),(4,_),(5,_),(19,_),(85,_),(86,_),(87,_),(88,_),(91,_),(92,_),(93,_),(94,_),(95,_),(96,_),(97,_),(98,_),(99,_),(100,_),(101,_),(102,_),(103,_),(104,_),(105,_),(106,_),(107,_),(108,_),(109,_),(110,_),(111,_),(112,_)]) zR ?_;refine CJ.chn 25 [23,24] [_,_,_,some (.map (some bm)),_,_,_,_,some (ab 0),_,_,_,some (.map (some bm)),_,_,_,_,some (ab 0),some (ak),_,_,_,some (ab 5000),none,none] (λcv L' H'=>let h4_:Nat×Obj:=(iN,bj JJ 71 [((0:Int),pp)] qW);let uI:Nat×Obj:=(bh,oC #[ak,ak,ak,ak,ak,ak,ak,ak,ak,ak,.map (some bm)] 79);let iY:Nat×Obj:=(bh,oC #[ak,(Rw.row iN oP qW).val 1,.slice (ao fN) 1 ke,ak,ak,ak,ak,ak,.slice (ao gb) 1 kf,.slice (ao gy) 1 kF,.map (some bm)] 79);let eo:List World:=[qV,lG,lN,mh,wx,wk,w9,w7,w];match cv with| []=>L'=eo/\H'=[h4_,(gy,bj cW 127 [dk fs] jE),(gb,bj lL 53 [Xg] jD),(fN,bj ua 61 [c] jC),(qv,oC (bF Xg) 53),(dS,oC (dg fs) 127),(eI,oC (cM c) 61),iY,(bm,(mp).obj (id:Value->Value) ([]))]| [v1]=>∃(oQ:Nat) (sM:World),v1= .slice (ao oQ) 1 1/\L'=sM::eo/\H'=[h4_,(gy,bj cW 127 [dk fs] jE),(gb,bj lL 53 [Xg] jD),(fN,bj ua 61 [c] jC),(qv,oC (bF Xg) 53),(dS,oC (dg fs) 127),(eI,oC (cM c) 61),iY,(bm,(mp).obj (id:Value->Value) ([]))]/\sM.heap[oQ]? =some (oC (az 5000).toArray 3)/\(bM [h4_,(gy,bj cW 127 [dk fs] jE),(gb,bj lL 53 [Xg] jD),(fN,bj ua 61 [c] jC),(qv,oC (bF Xg) 53),(dS,oC (dg fs) 127),(eI,oC (cM c) 61),iY,(bm,(mp).obj (id:Value->Value) ([]))] oQ)/\(¬(Gh.lent (λk=>k∈keys [uI,(bm,(Mp.mk [] 0).obj (id:Value->Value) [])])).X oQ)| [v1,v2]=>∃(oQ:Nat) (sM:World) (Ar:Nat) (M8:Nat) (Ug:List Value),v1= .slice (ao oQ) 1 1/\v2= .slice (ao Ar) 1 M8/\L'=sM::eo/\H'=[(Ar,bj az 3 [(5000:Int)] Ug),h4_,(gy,bj cW 127 [dk fs] jE),(gb,bj lL 53 [Xg] jD),(fN,bj ua 61 [c] jC),(qv,oC (bF Xg) 53),(dS,oC (dg fs) 127),(eI,oC (cM c) 61),iY,(bm,(mp).obj (id:Value->Value) ([]))]/\sM.heap[oQ]? =some (oC (az 5000).toArray 3)/\(bM [h4_,(gy,bj cW 127 [dk fs] jE),(gb,bj lL 53 [Xg] jD),(fN,bj ua 61 [c] jC),(qv,oC (bF Xg) 53),(dS,oC (dg fs) 127),(eI,oC (cM c) 61),iY,(bm,(mp).obj (id:Value->Value) ([]))] oQ)/\(¬(Gh.lent (λk=>k∈keys [uI,(bm,(Mp.mk [] 0).obj (id:Value->Value) [])])).X oQ)/\(ah [sM,qV,lG,lN,mh,wx,wk,w9,w7,w] Ar)/\wk.heap.size<=Ar|_=>False) (pc zM (pc zHc (pc (by exact λcv L' H' hd hP=>X.v (cR underlying79 rfl sizeOf77 rfl)) (pc Xd (pc zM (pc zM (pc zBb (pc Ln (pc Xd (pc zM (pc zHc (pc (by exact λcv L' H' hd hP=>X.v (cR underlying79 rfl sizeOf77 rfl)) (pc Xd (pc zM (pc zM (pc zBb (pc Ln (pc Xd (pc Xd (pc zM (pc zM (pc zDb (pc Xd (pk (pk (pn)))))))))))))))))))))))))) ?_ ?_
  ·refine ss rfl ?_ ?_
   ·intro cv L' H' hl hP F Q' hk;obtain rfl:=my hl;obtain⟨rfl,rfl⟩:=hP;refine Jb ?_;exact zZh
   refine ss rfl ?_ ?_
   ·intro cv L' H' hl hP F Q' hk;obtain⟨v1,rfl⟩:=jv hl;obtain⟨oQ,sM,rfl,rfl,rfl,xE,xF,xG⟩:=hP;refine kz (r:=.nil) (xs:=[]) (zs:=[(5000:Int)]) (enc:=az) (m:=1) (H0:=[]) (H1:=[(iN,bj JJ 71 [((0:Int),pp)] qW),(gy,bj cW 127 [dk fs] jE),(gb,bj lL 53 [Xg] jD),(fN,bj ua 61 [c] jC),(qv,oC (bF Xg) 53),(dS,oC (dg fs) 127),(eI,oC (cM c) 61),(bh,oC #[ak,(Rw.row iN oP qW).val 1,.slice (ao fN) 1 ke,ak,ak,ak,ak,ak,.slice (ao gb) 1 kf,.slice (ao gy) 1 kF,.map (some bm)] 79),(bm,(mp).obj (id:Value->Value) ([]))]) rfl OC ny rfl rfl rfl rfl (cD.one (z:=(5000:Int)) ny OE underlying55 (bE.old A0 xE xG xF)) rfl True.intro zJ zJ ?_;intro b_ c_ s_ M7 iH;have pV:=M7.elim (λh=>h.elim) id;exact OJ.done (hk _ _ _ ⟨oQ,sM,b_,c_,s_,rfl,rfl,rfl,rfl,xE,xF,xG,pV,pV.mem wk zJ⟩)
   exact nn
  intro cv L' H' hl hP;obtain⟨v1,v2,rfl⟩:=rP hl;obtain⟨oQ,sM,Ar,M8,Ug,rfl,rfl,rfl,rfl,xE,xF,xG,H8,abZ⟩:=hP;refine OG (i:=9) (ev:=(id:Value->Value)) (v:=.slice (ao Ar) 1 M8) rfl Bd underlying77 underlying3 rfl rfl rfl rfl ?_;intro m2 bX;refine B 8 ?_;refine PJ.dropAt (i:=0) rfl (by exact H8) ?_;refine B1 (L':=[lG,lN,mh,wx,wk,w9,w7,w]) zJ ?_;refine ag ((Rw.row iN oP qW,(m2,_)),1) ⟨aj _,by show wk.heap.size<=iN;omega,Bp,bX,λh=>absurd (show(1:Nat)=0 from h) zA⟩
 intro av;refine B 6 ?_;obtain rfl:j=1:=by omega
 obtain⟨iN,oP,qW,rfl⟩:=Rw.row_of ae Xb;have PN:wk.heap.size<=iN:=aM;refine CJ.prm (H':=[(bh,oC #[ak,.slice (ao iN) 1 oP,.slice (ao fN) 1 ke,ak,ak,ak,ak,ak,.slice (ao gb) 1 kf,.slice (ao gy) 1 kF,.map (some bm)] 79),(iN,bj JJ 71 [((0:Int),pp)] qW),(gy,bj cW 127 [dk fs] jE),(gb,bj lL 53 [Xg] jD),(fN,bj ua 61 [c] jC),(qv,oC (bF Xg) 53),(dS,oC (dg fs) 127),(eI,oC (cM c) 61),(bm,(mp).obj (id:Value->Value) (kv))]) (List.perm_middle (l₁:=[_,_,_,_,_,_,_])) ?_;refine B 5 ?_;exact abS (Hz:=[(bh,oC #[ak,ak,ak,ak,ak,ak,ak,ak,ak,ak,.map (some bm)] 79),(bm,(Mp.mk [] 0).obj (id:Value->Value) [])]) (H0:=[(iN,bj JJ 71 [((0:Int),pp)] qW),(gy,bj cW 127 [dk fs] jE),(gb,bj lL 53 [Xg] jD),(fN,bj ua 61 [c] jC),(qv,oC (bF Xg) 53),(dS,oC (dg fs) 127),(eI,oC (cM c) 61),(bm,(mp).obj (id:Value->Value) (kv))]) (c,(iN,oP),(fN,ke),(gb,kf),(gy,kF)) (.inl rfl) results42 bB A7 (by simp only[qy,keys,dL,ft,im,eX,cd,dV,or_false,and_true];(repeat' apply And.intro);all_goals first|omega|simp) rfl (λW hS=>⟨xA,dE,(xA.at_ CL hS A4 (aj _) (λu hu=>by have h8:=hca u hu;have h6:=d14.1 u hu;have h7:=d15.1 u hu;exact⟨by simp only[Gh.lent,keys,dL,ft,cd,dV,or_false];omega,by simp only[bM,im,eX,and_true];omega⟩) (λu hu=>by have h8:=WT u hu;have h6:=d14.2 u hu;have h7:=d15.2 u hu;exact⟨by simp only[Gh.lent,keys,dL,ft,cd,dV,or_false];omega,by simp only[bM,im,eX,and_true];omega⟩)),nyo (enc:=JJ) (t:=71) n9j ae (hS.own _ A1),nyo (enc:=ua) (t:=61) nvj Uf (hS.own _ A4),(by show w.heap.size<=iN;omega),(by show w.heap.size<=fN;omega),λu hu=>(hca u hu).1,λu hu=>(WT u hu).1⟩)
theorem nrk{α:Type}{enc:α->Array Value}{x:α}(hm:(enc x).size=m)(h:W.heap[b]? =some (.cells (enc x) t fr)):ai enc m W.heap.size W (ao b) [x]:=
 .inr ⟨b,0,_,t,fr,rfl,(bA.1 h).1,h,λi hi=>by
  have:i=0:=by simpa using hi
  subst this;refine⟨by show 0+0*m+m<=_;omega,?_⟩;show cut _ (0+0*m) m=_;rw[Nat.zero_mul,mr];exact nRf _ _ hm⟩
def xw (r:dY) (g s m:Value):Array Value:=#[.slice r.fa r.fos.length r.fc,.slice r.oa r.os.length r.oc,.slice r.la r.cs.length r.lc,.slice r.ga r.gs.length r.gc,.slice r.ia r.xs.length r.ic,r.o5,r.o6,r.o7,g,s,m]
theorem H9(hZ:FxOk Z)(w:World)(hg:Glb w)(CK:Lab w):Calls prog 22 #[ak] w (cZ w (λq:(dY×Cm×Fo)×Value×Value×Value=>.tuple #[.agg (xw q.1.1 q.2.1 q.2.2.1 q.2.2.2),bZ]) (λq w'=>fg w'.heap.size w' q.1.1/\gQ q.1.1/\vS Z q.1.1 q.1.2.1 (tu (Z.ge 4 5000).1 (Z.ge 4 300).1) q.1.2.2/\bD [q.1.1.o5,q.1.1.o6,q.1.1.o7,q.2.1,q.2.2.1,q.2.2.2]=true)):=by
 have hg4:=hg.lt;obtain⟨pp,JI⟩:∃p,(Z.ge 4 5000).1=p:=⟨_,rfl⟩;obtain⟨vv,MV⟩:∃p,(Z.ge 4 300).1=p:=⟨_,rfl⟩;rw[JI,MV];have sw:HV (tu pp vv):=⟨rfl,rfl,by rw[<-JI];exact WX hZ ⟨by decide,by decide⟩,by rw[<-MV];exact WX hZ ⟨by decide,by decide⟩,rfl⟩;refine eN func22 ntmps22 ?_;refine bH 3 ?_;intro b2 dJ dH;refine B 5 ?_;refine KO (id:Value->Value) rfl rfl ?_;refine yW ?_;intro ET ahI ahJ;refine bH 2 ?_;intro b4 iT iU;refine B 5 ?_;refine call (v:=.tuple #[.agg (gK (tu pp vv)),ab 5000]) call41 rfl rfl rfl (λW hS=>by rw[<-JI,<-MV];exact n5o hZ W) ?_;refine bH 4 ?_;intro b5 rF rG;refine aE 7 (.agg (bF G6)) ?_;refine dp (.agg (dg λ_=>0)) ?_;refine B 1 ?_;refine kp underlying54 sizeOf99 zeroValue99 rfl rfl rfl rfl rfl rfl rfl ?_;refine yW ?_;intro Xe aml amm;refine B 1 ?_;refine EL ?_;refine yW ?_;intro iZ mH TX;refine OJ.perm (H':=[(b4,oC #[ak,ak,ak,ak,ak,ak,ak,ak,ak,ak,.map (some ET)] 79),(ET,(Mp.mk [] 0).obj (id:Value->Value) []),(iZ,oC #[ab 5000] 3),(Xe,oC (gK (tu pp vv)) 99),(b5,oC (gK (tu pp vv)) 99),(b2,oC #[ak,ak,ak,ak,ak,ak,ak,ak,ak,ak,.map none] 79)]) (by exact(List.perm_append_comm (l₁:=[_,_,_]) (l₂:=[_,_])).append_right [_]) ?_;refine Ua (α:=Cm×(Nat×Nat)×(Nat×Nat)×(Nat×Nat)×(Nat×Nat)) (Hz:=[(b4,oC #[ak,ak,ak,ak,ak,ak,ak,ak,ak,ak,.map (some ET)] 79),(ET,(Mp.mk [] 0).obj (id:Value->Value) [])]) (v:=λ_=>bZ) (Hn:=λq=>[(b4,oC #[ak,.slice (ao q.2.1.1) 1 q.2.1.2,.slice (ao q.2.2.1.1) 1 q.2.2.1.2,ak,ak,ak,ak,ak,.slice (ao q.2.2.2.1.1) 1 q.2.2.2.1.2,.slice (ao q.2.2.2.2.1) 1 q.2.2.2.2.2,.map (some ET)] 79)]) (Φ:=λW q w1=>oN Z 6 (tu pp vv) q.1/\bN q.1/\dB w1.heap.size w1 q.1/\ai HF 2 w1.heap.size w1 (ao q.2.1.1) [(0,pp)]/\ai cM 73 w1.heap.size w1 (ao q.2.2.1.1) [q.1]/\W.heap.size<=q.2.1.1/\W.heap.size<=q.2.2.1.1/\(∀u,q.1.ca=some u->W.heap.size<=u.block)/\∀u,q.1.pa=some u->W.heap.size<=u.block) rfl rfl call42 rfl rfl rfl ⟨.inr zC,.inr zC,trivial⟩ (λW hS=>?_) ?_
 ·have hgW:=hg.old hS A0 zH (by simp only[im,eX,Over,and_true];omega);exact M4 hZ pp vv sw MV.symm Xe iZ b4 ET 99 3 W (hS.own _ A3) (hS.own _ A2) (hS.own _ A0) (hS.own _ A1) aa aa hgW (CK.old hS A0 zI zz)
 rintro Wa ⟨c,⟨iN,oP⟩,⟨fN,ke⟩,⟨gb,kf⟩,⟨gy,kF⟩⟩ wa hSa ⟨xA,dE,CL,hsO,hsC,Pq,hgc,Uh,Ui⟩ -;dsimp only at xA dE CL hsO hsC Pq hgc Uh Ui;have l4:=hSa.lt (b4,_) A0;have l31:=hSa.lt (iZ,_) A2;have l29:=hSa.lt (Xe,_) A3;have l5:=hSa.lt (b5,_) A4;have l2:=hSa.lt (b2,_) A5;dsimp only at l4 l31 l29 l5 l2;show OJ _ _ _ _ _ _ _ [wa,w] [(b4,oC #[ak,.slice (ao iN) 1 oP,.slice (ao fN) 1 ke,ak,ak,ak,ak,ak,.slice (ao gb) 1 kf,.slice (ao gy) 1 kF,.map (some ET)] 79),(iZ,oC #[ab 5000] 3),(Xe,oC (gK (tu pp vv)) 99),(b5,oC (gK (tu pp vv)) 99),(b2,oC #[ak,ak,ak,ak,ak,ak,ak,ak,ak,ak,.map none] 79)];have hcb:∀u,c.ca=some u->u.block<wa.heap.size:=λu hu=>by obtain⟨b,off,_,_,_,e,h,_⟩:=CL.chs.get (by rw[xA.ct];show 0<1;decide);rw[hu]at e;cases e;exact h
 have hpb:∀u,c.pa=some u->u.block<wa.heap.size:=λu hu=>by obtain⟨b,off,_,_,_,e,h,_⟩:=CL.path.get (by rw[xA.pl];decide);rw[hu]at e;cases e;exact h
 refine Eo ?_;obtain⟨bq,oq,Ri,tq,Rj,e9,pG,WL,qI⟩:=hsC.get Xb;obtain⟨uu,Jh⟩:=qI 0 Xb;cases e9
 refine B 4 ?_;refine rr (ptr fN 0) (bK underlying24 sizeOf61 rfl rfl zA zA) ?_;refine rq (.agg (cM c)) (dy isAgg61 sizeOf61 rfl A0 WL zI zz uu) (va Jh) ?_;refine call (v:=.agg (dg (aB Z c))) call23 rfl rfl rfl (λW hS=>ZA hZ c dE W.heap.size W (aj _) (xA.at_ CL hS A0 (aj _) (λu hu=>⟨λh=>h,by have h8:=Uh u hu;have h7:=hcb u hu;simp only[bM,dx,ec,ne_eq,and_true];omega⟩) (λu hu=>⟨λh=>h,by have h8:=Ui u hu;have h7:=hpb u hu;simp only[bM,dx,ec,ne_eq,and_true];omega⟩)) (hg.old hS A1 zH zF)) ?_;refine B 1 ?_;refine kp underlying22 sizeOf97 zeroValue97 rfl rfl rfl rfl rfl rfl rfl ?_;refine yW ?_;intro b42 aqt aqu;refine B 2 ?_;refine kT (i:=1) rfl sizeOf22 rfl rfl rfl rfl (eh rfl) rfl ?_;refine B 9 ?_;refine CJ.lp (α:=Unit) [0,2,4,7] (λp=>[]) (λp=>[(b42,oC (qR ⟨6,aB Z c⟩) 97),(b4,oC #[.slice (ao b42) 1 1,.slice (ao iN) 1 oP,.slice (ao fN) 1 ke,ak,ak,ak,ak,ak,.slice (ao gb) 1 kf,.slice (ao gy) 1 kF,.map (some ET)] 79),(iZ,oC #[ab 5000] 3),(Xe,oC (gK (tu pp vv)) 99),(b5,oC (gK (tu pp vv)) 99),(b2,oC #[ak,ak,ak,ak,ak,ak,ak,ak,ak,ak,.map none] 79)]) (λp=>True) (λp=>0) () trivial ?_;rintro⟨⟩ _;refine aE 6 bG ?_;refine B 16 ?_;refine bQ (.inl rfl) results22 bB λW hS=>⟨((⟨some ⟨b42,0,none⟩,[⟨6,aB Z c⟩],1,some ⟨iN,0,none⟩,[(0,pp)],oP,some ⟨fN,0,none⟩,[c],ke,none,[],0,none,[],0,ak,ak,ak⟩,c,⟨6,aB Z c⟩),.slice (ao gb) 1 kf,.slice (ao gy) 1 kF,.map (some ET)),rfl,hS.base A1 zF,⟨?_,?_,?_,?_,.inl rfl,by simp,.inl rfl,by simp⟩,?_,?_,rfl⟩
 ·exact nrk rfl (hS.own _ A0)
 ·exact hsO.toG hS A0 (aj _) λb off e=>.inr λhb=>⟨λh=>h,by cases e;simp only[bM,dx,ec,ne_eq,and_true];omega⟩
 ·exact hsC.toG hS A0 (aj _) λb off e=>.inr λhb=>⟨λh=>h,by cases e;simp only[bM,dx,ec,ne_eq,and_true];omega⟩
 ·intro x hx;obtain rfl:x=c:=(by simpa using hx);exact(xA.at_ CL hS A0 (aj _) (λu hu=>⟨λh=>h,by have h8:=Uh u hu;have h7:=hcb u hu;simp only[bM,dx,ec,ne_eq,and_true];omega⟩) (λu hu=>⟨λh=>h,by have h8:=Ui u hu;have h7:=hpb u hu;simp only[bM,dx,ec,ne_eq,and_true];omega⟩))
 ·exact⟨by simp,by simp,by simp,by simpa using dE,by simp,by simp,by simp,by simp⟩
 exact⟨rfl,rfl,rfl,rfl,rfl,rfl,xA,rfl⟩
theorem aD.X{α:Type}{enc:α->List Value}{xs:List α}{v:Value->Value}(hm:∀x,(enc x).length=m){e:Ending}{w':World}(h:aD w enc m t xs v e w'):cZ w (λq:Option Addr×Nat=>v (.slice q.1 xs.length q.2)) (λq w1=>ai (λx=>(enc x).toArray) m w1.heap.size w1 q.1 xs/\∀p,q.1=some p->w.heap.size<=p.block) e w':=by
 obtain⟨r,rfl,hb,jI,hf,ha⟩:=h;obtain⟨a,cp,he,hs⟩:=r.sl hm hf ha (aj _);exact⟨(a,cp),by rw[he],hb,hs,Rw.val_new jI he⟩
abbrev rN:dY:=⟨none,[],0,none,[],0,none,[],0,none,[],0,none,[],0,ak,ak,ak⟩
theorem M9:Rc0 rN:=⟨rfl,rfl,rfl,rfl,rfl⟩
theorem Bq:gQ rN:=⟨by decide,by decide,by decide,by simp,by decide,by simp,by decide,by simp⟩
theorem Br(N:Nat)(w:World):fg N w rN:=⟨.inl rfl,.inl rfl,.inl rfl,by simp,.inl rfl,by simp,.inl rfl,by simp⟩
theorem PO{L0:List Se}(h:pS (rN.D Z) L0 lim ls):pS [] L0 lim ls:=by rw[M9.D]at h;exact h
theorem PQ(h:pS (rN.D Z) (rN.fs Z 3) lim ls)(s:Se):s∉ls:=λhs=>by
 have h1:=((PO h).nil0 s).1 hs;rw[M9.fs]at h1;simp at h1
theorem PR(Z:Fx)(dv:Int):(rN.fs Z dv).length<=200:=by rw[M9.fs];decide
section
variable {Z:Fx} (hZ:FxOk Z) {w:World} (hg:Glb w) {a0 a1:Addr} (hse:Sen w a0 a1)
include hZ hg hse
theorem Na:Calls prog 9 #[.agg (rdA rN),ab 3,cB (aO 4)] w (cZ w (λq:Option Addr×Nat=>.tuple #[.slice q.1 0 q.2,bG]) (λ_ _=>True)):=
 (nMl hZ rN Bq w.heap.size w (aj _) (Br _ _) hg a0 a1 hse 3 (aO 4) (PR _ _)).mono (by
  rintro e w' ⟨⟨⟨⟨a,c⟩,l⟩,b⟩,rfl,hb,_,_,ls,hl,h⟩;rcases h with⟨_,h1,h2⟩|⟨j,h1,_⟩
  ·dsimp only at h1 h2;subst h1;subst h2;exact⟨(a,c),rfl,hb,trivial⟩
  exact absurd (cA h1) (PQ hl _))
theorem Uj:Calls prog 10 #[.agg (rdA rN),ab 3,cB (aO 4)] w (aP w (bG)):=
 (nVe hZ rN Bq w.heap.size w (aj _) (Br _ _) hg a0 a1 hse 3 (aO 4) (PR _ _)).mono (by
  rintro e w' ⟨b,rfl,hb,ls,hl,h⟩;have:=PQ hl (aO 4);simp only[this,decide_false]at h;subst h;exact⟨rfl,hb⟩)
theorem Uk:Calls prog 11 #[.agg (rdA rN),ab 3] w (cZ w (λq:Option Addr×Nat=>.slice q.1 0 q.2) (λ_ _=>True)):=
 (n5e hZ rN Bq w.heap.size w (aj _) (Br _ _) hg 3).mono (by
  intro e w' h;obtain⟨q,he,hb,_⟩:=aD.X nz h;exact⟨q,by rw[he,M9.fs];rfl,hb,trivial⟩)
theorem Nb{qa:Option Addr}{qc:Nat}(hq:ai seA 35 w.heap.size w qa [aO 4,aO 4]):Calls prog 15 #[.agg (rdA rN),.slice qa 2 qc] w (cZ w (λq:Option Addr×Nat=>.slice q.1 1 q.2) (λq w1=>ai seA 35 w1.heap.size w1 q.1 [aO 4]/\∀p,q.1=some p->w.heap.size<=p.block)):=
 (nlg hZ rN Bq w.heap.size w (aj _) (Br _ _) hg a0 a1 hse qa [aO 4,aO 4] qc zA hq).mono (by
  rintro e w' ⟨ls,hl,h⟩;obtain⟨q,he,hb,hs⟩:=aD.X nz h;rw[alU (nmj 4) (PO hl)]at he hs;exact⟨q,he,hb,hs⟩)
variable {r:dY} (hr:gQ r) {N:Nat} (hN:N<=w.heap.size) (hrA:fg N w r) {c:Cm} {ch:Ch} {fo:Fo} (h1:vS Z r c ch fo)
include hr hN hrA h1
theorem Nc:Calls prog 9 #[.agg (rdA r),ab 0,cB (aO ch.pub)] w (cZ w (λq:Option Addr×Nat=>.tuple #[.slice q.1 1 q.2,bZ]) (λ_ _=>True)):=
 (nMl hZ r hr N w hN hrA hg a0 a1 hse 0 (aO ch.pub) (by rw[h1.fs0 hZ];simp)).mono (by
  rintro e w' ⟨⟨⟨⟨a,c⟩,l⟩,b⟩,rfl,hb,_,_,ls,hl,h⟩;have hw:=h1.why hZ hl;rcases h with⟨h,_⟩|⟨j,h2,h3,h4⟩
  ·exact absurd (cA hw) h
  dsimp only at h3 h4;have hnd:ls.Nodup:=hl.nd λs hs=>(h1.k3 hZ (.base hs)).1;obtain⟨l0,e0⟩:=gW.1 hw;obtain⟨l2,e2⟩:=gW.1 h2;have hj:j=0:=(List.getElem_inj hnd).1 (e2.trans e0.symm);subst hj;subst h4;have mw:l.length=1:=by rw[h3,jM];omega
  exact⟨(a,c),by dsimp only;rw[mw],hb,trivial⟩)
theorem Ul:Calls prog 10 #[.agg (rdA r),ab 0,cB (aT (dk (aB Z c)))] w (aP w (bZ)):=
 (nVe hZ r hr N w hN hrA hg a0 a1 hse 0 _ (by rw[h1.fs0 hZ];simp)).mono (by
  rintro e w' ⟨b,rfl,hb,ls,hl,h⟩;have:=(hl.iff _).2 (h1.ep hZ);simp only[this,decide_true]at h;subst h;exact⟨rfl,hb⟩)
theorem Um(s:Se):Calls prog 10 #[.agg (rdA r),ab 1,cB s] w (aP w (bG)):=
 (nVe hZ r hr N w hN hrA hg a0 a1 hse 1 s (by rw[h1.fs1 hZ];simp)).mono (by
  rintro e w' ⟨b,rfl,hb,ls,hl,h⟩;rw[h1.fs1 hZ]at hl;have:=pS.nil nto hl;subst this;simp only[dV,decide_false]at h;subst h;exact⟨rfl,hb⟩)
theorem Un:Calls prog 21 #[.agg (rdA r),ab 0] w (cZ w (λq:Option Addr×Nat=>.slice q.1 1 q.2) (λq w1=>ai vA 32 w1.heap.size w1 q.1 [dk (aB Z c)]/\∀p,q.1=some p->w.heap.size<=p.block)):=
 (n3p hZ r hr N w hN hrA hg a0 a1 hse 0 (by rw[h1.fs0 hZ];simp)).mono (by
  rintro e w' ⟨ls,hl,h⟩;obtain⟨q,he,hb,hs⟩:=aD.X yk h;rw[h1.epL hZ hl]at he hs;exact⟨q,he,hb,hs⟩)
theorem Nf:Calls prog 15 #[.agg (rdA r),ak] w (cZ w (λq:Option Addr×Nat=>.slice q.1 0 q.2) (λ_ _=>True)):=
 (nlg hZ r hr N w hN hrA hg a0 a1 hse none [] 0 zA (.inl rfl)).mono (by
  rintro e w' ⟨ls,hl,h⟩;have:=pS.nil nto hl;subst this;obtain⟨q,he,hb,_⟩:=aD.X nz h;exact⟨q,by rw[he,nei];rfl,hb,trivial⟩)
end
theorem Uo{α:Type}{enc:α->Array Value}{x y:α}(hx:(enc x).size=m)(hy:(enc y).size=m)(h:W.heap[b]? =some (.cells (enc x++enc y) t fr)):ai enc m W.heap.size W (ao b) [x,y]:=
 .inr ⟨b,0,_,t,fr,rfl,(bA.1 h).1,h,λi hi=>by
  have h2:i=0\/i=1:=by simp at hi;omega
  rcases h2 with rfl|rfl
  ·refine⟨by rw[Array.size_append];omega,?_⟩;show cut (enc x++enc y) (0+0*m) m=enc x;unfold cut;rw[Nat.zero_mul,Array.toList_append,Pu,<-hx,<-Ox,List.take_left,Array.toArray_toList]
  refine⟨by rw[Array.size_append];omega,?_⟩;show cut (enc x++enc y) (0+1*m) m=enc y;unfold cut;rw[Nat.one_mul,mr,Array.toList_append];have e:m=(enc x).toList.length:=by rw[Ox];exact hx.symm
  rw[show((enc x).toList++(enc y).toList).drop m=(enc y).toList by rw[e,List.drop_left]];rw[iz (by rw[Ox];omega),Array.toArray_toList]⟩
theorem nsl(hZ:FxOk Z)(w:World)(hg:Glb w)(CK:Lab w)(a0 a1:Addr)(hse:Sen w a0 a1):Calls prog 7 #[] w (aP w (bZ)):=by
 have hg4:=hg.lt;obtain⟨pp,JI⟩:∃p,(Z.ge 4 5000).1=p:=⟨_,rfl⟩;obtain⟨vv,MV⟩:∃p,(Z.ge 4 300).1=p:=⟨_,rfl⟩;refine ef 7 func7 ntmps7 ?_;refine nv (α:=(dY×Cm×Fo)×Value×Value×Value) (v:=λq=>.tuple #[.agg (xw q.1.1 q.2.1 q.2.2.1 q.2.2.2),bZ]) (Φ:=λ_ q w1=>fg w1.heap.size w1 q.1.1/\gQ q.1.1/\vS Z q.1.1 q.1.2.1 (tu pp vv) q.1.2.2/\bD [q.1.1.o5,q.1.1.o6,q.1.1.o7,q.2.1,q.2.2.1,q.2.2.2]=true) call22 rfl rfl rfl (λW hS=>by rw[<-JI,<-MV];exact H9 hZ W (hg.old hS A0 zH trivial) (CK.old hS A0 zI trivial)) ?_;rintro Wm ⟨⟨⟨fa,fos,fc,oa,os,oc,la,cs,lc,ga,gs,gc,ia,xs,ic,o5,o6,o7⟩,c,fo⟩,gv,sv,mv⟩ wm wU KW ⟨hrA,rQ,h1,hone⟩;dsimp only at hrA rQ h1 hone;have e1:os=[(0,pp)]:=h1.os;have e2:cs=[c]:=h1.cs;have e3:fos=[fo]:=h1.fos;have e4:gs=[]:=h1.gs;have e5:xs=[]:=h1.xs;subst e1;subst e2;subst e3;subst e4;subst e5;have xA:=h1.ok;have hwm:=(wU.links w A0).size;have aqv:=KW.size;refine bH 4 ?_;intro b1 fX jK;refine jO (i:=0) rfl sizeOf79 rfl rfl rfl rfl rfl hone ?_;refine aE 7 bG ?_;refine aE 4 (ab 1) ?_;refine wX ?_;obtain⟨bq,oq,Ri,tq,Rj,e9,pG,WL,qI⟩:=hrA.c.get Xb;have e9:la=some ⟨bq,oq,none⟩:=e9;refine B 4 ?_;refine rv rfl rfl rfl (bK underlying24 sizeOf61 (congrArg (λq=>some (Value.slice q 1 lc)) e9) rfl zA (by show(0:Int)<((1:Nat):Int);decide)) ?_
 refine rq (.agg (cM c)) (dy isAgg61 sizeOf61 rfl A0 WL zI zz (dc qI (j:=0) (x:=c) rfl rfl)) (va (dU qI (j:=0) (x:=c) rfl rfl)) ?_;refine call (v:=.agg (dg (aB Z c))) call23 rfl rfl rfl (λW hS=>ZA hZ c (rQ.cg c A0) wm.heap.size W (hS.links wm A0).size ((hrA.C c A0).up (aj _) (hS.same A0 (aj _) zH zQ)) (hg.old hS A1 zH zQ)) ?_;refine bH 1 ?_;intro b3 eC ff;refine B 5 ?_;refine call call18 rfl rfl rfl (λW hS=>SG _ W) ?_;refine bH 1 ?_;intro b4 iT iU;refine aE 5 (.agg (rdA rN)) ?_;refine B 1 ?_;refine nv (α:=Option Addr×Nat) (v:=λq=>.tuple #[.slice q.1 0 q.2,bG]) (Φ:=λ_ _ _=>True) call9 rfl rfl rfl (λW hS=>Na hZ (hg.old hS A1 zH zQ) (hse.oldG hS A1 zH zQ)) ?_;rintro _ ⟨a32,c32⟩ Ng _ _ -;refine B 8 ?_;obtain⟨bo,oo,cso,tow,fro,e8,fE,hco,ab1⟩:=hrA.o.get Xb;have e8:oa=some ⟨bo,oo,none⟩:=e8;refine CJ.less (E':=[(0,_),(1,_),(2,_),(3,_),(4,_),(6,_),(9,_),(10,_),(11,_),(12,_),(13,_),(14,_),(15,_),(16,_),(17,_),(18,_),(19,_),(20,_),(21,_),(22,_),(23,_),(24,_),(25,_),(26,_),(27,_),(28,_),(29,_),(30,_),(31,_),(32,_),(33,_),(34,_)]) zR ?_;refine dN 14 [9,10,11,12,13] [[],[0],[0,1],[0,1],[0,1,2]] (λcv L' H'=>∃(a45:Option Addr) (As:Nat) (k9 eR dG jB jJ:Bool),cv=[ob k9 (.tuple #[.slice a45 1 As,bZ]),ob eR (.tuple #[.slice a45 1 As,bZ]),ob dG (.slice a45 1 As),ob jB (bZ),ob jJ (.slice a45 1 As)]/\L'=[Ng,wm,w]/\H'=[(b4,oC (seA (aO 4)) 35),(b3,oC (dg (aB Z c)) 33),(b1,oC (xw (⟨fa,[fo],fc,oa,[(0,pp)],oc,la,[c],lc,ga,[],gc,ia,[],ic,o5,o6,o7⟩:dY) gv sv mv) 79)]/\(eR=true->k9=true)/\(dG=true->k9=true)/\(jB=true->k9=true)/\(jJ=true->k9=true)) ⟨none,0,false,false,false,false,false,rfl,rfl,rfl,λh=>zS,λh=>zS,λh=>zS,λh=>zS⟩ (qm 5 (k:=by exact lD (λcv L' H' _ _ hP=>X.v (bK underlying23 sizeOf71 (congrArg (λq=>some (Value.slice q 1 oc)) e8) rfl zA (by show(0:Int)<((1:Nat):Int);decide))) (qm 1 (k:=by exact lD (λcv L' H' hl hd hP=>by obtain⟨a45,As,k9,eR,dG,jB,jJ,rfl,rfl,rfl,g10,g11,g12,g13⟩:=hP;exact X.v (ar (v:=ab pp) isAgg3 rfl A1 hco zI (by simp only[bM,dx,ec,ne_eq,and_true];omega) (vh ab1 (j:=0) (x:=((0:Int),pp)) rfl rfl 1 zA))) (lD (λcv L' H' _ _ hP=>nf call18 rfl rfl (λW hS _=>SG _ W) (λ_=>rfl)) LI))))) (sp:=[_,some (.agg (rdA (⟨fa,[fo],fc,oa,[(0,pp)],oc,la,[c],lc,ga,[],gc,ia,[],ic,o5,o6,o7⟩:dY))),_,_,some (.slice oa 1 oc),_,_,some (ab pp),_,_,_,_,_,_]) ?_ ?_
 ·refine nc rfl rfl ?_ ?_
  ·intro cv L' H' hl hr hP F Q' hk;obtain⟨a45,As,k9,eR,dG,jB,jJ,rfl,rfl,rfl,g10,g11,g12,g13⟩:=hP;obtain rfl:k9=false:=nV hr rfl;obtain rfl:eR=false:=by cases eR;(rfl);exact absurd (g10 rfl) zJ
   obtain rfl:dG=false:=by cases dG;(rfl);exact absurd (g11 rfl) zJ
   obtain rfl:jB=false:=by cases jB;(rfl);exact absurd (g12 rfl) zJ
   obtain rfl:jJ=false:=by cases jJ;(rfl);exact absurd (g13 rfl) zJ
   refine nv (α:=Option Addr×Nat) (v:=λq=>.tuple #[.slice q.1 1 q.2,bZ]) (Φ:=λ_ _ _=>True) call9 rfl rfl rfl (λW hS=>Nc (ch:=tu pp vv) hZ (hg.old hS A2 zH zQ) (hse.oldG hS A2 zH zQ) rQ (hS.links wm A1).size (hrA.up (aj _) (hS.same A1 (aj _) zH zQ)) h1) ?_;rintro _ ⟨a_,c_⟩ w_ _ _ -;exact OJ.done (B1 (λ_ h=>.tail _ h) (hk _ _ _ ⟨a_,c_,true,false,false,false,false,rfl,rfl,rfl,λh=>zS,λh=>zS,λh=>zS,λh=>zS⟩))
  refine nc rfl rfl ?_ ?_
  ·intro cv L' H' hl hr hP F Q' hk;obtain⟨a45,As,k9,eR,dG,jB,jJ,rfl,rfl,rfl,g10,g11,g12,g13⟩:=hP;obtain rfl:k9=true:=nu hr 0 zA rfl;obtain rfl:eR=false:=nV hr rfl;refine B 1 ?_;exact OJ.done (hk _ _ _ ⟨a45,As,true,true,dG,jB,jJ,rfl,rfl,rfl,λ_=>rfl,λ_=>rfl,λ_=>rfl,λ_=>rfl⟩)
  refine nc rfl rfl ?_ ?_
  ·intro cv L' H' hl hr hP F Q' hk;obtain⟨a45,As,k9,eR,dG,jB,jJ,rfl,rfl,rfl,g10,g11,g12,g13⟩:=hP;obtain rfl:k9=true:=nu hr 0 zA rfl;obtain rfl:eR=true:=nu hr 1 zA rfl;obtain rfl:dG=false:=nV hr rfl;refine B 1 ?_;exact OJ.done (hk _ _ _ ⟨a45,As,true,true,true,jB,jJ,rfl,rfl,rfl,λ_=>rfl,λ_=>rfl,λ_=>rfl,λ_=>rfl⟩)
  refine nc rfl rfl ?_ ?_
  ·intro cv L' H' hl hr hP F Q' hk;obtain⟨a45,As,k9,eR,dG,jB,jJ,rfl,rfl,rfl,g10,g11,g12,g13⟩:=hP;obtain rfl:k9=true:=nu hr 0 zA rfl;obtain rfl:eR=true:=nu hr 1 zA rfl;obtain rfl:jB=false:=nV hr rfl;refine B 1 ?_;exact OJ.done (hk _ _ _ ⟨a45,As,true,true,dG,true,jJ,rfl,rfl,rfl,λ_=>rfl,λ_=>rfl,λ_=>rfl,λ_=>rfl⟩)
  refine nc rfl rfl ?_ ?_
  ·intro cv L' H' hl hr hP F Q' hk;obtain⟨a45,As,k9,eR,dG,jB,jJ,rfl,rfl,rfl,g10,g11,g12,g13⟩:=hP;obtain rfl:k9=true:=nu hr 0 zA rfl;obtain rfl:eR=true:=nu hr 1 zA rfl;obtain rfl:dG=true:=nu hr 2 zA rfl;obtain rfl:jJ=false:=nV hr rfl;refine B 1 ?_;exact OJ.done (hk _ _ _ ⟨a45,As,true,true,true,jB,true,rfl,rfl,rfl,λ_=>rfl,λ_=>rfl,λ_=>rfl,λ_=>rfl⟩)
  exact nn
 intro cv L' H' hl hr hP;obtain⟨a45,As,k9,eR,dG,jB,jJ,rfl,rfl,rfl,g10,g11,g12,g13⟩:=hP;obtain rfl:k9=true:=nX hr 0 rfl;obtain rfl:eR=true:=nX hr 1 rfl;obtain rfl:dG=true:=nX hr 2 rfl;obtain rfl:jB=true:=nX hr 3 rfl;obtain rfl:jJ=true:=nX hr 4 rfl;refine B 5 ?_;refine CJ.less (E':=[(0,_),(1,_),(2,_),(3,_),(4,_),(6,_),(7,_),(8,_),(9,_),(10,_),(11,_),(12,_),(13,_),(14,_),(15,_),(16,_),(17,_),(18,_),(19,_),(20,_),(21,_),(22,_),(23,_),(24,_),(25,_),(26,_),(27,_),(28,_),(29,_),(30,_),(31,_),(32,_),(33,_),(34,_),(35,_),(36,_),(37,_),(38,_),(39,_),(40,_),(41,_),(42,_),(43,_),(44,_),(45,_),(46,_),(47,_)]) zR ?_;refine dN 18 [1,8,9,11] [[],[0],[0,1],[0]] (λcv L' H'=>∃(a49:Option Addr) (Ia:Nat) (Bs:Nat) (yA:World) (Bt:Option Addr) (DG:Nat) (xH:World) (Au:Nat) (yB:World) (k1 k8 k9 dG:Bool),cv=[ob k1 (.slice a49 0 Ia),ob k8 (.slice (ao Bs) 2 2),ob k9 (.slice Bt 1 DG),ob dG (.slice (ao Au) 1 1)]/\L'=(if dG then[yB]else[])++((if k9 then[xH]else[])++((if k8 then[yA]else[])++[Ng,wm,w]))/\H'=[(b4,oC (seA (aO 4)) 35),(b3,oC (dg (aB Z c)) 33),(b1,oC (xw (⟨fa,[fo],fc,oa,[(0,pp)],oc,la,[c],lc,ga,[],gc,ia,[],ic,o5,o6,o7⟩:dY) gv sv mv) 79)]/\(k8=true->yA.heap[Bs]? =some (oC (seA (aO 4)++seA (aO 4)) 35)/\yA.heap.size=Bs+1/\bM [(b4,oC (seA (aO 4)) 35),(b3,oC (dg (aB Z c)) 33),(b1,oC (xw (⟨fa,[fo],fc,oa,[(0,pp)],oc,la,[c],lc,ga,[],gc,ia,[],ic,o5,o6,o7⟩:dY) gv sv mv) 79)] Bs)/\(k9=true->ai seA 35 xH.heap.size xH Bt [aO 4]/\wm.heap.size<=xH.heap.size/\∀p,Bt=some p->b4≠p.block/\b3≠p.block/\b1≠p.block)/\(dG=true->yB.heap[Au]? =some (oC (seA (aO 4)) 35)/\yB.heap.size=Au+1/\bM [(b4,oC (seA (aO 4)) 35),(b3,oC (dg (aB Z c)) 33),(b1,oC (xw (⟨fa,[fo],fc,oa,[(0,pp)],oc,la,[c],lc,ga,[],gc,ia,[],ic,o5,o6,o7⟩:dY) gv sv mv) 79)] Au)/\(k8=true->k1=true)/\(k9=true->k8=true)/\(dG=true->k1=true)) ⟨none,0,0,w,none,0,w,0,w,false,false,false,false,rfl,rfl,rfl,λh=>zS,λh=>zS,λh=>zS,λh=>zS,λh=>zS,λh=>zS⟩ (qm 2 (k:=by exact lD (λcv L' H' hl hd hP=>by obtain⟨a49,Ia,Bs,yA,Bt,DG,xH,Au,yB,k1,k8,k9,dG,rfl,rfl,rfl,f8,f9,f11,g8,g9,g11⟩:=hP;obtain rfl:k1=true:=Bo hd 1 zA rfl;exact X.v (mE underlying38 rfl)) (qm 9 (k:=by exact lD (λcv L' H' hl hd hP=>by obtain⟨a49,Ia,Bs,yA,Bt,DG,xH,Au,yB,k1,k8,k9,dG,rfl,rfl,rfl,f8,f9,f11,g8,g9,g11⟩:=hP;obtain rfl:k9=true:=Bo hd 9 zA rfl;obtain rfl:dG=true:=Bo hd 11 zA rfl;exact nf call19 rfl rfl (λW hS _=>by have h9:=GA [aO 4] [aO 4] zA zA W.heap.size Bt (ao Au) DG 1 W (aj _) ((f9 rfl).1.toG hS (cG _ (uc _ A0)) (aj _) (λb off e=>.inr λhb=>⟨λh=>h,by have h8:=(f9 rfl).2.2 _ e;dsimp only at h8;simp only[bM,dx,ec,ne_eq,and_true];omega⟩)) (nrk rfl (hS.old (uc _ A0) (f11 rfl).1 zI (f11 rfl).2.2));exact h9) (λ_=>rfl)) LI)))) (sp:=[_,_,some (ab 0),some bG,_,some (.agg (rdA rN)),some (cB (aO 4)),some (cB (aO 4)),_,_,some (cB (aO 4)),_,some (bZ),some bG,_,_,some (.agg (rdA rN)),some (cB (aO 4))]) ?_ ?_
 ·refine nc rfl rfl ?_ ?_
  ·intro cv L' H' hl hr hP F Q' hk;obtain⟨a49,Ia,Bs,yA,Bt,DG,xH,Au,yB,k1,k8,k9,dG,rfl,rfl,rfl,f8,f9,f11,g8,g9,g11⟩:=hP;obtain rfl:k1=false:=nV hr rfl;obtain rfl:k8=false:=by cases k8;(rfl);exact absurd (g8 rfl) zJ
   obtain rfl:k9=false:=by cases k9;(rfl);exact absurd (g9 rfl) zJ
   obtain rfl:dG=false:=by cases dG;(rfl);exact absurd (g11 rfl) zJ
   refine nv (α:=Option Addr×Nat) (v:=λq=>.slice q.1 0 q.2) (Φ:=λ_ _ _=>True) call11 rfl rfl rfl (λW hS=>Uk hZ (hg.old hS (cG _ (cG _ (cG _ A2))) zH zQ) (hse.oldG hS (cG _ (cG _ (cG _ A2))) zH zQ)) ?_;rintro _ ⟨a_,c_⟩ w_ _ _ -;exact OJ.done (B1 (λ_ h=>.tail _ h) (hk _ _ _ ⟨a_,c_,Bs,yA,Bt,DG,xH,Au,yB,true,false,false,false,rfl,rfl,rfl,λh=>zS,λh=>zS,λh=>zS,λh=>zS,λh=>zS,λh=>zS⟩))
  refine nc rfl rfl ?_ ?_
  ·intro cv L' H' hl hr hP F Q' hk;obtain⟨a49,Ia,Bs,yA,Bt,DG,xH,Au,yB,k1,k8,k9,dG,rfl,rfl,rfl,f8,f9,f11,g8,g9,g11⟩:=hP;obtain rfl:k1=true:=nu hr 0 zA rfl;obtain rfl:k8=false:=nV hr rfl;obtain rfl:k9=false:=by cases k9;(rfl);exact absurd (g9 rfl) zJ
   refine S2 ?_;intro b_ w_ tr pL iw xy yz;exact OJ.done (B1 abU (hk _ _ _ ⟨a49,Ia,b_,w_,Bt,DG,xH,Au,yB,true,true,false,dG,rfl,rfl,rfl,λ_=>⟨tr,yz,iw⟩,λh=>zS,f11,λ_=>rfl,λh=>zS,g11⟩))
  refine nc rfl rfl ?_ ?_
  ·intro cv L' H' hl hr hP F Q' hk;obtain⟨a49,Ia,Bs,yA,Bt,DG,xH,Au,yB,k1,k8,k9,dG,rfl,rfl,rfl,f8,f9,f11,g8,g9,g11⟩:=hP;obtain rfl:k1=true:=nu hr 0 zA rfl;obtain rfl:k8=true:=nu hr 1 zA rfl;obtain rfl:k9=false:=nV hr rfl;obtain⟨ams,aqw,amt⟩:=f8 rfl;refine nv (α:=Option Addr×Nat) (v:=λq=>.slice q.1 1 q.2) (Φ:=λW q w1=>ai seA 35 w1.heap.size w1 q.1 [aO 4]/\∀p,q.1=some p->W.heap.size<=p.block) call15 rfl rfl rfl (λW hS=>Nb hZ (hg.old hS (cG _ (cG _ (cG _ A2))) zH zQ) (hse.oldG hS (cG _ (cG _ (cG _ A2))) zH zQ) (Uo rfl rfl (hS.old (cG _ (cG _ (uc _ A0))) ams zI amt))) ?_;rintro W_ ⟨a_,c_⟩ w_ qN wu ⟨FI,hn_⟩;have l4_:=qN.lt (b4,_) A0;have l3_:=qN.lt (b3,_) A1;have l1_:=qN.lt (b1,_) A2;dsimp only at l4_ l3_ l1_;exact OJ.done (B1 H5 (hk _ _ _ ⟨a49,Ia,Bs,yA,a_,c_,w_,Au,yB,true,true,true,dG,rfl,rfl,rfl,f8,λ_=>⟨FI,eE (qN.links wm (cG _ (cG _ (cG _ A1)))).size wu.size,λp hp=>(by have h8:=hn_ p hp;omega)⟩,f11,g8,λ_=>rfl,g11⟩))
  refine nc rfl rfl ?_ ?_
  ·intro cv L' H' hl hr hP F Q' hk;obtain⟨a49,Ia,Bs,yA,Bt,DG,xH,Au,yB,k1,k8,k9,dG,rfl,rfl,rfl,f8,f9,f11,g8,g9,g11⟩:=hP;obtain rfl:k1=true:=nu hr 0 zA rfl;obtain rfl:dG=false:=nV hr rfl;refine S2 ?_;intro b_ w_ tr pL iw xy yz;exact OJ.done (B1 H6 (hk _ _ _ ⟨a49,Ia,Bs,yA,Bt,DG,xH,b_,w_,true,k8,k9,true,rfl,rfl,rfl,f8,f9,λ_=>⟨tr,yz,iw⟩,g8,g9,λ_=>rfl⟩))
  exact nn
 intro cv L' H' hl hr hP;obtain⟨a49,Ia,Bs,yA,Bt,DG,xH,Au,yB,k1,k8,k9,dG,rfl,rfl,rfl,f8,f9,f11,g8,g9,g11⟩:=hP;obtain rfl:k1=true:=nX hr 0 rfl;obtain rfl:k8=true:=nX hr 1 rfl;obtain rfl:k9=true:=nX hr 2 rfl;obtain rfl:dG=true:=nX hr 3 rfl;show OJ _ _ _ _ _ _ _ [yB,xH,yA,Ng,wm,w] [(b4,oC (seA (aO 4)) 35),(b3,oC (dg (aB Z c)) 33),(b1,oC (xw (⟨fa,[fo],fc,oa,[(0,pp)],oc,la,[c],lc,ga,[],gc,ia,[],ic,o5,o6,o7⟩:dY) gv sv mv) 79)];refine call (v:=.bool false) call10 rfl rfl rfl (λW hS=>Uj hZ (hg.old hS A5 zH zQ) (hse.oldG hS A5 zH zQ)) ?_;refine aE 6 bG ?_;refine aE 3 (ab 1) ?_;refine wX ?_;refine CJ.less (E':=[(0,_),(1,_),(2,_),(3,_),(4,_),(6,_),(7,_),(8,_),(9,_),(10,_),(11,_),(12,_),(13,_),(14,_),(15,_),(16,_),(17,_),(18,_),(19,_),(20,_),(21,_),(22,_),(23,_),(24,_),(25,_),(26,_),(27,_),(28,_),(29,_),(30,_),(31,_),(32,_),(33,_),(34,_),(35,_),(36,_),(37,_),(38,_),(39,_),(40,_),(41,_),(42,_),(43,_),(44,_),(45,_),(46,_),(47,_),(48,_),(49,_),(50,_),(51,_),(52,_),(53,_),(54,_),(55,_),(56,_),(57,_),(58,_),(59,_),(60,_),(61,_),(62,_),(63,_),(64,_),(65,_),(66,_),(67,_),(68,_),(69,_),(70,_),(71,_),(72,_),(73,_),(74,_),(75,_),(76,_),(77,_),(78,_),(79,_)]) zR ?_
 refine dN 19 [16,18] [[],[]] (λcv L' H'=>∃(JK:Option Addr) (PS:Nat) (Ib:World) (Ic:Nat) (JL:World) (eH kE:Bool),cv=[ob eH (.slice JK 1 PS),ob kE (.slice (ao Ic) 1 1)]/\L'=(if kE then[JL]else[])++((if eH then[Ib]else[])++[yB,xH,yA,Ng,wm,w])/\H'=[(b4,oC (seA (aO 4)) 35),(b3,oC (dg (aB Z c)) 33),(b1,oC (xw (⟨fa,[fo],fc,oa,[(0,pp)],oc,la,[c],lc,ga,[],gc,ia,[],ic,o5,o6,o7⟩:dY) gv sv mv) 79)]/\(eH=true->ai vA 32 Ib.heap.size Ib JK [dk (aB Z c)]/\wm.heap.size<=Ib.heap.size/\∀p,JK=some p->b4≠p.block/\b3≠p.block/\b1≠p.block)/\(kE=true->JL.heap[Ic]? =some (oC (vA (dk (aB Z c))) 33)/\JL.heap.size=Ic+1/\bM [(b4,oC (seA (aO 4)) 35),(b3,oC (dg (aB Z c)) 33),(b1,oC (xw (⟨fa,[fo],fc,oa,[(0,pp)],oc,la,[c],lc,ga,[],gc,ia,[],ic,o5,o6,o7⟩:dY) gv sv mv) 79)] Ic)) ⟨none,0,w,0,w,false,false,rfl,rfl,rfl,λh=>zS,λh=>zS⟩ (qm 3 (k:=by exact lD (λcv L' H' _ _ hP=>nf call16 rfl rfl (λW hS _=>Pf _ W) (λ_=>rfl)) (lD (λcv L' H' hl hd hP=>by obtain⟨JK,PS,Ib,Ic,JL,eH,kE,rfl,rfl,rfl,f16,f18⟩:=hP;exact nf call10 rfl rfl (λW hS _=>Ul (ch:=tu pp vv) hZ (hg.old hS (cG _ (cG _ A5)) zH zQ) (hse.oldG hS (cG _ (cG _ A5)) zH zQ) rQ (hS.links wm (cG _ (cG _ A4))).size (hrA.up (aj _) (hS.same (cG _ (cG _ A4)) (aj _) zH zQ)) h1) (λ_=>rfl)) (qm 4 (k:=by exact lD (λcv L' H' _ _ hP=>nf call16 rfl rfl (λW hS _=>Pf _ W) (λ_=>rfl)) (lD (λcv L' H' hl hd hP=>by obtain⟨JK,PS,Ib,Ic,JL,eH,kE,rfl,rfl,rfl,f16,f18⟩:=hP;exact nf call10 rfl rfl (λW hS _=>Um (ch:=tu pp vv) hZ (hg.old hS (cG _ (cG _ A5)) zH zQ) (hse.oldG hS (cG _ (cG _ A5)) zH zQ) rQ (hS.links wm (cG _ (cG _ A4))).size (hrA.up (aj _) (hS.same (cG _ (cG _ A4)) (aj _) zH zQ)) h1 _) (λ_=>rfl)) LI)))))) (sp:=[_,some (.agg (rdA (⟨fa,[fo],fc,oa,[(0,pp)],oc,la,[c],lc,ga,[],gc,ia,[],ic,o5,o6,o7⟩:dY))),some (.agg (dg (aB Z c))),_,some (bZ),_,_,some (.agg (rdA (⟨fa,[fo],fc,oa,[(0,pp)],oc,la,[c],lc,ga,[],gc,ia,[],ic,o5,o6,o7⟩:dY))),some (.agg (dg (aB Z c))),_,some (bG),some bZ,_,_,_,some (.agg (rdA (⟨fa,[fo],fc,oa,[(0,pp)],oc,la,[c],lc,ga,[],gc,ia,[],ic,o5,o6,o7⟩:dY))),_,some (.agg (dg (aB Z c))),_]) ?_ ?_
 ·refine nc rfl rfl ?_ ?_
  ·intro cv L' H' hl hr hP F Q' hk;obtain⟨JK,PS,Ib,Ic,JL,eH,kE,rfl,rfl,rfl,f16,f18⟩:=hP;obtain rfl:eH=false:=nV hr rfl;refine nv (α:=Option Addr×Nat) (v:=λq=>.slice q.1 1 q.2) (Φ:=λW q w1=>ai vA 32 w1.heap.size w1 q.1 [dk (aB Z c)]/\∀p,q.1=some p->W.heap.size<=p.block) call21 rfl rfl rfl (λW hS=>Un (ch:=tu pp vv) hZ (hg.old hS (cG _ (cG _ A5)) zH zQ) (hse.oldG hS (cG _ (cG _ A5)) zH zQ) rQ (hS.links wm (cG _ (cG _ A4))).size (hrA.up (aj _) (hS.same (cG _ (cG _ A4)) (aj _) zH zQ)) h1) ?_;rintro W_ ⟨a_,c_⟩ w_ qN wu ⟨FI,hn_⟩;have l4_:=qN.lt (b4,_) A0;have l3_:=qN.lt (b3,_) A1;have l1_:=qN.lt (b1,_) A2;dsimp only at l4_ l3_ l1_;exact OJ.done (B1 H5 (hk _ _ _ ⟨a_,c_,w_,Ic,JL,true,kE,rfl,rfl,rfl,λ_=>⟨FI,eE (qN.links wm (cG _ (cG _ A4))).size wu.size,λp hp=>(by have h8:=hn_ p hp;omega)⟩,f18⟩))
  refine nc rfl rfl ?_ ?_
  ·intro cv L' H' hl hr hP F Q' hk;obtain⟨JK,PS,Ib,Ic,JL,eH,kE,rfl,rfl,rfl,f16,f18⟩:=hP;obtain rfl:kE=false:=nV hr rfl;refine rM underlying72 sizeOf33 zeroValue33 rfl rfl rfl rfl rfl rfl rfl ?_;intro b_ w_ tr pL iw xy yz;exact OJ.done (B1 H6 (hk _ _ _ ⟨JK,PS,Ib,b_,w_,eH,true,rfl,rfl,rfl,f16,λ_=>⟨tr,yz,iw⟩⟩))
  exact nn
 intro cv L' H' hl hr hP;obtain⟨JK,PS,Ib,Ic,JL,eH,kE,rfl,rfl,rfl,f16,f18⟩:=hP;obtain rfl:eH=true:=nX hr 0 rfl;obtain rfl:kE=true:=nX hr 1 rfl;show OJ _ _ _ _ _ _ _ [JL,Ib,yB,xH,yA,Ng,wm,w] [(b4,oC (seA (aO 4)) 35),(b3,oC (dg (aB Z c)) 33),(b1,oC (xw (⟨fa,[fo],fc,oa,[(0,pp)],oc,la,[c],lc,ga,[],gc,ia,[],ic,o5,o6,o7⟩:dY) gv sv mv) 79)];refine call (v:=.bool true) call24 rfl rfl rfl (λW hS=>by have h9:=ngp [dk (aB Z c)] [dk (aB Z c)] zJ zJ W.heap.size JK (ao Ic) PS 1 W (aj _) ((f16 rfl).1.toG hS A1 (aj _) (λb off e=>.inr λhb=>⟨λh=>h,by have h8:=(f16 rfl).2.2 _ e;dsimp only at h8;simp only[bM,dx,ec,ne_eq,and_true];omega⟩)) (nrk rfl (hS.old A0 (f18 rfl).1 zI (f18 rfl).2.2));rw[decide_eq_true rfl]at h9;exact h9) ?_;refine aE 3 (.agg (rdA (⟨fa,[fo],fc,oa,[(0,pp)],oc,la,[c],lc,ga,[],gc,ia,[],ic,o5,o6,o7⟩:dY))) ?_;refine nv (α:=Option Addr×Nat) (v:=λq=>.slice q.1 0 q.2) (Φ:=λ_ _ _=>True) call15 rfl rfl rfl (λW hS=>Nf (ch:=tu pp vv) hZ (hg.old hS A7 zH zQ) (hse.oldG hS A7 zH zQ) rQ (hS.links wm A6).size (hrA.up (aj _) (hS.same A6 (aj _) zH zQ)) h1) ?_;rintro _ ⟨aqx,aqy⟩ aqz _ _ -;refine dp (ab 0) ?_;refine Rz ?_;refine cu (.inl rfl) results7 bB A8 zB ?_;rfl
structure ChI (x:Ch):Prop where
 kind:kK x.kind
 dev:kK x.dev
 pub:kK x.pub
 ver:kK x.ver
 cut:kK x.cut
structure BxI (x:Bx):Prop where
 node:kK x.node
 level:kK x.level
 u:kK x.w.u
structure WeI (x:We):Prop where
 dev:kK x.dev
 u:kK x.w.u
structure Nh (c:Cm):Prop where
 folder:kK c.folder
 epoch:kK c.epoch
 par:eu c.par
 author:kK c.author
 chs:∀x∈c.chs,ChI x
 path:∀x∈c.path,kK x
 bxs:∀x∈c.bxs,BxI x
 wes:∀x∈c.wes,WeI x
 conf:eu c.conf
 sr:kK c.sr
 ss:kK c.ss
 lim:Gn c
theorem nkg(n:Nat)(hn:n<=100):∀ls:List (List V),(∀l∈ls,l.all wh=true/\l.length<=n/\V.fineL l)->V.fineL (ls.map V.list)/\V.depthL (ls.map V.list)<=1
 | [],_=>by simp[V.fineL,V.depthL]
 |l::ls,h=>by
  obtain⟨h1,h2⟩:=nkg n hn ls (λx hx=>h x (.tail _ hx));obtain⟨g1,g2,g3⟩:=h l A0;obtain⟨_,g4⟩:=ntf l g1 g3;simp only[dL,V.fineL,V.fine,V.depthL,V.depth,g4];exact⟨⟨⟨by omega,by omega,g3⟩,h1⟩,by omega⟩
theorem nZl:∀l:List Int,(∀x∈l,kK x)->V.fineL (l.map V.int)/\V.depthL (l.map V.int)=0
 | [],_=>by simp[V.fineL,V.depthL]
 |y::l,h=>by
  obtain⟨h1,h2⟩:=nZl l (λx hx=>h x (.tail _ hx));simp only[dL,V.fineL,V.fine,V.depthL,V.depth,h2];exact⟨⟨h y A0,h1⟩,by omega⟩
theorem n4f{l:List V}(h:V.fineL l)(hl:l.length<=1000000000)(hd:V.depthL l<=1000000000):V.fine (.list l):=by simp only[V.fine];exact⟨hl,hd,h⟩
theorem Ie(h:tU c=true):(∀x∈c.bxs,x.w.body.length<=200)/\(∀x∈c.wes,x.w.body.length<=200)/\c.chs.length<=10/\c.path.length<=12/\c.bxs.length<=40/\c.wes.length<=10:=by
 simpa[tU,and_assoc]using h
theorem Ni(h:Nh c)(hf:tU c=true):bN c:=by
 obtain⟨f1,f2,f3,f4,f5,f6⟩:=Ie hf;refine⟨⟨h.par,h.conf,f3,f4,f5,f6,f1,f2⟩,?_⟩;have a1:=nkg 100 zA (c.chs.map Ci) (λl hl=>by
  obtain⟨x,hx,rfl⟩:=bT.1 hl;have g:=h.chs x hx;refine⟨by simp[Ci,wh],by simp[Ci],?_⟩;simp only[Ci,V.fineL,V.fine];exact⟨g.kind,g.dev,g.pub,g.ver,g.cut,trivial⟩)
 have a2:=nZl c.path h.path;have a3:=nkg 100 zA (c.bxs.map vm) (λl hl=>by
  obtain⟨x,hx,rfl⟩:=bT.1 hl;have g:=h.bxs x hx;have g2:=f1 x hx;refine⟨by simp[vm,wh],by simp[vm],?_⟩;simp only[vm,V.fineL,V.fine];exact⟨g.node,g.level,g.u,by rw[Fj];omega,trivial⟩)
 have a4:=nkg 100 zA (c.wes.map vn) (λl hl=>by
  obtain⟨x,hx,rfl⟩:=bT.1 hl;have g:=h.wes x hx;have g2:=f2 x hx;refine⟨by simp[vn,wh],by simp[vn],?_⟩;simp only[vn,V.fineL,V.fine];exact⟨g.dev,g.u,by rw[Fj];omega,trivial⟩)
 simp only[ou,V.fineL];refine⟨by simp only[V.fine];exact h.folder,by simp only[V.fine];exact h.epoch,by simp only[V.fine];rw[Fj,nI];omega,by simp only[V.fine];exact h.author,n4f a1.1 (by simp only[eO];omega) aa,n4f a2.1 (by simp only[eO];omega) aa,n4f a3.1 (by simp only[eO];omega) aa,n4f a4.1 (by simp only[eO];omega) aa,by simp only[V.fine];rw[Fj,nI];omega,by simp only[V.fine];exact h.sr,by simp only[V.fine];exact h.ss,trivial⟩
structure Up (x:Gr):Prop where
 bf:eu x.f
 bo:∀o∈x.olds,eu o.f
 i:kK x.folder/\kK x.by_/\kK x.device/\kK x.pub
 io:∀o∈x.olds,kK o.w.u
structure uM (r:dY):Prop where
 cm:∀c∈r.cs,Nh c
 gr:∀g∈r.gs,Up g
 ir:∀x∈r.xs,ku x
theorem ab2{r:dY}(h:tY r=true):r.fos.length<=3/\r.cs.length<=7/\(∀c∈r.cs,tU c=true)/\r.gs.length<=4/\r.xs.length<=4/\r.os.length<=20/\∀g∈r.gs,g.olds.length<=6:=by
 simpa[tY,Cu,and_assoc,uF]using h
theorem uM.ok{r:dY}(h:uM r)(hf:tY r=true):gQ r:=by
 obtain⟨h1,h2,h3,h4,h5,h6,h7⟩:=ab2 hf;exact⟨by omega,by omega,by omega,λc hc=>Ni (h.cm c hc) (h3 c hc),by omega,λg hg=>⟨h7 g hg,(h.gr g hg).bf,(h.gr g hg).bo,(h.gr g hg).i,(h.gr g hg).io⟩,by omega,h.ir⟩
theorem n1n(Z:Fx)(cs:List Cm):∀(n:Nat) (qs:List (Nat×Gp)),(th Z cs n qs).length<=n
 |0,_=>aj 0
 |_+1,[]=>cY _
 |n+1,q::qs=>Nat.succ_le_succ (n1n Z cs n (qs++yo Z cs q))
theorem Ig(Z:Fx)(cs:List Cm)(fo:Fo):(gI Z cs fo).length<=cs.length+1:=by grind [gI,n1n]
theorem nUl(Z:Fx)(cs:List Cm):∀fos:List Fo,(eQ Z cs fos).length<=fos.length*(cs.length+1)
 | []=>by simp[eQ]
 |f::l=>by
  have h1:=nUl Z cs l;have h2:(xq Z cs f).length<=cs.length+1:=eE (GK _ _ _) (Ig Z cs f);unfold eQ at h1 ⊢;rw[Vx,cO,dO,qh];omega
theorem Ih{r:dY}(hr:gQ r)(Z:Fx)(dv:Int):(r.fs Z dv).length<=200:=by
 have h1:=noi (r.fs0 Z dv);have h2:=nPj r.os dv;have h3:=njk (eQ Z r.cs r.fos) dv;have h4:=nUl Z r.cs r.fos;have h5:r.fos.length*(r.cs.length+1)<=10*11:=Nat.mul_le_mul hr.fl (by have:=hr.cl;omega);have h7:=hr.ol;all_goals grind [dY.fs,dY.fs0]
theorem Uq{cs:List Cm}{fos:List Fo}{p:Ap}(h:p∈eQ Z cs fos):p.1∈cs:=by
 unfold eQ at h;obtain⟨fo,_,h⟩:=xz.1 h;unfold xq at h;have key:∀j,p∈me cs (gI Z cs fo) j->p.1∈cs:=by
  intro j;induction j with
  |zero=>intro h;simp[me]at h
  |succ j ih=>
   intro h;unfold me at h;split at h
   ·exact ih h
   rename_i q hq;rcases aY.1 h with h|h
   ·exact ih h
   simp only[gh]at h;subst h;obtain⟨g,c,hc,_⟩:=nog q (cA hq);show iQ cs q.1∈cs;unfold iQ;rw[hc];exact cA hc
 exact key _ h
theorem Ur{r:dY}{dv:Int}{s:Se}:s∈r.fs Z dv↔s∈qw r.os dv\/s∈rp (eQ Z r.cs r.fos) dv:=by grind [dY.fs,Dt,dY.fs0]
theorem Us{os:List Ow}{dv:Int}{s:Se}:s∈qw os dv↔∃o∈os,o.1=dv/\aO o.2=s:=by
 unfold qw;simp[bT,uK,and_assoc]
theorem Ut{ps:List Ap}{dv:Int}{s:Se}:s∈rp ps dv↔∃p∈ps,p.1.author=dv/\nj (dk p.2.2.2.last) 0=s:=by
 unfold rp;rw[bT];constructor
 ·rintro⟨p,hp,e⟩;obtain⟨h1,h2⟩:=uK.1 hp;exact⟨p,h1,of_decide_eq_true h2,e⟩
 rintro⟨p,h1,h2,e⟩;exact⟨p,uK.2 ⟨h1,decide_eq_true h2⟩,e⟩
section
variable {C:Cx} {Q:bC} {E:Env} {D:List Deferred} {G:Gh} {L L':List World} {H:ad} {ops:Array Oper} {l:List Oper}
end
section
variable {Z:Fx} (hZ:FxOk Z) (r:dY) (hr:gQ r) (N:Nat) (w:World) (hN:N<=w.heap.size) (hrA:fg N w r) (hg:Glb w)
include hZ hr hN hrA hg
theorem nsp(dv:Int):Calls prog 11 #[.agg (rdA r),ab dv] w (cZ w (λq:Option Addr×Nat=>.slice q.1 (r.fs Z dv).length q.2) (λq w1=>ai seA 35 w1.heap.size w1 q.1 (r.fs Z dv))):=
 (n5e hZ r hr N w hN hrA hg dv).mono λe w' h=>let⟨q,he,hb,hs⟩:=aD.X nz h;⟨q,he,hb,hs.1⟩
end
theorem nNi{α:Type}{p:α->Bool}{xs:List α}{j:Nat}(h:gC p xs j)(hj:xs.length<=j){x:α}(hx:x∈xs):p x=false:=by
 obtain⟨i,hi⟩:=jG.1 hx;exact h i x (by have:=nq hi;omega) hi

def qz (p:Pl):Array Value:=(ab p.c.folder::ab p.c.epoch::lJ p.c.par (ab p.c.author:: .slice p.c.ca p.c.chs.length p.c.cc:: .slice p.c.pa p.c.path.length p.c.pc:: .slice p.c.ba p.c.bxs.length p.c.bc:: .slice p.c.wa p.c.wes.length p.c.wc::lJ p.c.conf (ab p.c.sr::ab p.c.ss:: .bool p.fst::ab p.x.g.folder::ab p.x.g.epoch::lJ p.x.g.last [.slice p.x.ma p.x.g.ms.length p.x.mc,.slice p.x.na p.x.g.ns.length p.x.nc,.slice p.ta p.ns.length p.tc]))).toArray
def Bu (p:Pl):List Value:=(qz p).toList
theorem nNj(p:Pl):(Bu p).length=111:=rfl
theorem Nj(p:Pl):∀u∈Bu p,u.oneCell'=true:=LC rfl
theorem Nk:prog.info? 63=some Tryz.t63:=by kernel_rfl
theorem Uu:jN prog 43 63 111:=⟨underlying43,Tryz.t63,_,Nk,rfl,rfl,rfl,by decide⟩
theorem Nl(cs:Array Value)(o n k m:Nat)(h:k+m<=n):cut (cut cs o n) k m=cut cs (o+k) m:=by
 unfold cut;simp only[List.drop_take,List.take_take,Wo];congr 2;omega
section
variable {α:Type}{enc:α->Array Value}{n off:Nat}{xs:List α}(h:∀i (h:i<xs.length),off+i*n+n<=cs.size/\cut cs (off+i*n) n=enc xs[i]){j:Nat}{x:α}(hj:xs[j]? =some x){i:Int}(hi:i=(j:Int))(k m:Nat)(hk:k+m<=n)
include α enc n off h j hj i hi k hk
theorem nTi:cut cs (off+i.toNat*n+k) m=cut (enc x) k m:=by
 rw[<-Nl cs _ n k m hk,dU h hj hi]
theorem nLh:off+i.toNat*n+k+m<=cs.size:=by
 have:=dc h hj hi;omega
end
def ofV (o:Option Pl):Value:=.tuple #[.agg (qz (o.getD Bh)),.bool o.isSome]
theorem nDm(pls:List Pl)(gj:pls.length<=1000)(N:Nat)(a:Option Addr)(cp:Nat)(f:Nat->Int)(w:World)(hN:N<=w.heap.size)(aH:ai qz 111 N w a pls):Calls prog 38 #[.slice a pls.length cp,.agg (dg f)] w (aP w (ofV (gJ pls f))):=by
 refine eN func38 ntmps38 ?_;refine cH 2 ?_;intro b3 w3 dA cX fT eC ff;refine bH 1 ?_;intro b4 iT iU;refine B 10 ?_;refine CJ.lp (α:=Nat) [0,3,4] (λj=>[(6,ab (j:Int))]) (λj=>[(b4,oC (qz Bh) 63)]) (λj=>j<=pls.length/\gC (λp:Pl=>iA p.x.g.last f) pls j) (λj=>pls.length-j) 0 ⟨cY _,λi x hi=>absurd hi aa⟩ ?_;rintro j ⟨hj,dP⟩;refine aG 9 ?_ ?_
 ·intro av;refine B 5 ?_;obtain⟨bp,op,cs0,tp,fC,eZ,BL,bW,aS⟩:=aH.get aa;obtain⟨x,hx⟩:=ng pls j aa;refine eA 7 (pb:=by exact zU 2 (k:=by exact aJ (X.v (bK underlying43 sizeOf63 (congrArg (λq=>some (Value.slice q pls.length cp)) eZ) rfl aa aa)) (zU 2 (k:=by exact aJ (X.v (RV.re (v':=.agg (dg x.x.g.last)) (dy isAgg33 sizeOf33 rfl A1 bW zI zz (nLh aS hx rfl 76 32 zA)) (va (nTi aS hx rfl 76 32 zA)))) zT)))) (k:=?_);refine rr (.bool (iA x.x.g.last f)) (gG nO zA nF rfl rfl rfl) ?_;refine aG 2 ?_ ?_
  ·intro aR;refine B 4 ?_;refine rv rfl rfl rfl (bK underlying43 sizeOf63 (congrArg (λq=>some (Value.slice q pls.length cp)) eZ) rfl aa aa) ?_;refine dp (.agg (qz x)) ?_;refine B 10 ?_;refine cu (.inl rfl) results38 bB A1 z0b ?_;rw[show gJ pls f=(some x)from n0j dP hx cV];rfl
  intro aR;refine B 8 ?_;refine ag (j+1) ⟨by omega,dP.next hx (by simpa using cV)⟩
 intro av;refine aE 7 (.agg (qz Bh)) ?_;refine B 5 ?_;refine cu (.inl rfl) results38 bB A1 z0b ?_;rw[show gJ pls f=none from nEk dP aa];rfl
end Px
