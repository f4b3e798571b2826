/- Contracts of functions of the program. No conditions. -/
import Derived.Test.YtodpaegknpbomaaGreatDoorKd
import Derived.Test.YtodpaegknpbomaaGreatDoorProg
set_option linter.unusedSimpArgs false
set_option linter.unusedVariables false
set_option linter.unusedSectionVars false
set_option maxRecDepth 20000
set_option maxHeartbeats 8000000
namespace Px
open Go Go.RowKit Go.Proofs Go.Proofs.Tryz
theorem nbl(bI t:Nat)(f:Nat->Int)(b3 t3:Nat)(q9:Nat×Nat)(hf:ey f)(w:World)(hb:w.heap[bI]? =some (oC (aZ (ak) 0) t))(dE:w.heap[b3]? =some (.cells (dg f) t3 q9))(hne:b3≠bI):Calls prog 208 #[ptr bI 0,.slice (ao b3) 32 32] w (mO w [bI] (λ_:Nat=>.tuple #[ab 32,.nilIface]) (λbR=>[(bI,oC (aZ (bW bR 32 64) 0) t),(bR,aV 5 (cM f) (jA 32))]) (λ_=>True)):=by
 have h:=nll bI 0 t (cM f) b3 0 32 (by rw[nI];decide) (by rw[nI];decide) w hb (cC.dg dE hf) hne;simp only[nI]at h;exact h
theorem nlj(bI t:Nat)(f:Nat->Int)(hf:ey f)(w:World)(hb:w.heap[bI]? =some (oC (aZ (ak) 0) t)):Calls prog 207 #[ptr bI 0,.agg (dg f)] w (mO w [bI] (λ_:Nat=>ptr bI 0) (λbR=>[(bI,oC (aZ (bW bR 32 64) 0) t),(bR,aV 5 (cM f) (jA 32))]) (λ_=>True)):=by
 have jq:=(bB.1 hb).1;refine nB (vs:=[_,_]) (Gh.lent (λk=>k∈keys [(bI,oC (aZ (ak) 0) t)])) [(bI,oC (aZ (ak) 0) t)] func207 rfl ntmps207 rfl (HF (fP.mem ⟨hb,trivial⟩) (EL _)) ?_;refine cK 2 ?_;intro b3 w3 dE da gi eO fw;refine B 4 ?_;refine eA 4 (pb:=by exact zU 3 (k:=by exact aM (X.v (gd (h:=32) underlying127 sizeOf5 rfl rfl aa)) (ra rfl))) (k:=?_);refine CR (Hz:=[(bI,oC (aZ (ak) 0) t)]) (H0:=[]) (first:=[]) (cap:=[]) (v:=λ_:Nat=>.tuple #[ab 32,.nilIface]) (Hn:=λbR=>[(bI,oC (aZ (bW bR 32 64) 0) t),(bR,aV 5 (cM f) (jA 32))]) (Φ:=λ_=>True) rfl rfl call208 rfl rfl rfl ⟨.inl T0,trivial⟩ (λW hS=>nbl bI t f b3 _ _ hf W (hS.own _ A0) (hS.old A0 dE da zy) aa) ?_;rintro bR-J;have xx:bR=bI\/w.heap.size<=bR:=by
  rcases J (bR,_) A1 with h|h
  ·left;simpa[keys]using h
  right;exact h.1.2.1
 refine B 9 ?_;exact tY (Hz:=[(bI,oC (aZ (ak) 0) t)]) (H0:=[]) bR (.inl rfl) results207 bD A1 JI rfl z7b
variable {cs:Array Value} {kb:Bool} {ch:Ch} {c:Cm} {C:Cx} {R:Ending->World->Prop} {E:Env} {fo:Fo} {Z:Fx} {G:Gh} {H:ad} {cv:List (Option Value)} {ls:List Se} {vs:List Value} {L:List World} {N b lim m t:Nat} {fr:Nat×Nat} {a:Option Addr} {P:Program} {v:Value} {W w:World}
theorem nSm(hZ:FxOk Z)(bI bR t:Nat)(s:ByteArray)(hs0:s.size<1000)(xs:List UInt8)(hxl:xs.length<=64)(w:World)(hb:w.heap[bI]? =some (oC (aZ (bW bR xs.length 64) 0) t))(hR:cC w bR 0 xs)(hg:Glb w):Calls prog 209 #[ptr bI 0,.string s] w (aU w (.agg (dg (Z.tg s xs)))):=by
 have jq:=(bB.1 hb).1;have al:=hR.lt;have J:=hg.lt;obtain⟨df,lD⟩:∃df,Z.tg s xs=df:=⟨_,rfl⟩;refine eN func209 ntmps209 ?_;refine bM 3 ?_;intro b4 iW iX;refine B 8 ?_;refine call call271 rfl rfl rfl (λW hS=>nsp bI bR xs.length 0 t _ hxl W (hS.old A0 hb zH zy)) ?_;refine call call87 rfl rfl rfl (λW hS=>by rw[<-lD];exact nWh hZ s hs0 xs aa bR 0 64 hxl W (hR.old hS A0 zH zy) (hg.old hS A0 zF zD)) (v:=.agg (dg df)) ?_;refine B 4 ?_;refine cA (.inl rfl) results209 bD A0 zA ?_;rw[lD];rfl
def oR (s:ByteArray):List UInt8:=(V.list [.text s]).enc
theorem nGi(s:ByteArray)(h:s.size<128):(oR s).length=4+s.size:=by
 have h1:num 1=[UInt8.ofNat 1]:=Yd zz;have h2:=Yd h;have h3:s.data.toList.length=s.size:=Ox;simp[oR,V.enc,V.encL,h1,h2,h3];omega
theorem HI(s:ByteArray)(h:s.size<128):(V.list [.text s]).fine:=by
 simp[V.fine,V.fineL,V.depthL,V.depth];omega
theorem nyp(s:ByteArray):(V.list [.text s]).depth<=16:=by simp[V.depth,V.depthL]
theorem T3(s:ByteArray)(N b t:Nat)(fr:Nat×Nat)(w:World)(hb:b<N)(h:w.heap[b]? =some (.cells #[ab 2,ab 0,.string s,ak] t fr)):fy N w (.list [.text s]) (vL (ao b) 1 1):=by
 simp only[fy,gX];exact⟨_,_,rfl,aj _,.inr ⟨b,_,t,fr,rfl,hb,h,aj 4,rfl,trivial⟩⟩
def zK:Array Value:=cf 32 (λ_=>C6)
def sE (Z:Fx) (f:Nat->Int) (s:ByteArray):Nat->Int:=Z.tg (⟨#[100,101,114,105,118,101]⟩:ByteArray) (cM f++oR s)
def Xd (Z:Fx) (f:Nat->Int) (s:ByteArray):Int:=Z.sc (⟨#[115,99,97,108,97,114]⟩:ByteArray) (cM (sE Z f s))
theorem npe(hZ:FxOk Z)(f:Nat->Int)(hf:ey f)(s:ByteArray)(bA:s.size<=28)(w:World)(hg:Glb w):Calls prog 142 #[.agg (dg f),.string s,ak] w (aU w (.agg (dg (sE Z f s)))):=by
 have lj:s.size<128:=by omega
 have gq:=nGi s lj;have br:=hg.lt;obtain⟨df,lD⟩:∃df,Z.tg (⟨#[100,101,114,105,118,101]⟩:ByteArray) (cM f++oR s)=df:=⟨_,rfl⟩;refine eN func142 ntmps142 ?_;refine cK 2 ?_;intro b3 w3 dE da gi eO fw;refine bM 1 ?_;intro b6 ky rh;refine B 6 ?_;refine zve ?_;refine yV ?_;intro dU J Tq Tr bx Fu Ln;refine B 12 ?_;refine CJ.lp (α:=Unit) [3,6,7,17,18] (λp=>[]) (λp=>[(b6,oC (zK) 127)]) (λp=>True) (λp=>0) () trivial ?_;rintro⟨⟩ -;refine Dh ?_;refine B 13 ?_;refine nrk (ys:=oR s) call85 rfl rfl rfl (λW hS=>nOe [.text s] (HI s lj) (nyp s) (by have:=nGi s lj;unfold oR at this;omega) J.heap.size (ao dU) 1 W (hS.links _ A0).size (T3 s _ dU _ _ W aa (hS.old A0 Tq Tr zy))) ?_;intro jc aq al mJ T4 bw bz;replace mJ:=yb mJ;replace T4:=yd T4;refine bM 10 ?_;intro iI E3 E4;refine B 5 ?_;refine CR (Hz:=[(iI,oC (aZ (ak) 0) 352)]) (H0:=[(jc,aV 5 (oR s) al),(b6,oC (zK) 127)]) (first:=[]) (cap:=[]) (v:=λ_:Nat=>ptr iI 0) (Hn:=λbR=>[(iI,oC (aZ (bW bR 32 64) 0) 352),(bR,aV 5 (cM f) (jA 32))]) (Φ:=λ_=>True) rfl rfl call207 rfl rfl rfl ⟨.inr ⟨by omega,by omega,by omega,trivial⟩,trivial⟩ (λW hS=>nlj iI 352 f hf W (hS.own _ A0)) ?_;rintro bR-jX;have xx:bR=iI\/(J.heap.size<=bR/\w3.heap.size<=bR/\w.heap.size<=bR/\jc≠bR/\b6≠bR):=by
  rcases jX (bR,_) A1 with h|h
  ·left;simpa[keys]using h
  right;obtain⟨⟨h1,h2,h3,_⟩,h4⟩:=h;simp only[bN]at h4;exact⟨h1,h2,h3,h4.2.1,h4.2.2.1⟩
 refine B 3 ?_;refine nzd (i:=0) (j:=1) rfl rfl zz λwH=>?_;refine nzd (i:=1) (j:=2) rfl rfl zz λa6=>?_;refine CR (Hz:=[(iI,oC (aZ (bW bR (cM f).length 64) 0) 352),(bR,aV 5 (cM f) (jA 32))]) (H0:=[(jc,aV 5 (oR s) al),(b6,oC (zK) 127)]) (first:=[]) (cap:=[]) (v:=λ_:Unit=>.tuple #[ab ((oR s).length:Int),.nilIface]) (Hn:=λ_=>[(iI,oC (aZ (bW bR (cM f++oR s).length 64) 0) 352),(bR,aV 5 (cM f++oR s) ((jA 32).drop (oR s).length))]) (Φ:=λ_=>True) (by rw[nI]) rfl call208 rfl rfl rfl ⟨.inr ⟨by omega,by omega,by omega,trivial⟩,.inr ⟨by omega,by omega,by omega,trivial⟩,trivial⟩ (λW hS=>nMg iI bR 352 (cM f) (jA 32) (oR s) jc 0 aq (by rw[nI,nGi s lj];omega) (by rw[PC,nI]) (by rw[nI];decide) W (hS.own _ A0) (hS.own _ A1) wH (cC.row (hS.own _ A2)) aa aa) ?_;rintro _-lW;refine B 4 ?_;refine call call209 rfl rfl rfl (λW hS=>by rw[<-lD];exact nSm hZ iI bR 352 (⟨#[100,101,114,105,118,101]⟩:ByteArray) zz (cM f++oR s) (by rw[cB,nI];omega) W (hS.own _ A0) (cC.row (hS.own _ A1)) (hg.old hS A2 zF (by simp[Over]<;>omega))) (v:=.agg (dg df)) ?_;refine B 4 ?_;refine cA (.inl rfl) results142 bD A2 zA ?_;rw[show sE Z f s=df from lD];rfl
theorem HJ(hZ:FxOk Z)(s:ByteArray)(hs0:s.size<1000)(f:Nat->Int)(hf:ey f)(b t:Nat)(fr:Nat×Nat)(w:World)(h:w.heap[b]? =some (.cells (dg f) t fr))(hg:Glb w):Calls prog 195 #[.string s,.slice (ao b) 32 32] w (aU w (ab (Z.sc s (cM f)))):=by
 have:=Oz hZ s hs0 (cM f) (by rw[nI];decide) b 0 32 (by rw[nI];decide) w (cC.dg h hf) hg;rwa[nI]at this
theorem iH.dg{J e' c:Nat}{f:Nat->Int}{w1:World}(hU:C.P.underlying J=some (.slice e'))(hf:ey f)(hm:w1∈L)(h:w1.heap[b]? =some (.cells (Px.dg f) t fr))(hG:¬G.X b)(hO:bN H b):iH C G L H J (.slice (ao b) 32 c) (cM f):=by
 have:=iH.seg (c:=c) hU hm (cC.dg h hf) hG hO;rwa[nI]at this
theorem nvh(hZ:FxOk Z)(f:Nat->Int)(s:ByteArray):ey (sE Z f s):=hZ.byt _ _
theorem nol(hZ:FxOk Z)(f:Nat->Int)(hf:ey f)(s:ByteArray)(J:s.size<=28)(w:World)(hg:Glb w):Calls prog 203 #[.agg (dg f),.string s] w (aU w (ab (Xd Z f s))):=by
 have al:=hg.lt;have hB:=nvh hZ f s;obtain⟨df,lD⟩:∃df,sE Z f s=df:=⟨_,rfl⟩;rw[lD]at hB;refine eN func203 ntmps203 ?_;refine cK 2 ?_;intro b2 w2 dz bY ft dL dH;refine B 7 ?_;refine call call142 rfl rfl rfl (λW hS=>by rw[<-lD];exact npe hZ f hf s J W (hg.old hS A1 zF zD)) (v:=.agg (dg df)) ?_;refine bM 1 ?_;intro b5 tr tu;refine B 5 ?_;refine rv rfl rfl rfl (gd (h:=32) underlying127 sizeOf5 rfl rfl aa) ?_;refine call call195 rfl rfl rfl (λW hS=>HJ hZ (⟨#[115,99,97,108,97,114]⟩:ByteArray) zz df hB b5 _ _ W (hS.own _ A0) (hg.old hS A1 zF zD)) ?_;refine B 4 ?_;refine cA (.inl rfl) results203 bD A1 zA ?_;unfold Xd;rw[lD];rfl
theorem HK{f:Nat}{fn:Func}{l:List Oper}{id d ty:Nat}{pos:String}{aE:Array Edge}{eL:Array Nat}{x:Code}(u u':FrameMode)(rv:Value)(hu:∀(c₀:Frame) (cs:List Frame),c₀.mode=u->HL (c₀::cs)=(rv,{c₀ with mode:=u'}::cs))(hf:P.funcs[f]? =some fn)(hb:fn.body=some (.seq (.region id ((⟨some d,.call ⟨.builtin .recover,#[],eL⟩,ty,pos,aE,none⟩:Oper)::l).toArray false) (.cond (.tmp t) x .skip)))(hr0:fn.results=#[])(hN:fn.ntmps=N)(hl:Nat.ble vs.length N=true)(hd:Nat.blt d N=true)(hS:St G [w] H w)(h:OJ ⟨P,none,N⟩ ((⟨some d,.call ⟨.builtin .recover,#[],eL⟩,ty,pos,aE,none⟩:Oper)::l).toArray (λe a W=>e= .normal/\a.defers=[]/\a.eval (.tmp t)=bH/\Below w.heap.size w W) l ((d,rv)::yx 0 vs) [] G [w] H):CallsDIn (FW none) 0 P f vs.toArray u w (λe J w'=>J=u'/\(∃v,e= .returned v)/\Below w.heap.size w w'):=by
 refine callsDIn_of_wpSIn hf hb trivial λc₀ cs hc=>?_;have jz:(vs.toArray++Array.replicate (fn.ntmps-vs.toArray.size) undef).size=N:=by
  have:=er hl;simp[hN];omega
 have hF:Fits (yx 0 vs) ⟨vs.toArray++Array.replicate (fn.ntmps-vs.toArray.size) undef,[]⟩:=npc vs _;have qd:=hu c₀ cs hc;refine wpSIn_seq (nSp (w':=w) (rest:=List.range' 1 l.length) rfl ?_ rfl ?_ (λ_ _=>trivial) ?_ ?_)
 ·simp[List.range_eq_range',List.range'_succ]
 ·simp[Region.wanted]
 ·simp[execOp,resolve,invoke,builtin,Deferred.ofValue]
 rw[qd,wpOpsIn_eq_wpListIn l 1 (λj=>by simp[Nat.add_comm])];have ay:=h ((⟨vs.toArray++Array.replicate (fn.ntmps-vs.toArray.size) undef,[]⟩:Act).put (some d) rv) w (by simp only[Act.put];simpa using jz) rfl (hF.put rv (by rw[jz];exact nX hd)) hS;have mono:∀(l':List Oper) (a:Act) (W:World),wpListIn (FW none) 0 P ((⟨some d,.call ⟨.builtin .recover,#[],eL⟩,ty,pos,aE,none⟩:Oper)::l).toArray (λe a W=>e= .normal/\a.defers=[]/\a.eval (.tmp t)=bH/\Below w.heap.size w W) l' a W->
  wpListIn (FW none) 0 P ((⟨some d,.call ⟨.builtin .recover,#[],eL⟩,ty,pos,aE,none⟩:Oper)::l).toArray (λe a' w'=>Exit.thenS ((Code.cond (.tmp t) x .skip).wpSIn (FW none) 0 P (bodyPostS P fn c₀ cs (λe J w'=>J=u'/\(∃v,e= .returned v)/\Below w.heap.size w w'))) (bodyPostS P fn c₀ cs (λe J w'=>J=u'/\(∃v,e= .returned v)/\Below w.heap.size w w')) e a' ({c₀ with mode:=u'}::cs) w') l' a W:=by
  intro l';induction l' with
  |nil=>
   intro a W hq;obtain⟨_,h1,h2,h3⟩:=hq;exact wpSIn_cond (t:=false) h2 (wpSIn_of_wpIn rfl (wpIn_skip ⟨h1,u',rfl,.tuple #[],results_none hr0 _ _ _,rfl,⟨_,rfl⟩,h3⟩))
  |cons o l' ih=>
   intro a W hq;unfold wpListIn at hq ⊢;split
   ·rename_i an;rw[if_pos an]at hq;refine ntj (λa' W' hk=>ih a' W' hk) (λc a' W' hk=>?_) (λhk=>?_) hq
    ·exact absurd hk.1 zI
    obtain⟨a0,w0,hk⟩:=hk;exact absurd hk.1 zI
   rename_i an;rw[if_neg an]at hq;exact⟨hq.1,ih _ _ hq.2⟩
 exact mono l _ _ ay
theorem Rd.segN{off c n:Nat}{zs:List UInt8}{w1:World}(hn:zs.length=n)(hm:w1∈L)(h:cC w1 b off zs)(hG:¬G.X b)(hO:bN H b):Rd C G L H 1 n (.slice (some ⟨b,off,none⟩) n c) (ub zs):=by subst hn;exact Rd.seg hm h hG hO
theorem MH(w:World):CallsDIn (FW none) 0 prog 331 #[] .returning w (λe u' w'=>u'= .returning/\(∃v,e= .returned v)/\Below w.heap.size w w'):=by
 refine HK (vs:=[]) .returning .returning .nilIface n9k func331 rfl results331 ntmps331 rfl rfl (JW w) ?_;refine B 1 ?_;exact OJ.done λa W hN hD hF hS=>⟨rfl,hD,hF.ev rfl,hS.base A0 trivial⟩
theorem nrl(bR:Nat)(xs:List UInt8)(hx:xs.length=64)(w:World)(sD:cC w bR 0 xs):Calls prog 311 #[.slice (ao bR) 64 64,ab 32] w (dc w (λq:Nat×Nat=>.slice (ao q.1) 64 q.2) (λq w1=>w.heap.size<=q.1/\96<=q.2/\w1.heap[q.1]? =some (aV 5 xs (jA (q.2-64))))):=by
 have aI:=sD.lt;refine T5 (vs:=[_,_]) Gh.no [] func311 rfl ntmps311 rfl (JW w) ?_;refine B 7 ?_;refine OJ.defer (cap:=[]) rfl rfl ?_;refine aF 5 (ab 64) ?_;refine B 1 ?_;refine rr (ab 96) (jw rfl rfl zz zz) ?_;refine aF 8 (ab 64) ?_;refine rr (ab 128) (vO rfl rfl zz zz) ?_;refine VR ?_;refine du (ab 64) ?_;refine rr (ab 128) (vO rfl rfl zz zz) ?_;refine B 6 ?_;refine XW (n:=128) underlying106 underlying3 Vn rfl rfl rfl rfl rfl rfl rfl rfl zz zz ?_;intro rI J Ef Qz aq;replace Ef:=yb Ef;refine B 7 ?_;refine OJ.reH (H':=[(rI,oC (ub ([]:List UInt8)++jA J).toArray 5)]) (by rw[<-mkz]) ?_;refine Vm (i:=0) (m:=1) (n:=64) (k:=64) (news:=ub xs) rfl underlying106 sizeOf5 rfl rfl rfl rfl (λ_=>rfl) zz (Rd.segN hx A0 sD zH zy) (by simp only[rf,cB,wP,PC,fJ];omega) (MG _) ?_;refine zMf ?_;refine B 4 ?_;refine PJ.reH (H':=[(rI,aV 5 xs (jA (J-64)))]) (by have:=n1f [] xs (jA J) (by rw[PC];omega);simp only[fJ,eY]at this;simp only[dA,aV];rw[this,n3f,hx]) ?_;exact alV (.inl rfl) call331 (λW hS=>MH W) results311 bD λW hS=>⟨(rI,J),rfl,hS.base A0 C7,by dsimp only;omega,by dsimp only;omega,hS.own _ A0⟩
theorem ndn(bI bR n c:Nat)(lr:Int)(t:Nat)(fr:Nat×Nat)(hn:n<=1000000)(w:World)(J:w.heap[bI]? =some (.cells (aZ (.slice (ao bR) n c) lr) t fr)):Calls prog 309 #[ptr bI 0] w (aU w (ab (n:Int))):=by
 have xO:¬Gh.no.X bI:=λh=>h;refine ei 6 func309 ntmps309 ?_;refine eA 9 (k:=?_);refine B 5 ?_;refine aL results309 rfl A0 ?_;exact congrArg ab aa
theorem ngh(bI bR n c:Nat)(lr:Int)(t:Nat)(fr:Nat×Nat)(m:Nat)(hn:n<=c)(hc:c<=1000000)(hm:c<n+m)(w:World)(J:w.heap[bI]? =some (.cells (aZ (.slice (ao bR) n c) lr) t fr)):Calls prog 269 #[ptr bI 0,ab (m:Int)] w (aU w (.tuple #[ab 0,bH])):=by
 exact zth
theorem n4k(bI bR:Nat)(xs:List UInt8)(hx:xs.length=64)(t:Nat)(w:World)(hb:w.heap[bI]? =some (oC (aZ (.slice (ao bR) 64 64) 0) t))(J:cC w bR 0 xs)(hne:bR≠bI):Calls prog 270 #[ptr bI 0,ab 32] w (mO w [bI] (λ_:Nat×Nat=>ab 64) (λq=>[(bI,oC (aZ (.slice (ao q.1) 96 q.2) 0) t),(q.1,aV 5 xs (jA (q.2-64)))]) (λq=>96<=q.2)):=by
 have jq:=(bB.1 hb).1;have an:=J.lt;refine nB (vs:=[_,_]) (Gh.lent (λk=>k∈keys [(bI,oC (aZ (.slice (ao bR) 64 64) 0) t)])) [(bI,oC (aZ (.slice (ao bR) 64 64) 0) t)] func270 rfl ntmps270 rfl (HF (fP.mem ⟨hb,trivial⟩) (EL _)) ?_;refine B 8 ?_;refine call call309 rfl rfl rfl (λW hS=>ndn bI bR 64 64 0 _ _ zz W (hS.own _ A0)) ?_;refine aF 7 bH ?_;refine B 17 ?_;refine call call269 rfl rfl rfl (λW hS=>ngh bI bR 64 64 0 _ _ 32 zz zz zz W (hS.own _ A0)) ?_;refine B 22 ?_;refine rv rfl rfl rfl (vr underlying106 rfl rfl) ?_;refine aF 15 (ab 64) ?_;refine B 8 ?_;refine rr (ab 32) (EJ rfl rfl zz zz zz) ?_;refine B 1 ?_;refine rr (ab (-32)) (rD rfl rfl zz zz) ?_;refine wX ?_;refine rr (ab 9223372036854775743) (rD rfl rfl zz zz) ?_;refine B 1 ?_;refine rr (ab 9223372036854775711) (rD rfl rfl zz zz) ?_;refine du bH ?_;refine B 3 ?_;refine eS 17 16 [] (pb:=by exact zU 9 (k:=by exact aM (X.v (RV.re (v':=.slice (ao bR) 64 64) (gy (l:=0) (h:=64) (off':=0) underlying106 sizeOf5 rfl ⟨_,_,rfl,rfl⟩ rfl zz zz zz) rfl)) zT)) (sp:=[_,_,_,_,_,_,_,_,_,_,_,_,_,_,_,some (ab 32),_]) (h:=?_);intro _ _ hk;refine QC (α:=Nat×Nat) (v:=λq=>.slice (ao q.1) 64 q.2) (bo:=λq=>(q.1,aV 5 xs (jA (q.2-64)))) (Φ:=λq=>96<=q.2) call311 rfl rfl rfl (λW hS=>nrl bR xs hx W (J.old hS A0 yw zy)) ?_
 rintro⟨bn,cn⟩ oe iA uC;dsimp only at oe iA uC;simp only[ah,and_true]at oe;simp only[bN,ne_eq,and_true]at iA;have aq:bn≠bI:=λe=>iA e.symm;refine zE ?_;refine B 2 ?_;refine zQe ?_;refine B 7 ?_;refine kT (i:=1) rfl sizeOf3 rfl rfl rfl rfl (er rfl) rfl ?_;refine B 11 ?_;refine rr (ab 96) (jw rfl rfl zz zz) ?_;refine rv rfl rfl rfl (fM (h:=96) underlying106 sizeOf5 rfl ⟨_,_,rfl,rfl⟩ aa) ?_;refine B 2 ?_;refine zQe ?_;refine B 9 ?_;refine PJ.swp ?_;exact tY (Hz:=[(bI,oC (aZ (.slice (ao bR) 64 64) 0) t)]) (H0:=[]) (bn,cn) (.inl rfl) results270 bD A0 JI rfl uC
theorem n0j(bI bR:Nat)(xs:List UInt8)(hx:xs.length=64)(zs:List UInt8)(hz:zs.length=32)(J oz cz t:Nat)(w:World)(hb:w.heap[bI]? =some (oC (aZ (.slice (ao bR) 64 64) 0) t))(KT:cC w bR 0 xs)(hne:bR≠bI)(lj:cC w J oz zs)(tO:J≠bI):Calls prog 208 #[ptr bI 0,.slice (some ⟨J,oz,none⟩) 32 cz] w (mO w [bI] (λ_:Nat×Nat=>.tuple #[ab 32,.nilIface]) (λq=>[(bI,oC (aZ (.slice (ao q.1) 96 q.2) 0) t),(q.1,aV 5 (xs++zs) (jA (q.2-96)))]) (λq=>96<=q.2)):=by
 have jq:=(bB.1 hb).1;have az:=KT.lt;have Ce:=lj.lt;refine nB (vs:=[_,_]) (Gh.lent (λk=>k∈keys [(bI,oC (aZ (.slice (ao bR) 64 64) 0) t)])) [(bI,oC (aZ (.slice (ao bR) 64 64) 0) t)] func208 rfl ntmps208 rfl (HF (fP.mem ⟨hb,trivial⟩) (EL _)) ?_;refine B 11 ?_;refine zRe ?_;refine aF 6 (ab 32) ?_;refine call call269 rfl rfl rfl (λW hS=>ngh bI bR 64 64 0 _ _ 32 zz zz zz W (hS.own _ A0)) ?_;refine aF 18 (ab 32) ?_;refine CR (Hz:=[(bI,oC (aZ (.slice (ao bR) 64 64) 0) t)]) (H0:=[]) (first:=[]) (cap:=[]) (v:=λ_:Nat×Nat=>ab 64) (Hn:=λq=>[(bI,oC (aZ (.slice (ao q.1) 96 q.2) 0) t),(q.1,aV 5 xs (jA (q.2-64)))]) (Φ:=λq=>96<=q.2) rfl rfl call270 rfl rfl rfl ⟨.inl T0,trivial⟩ (λW hS=>n4k bI bR xs hx t W (hS.own _ A0) (KT.old hS A0 yw zy) hne) ?_;rintro⟨bn,cn⟩ uC jX;dsimp only at uC jX ⊢;have oe:bn=bI\/w.heap.size<=bn:=by
  rcases jX (bn,_) A1 with h|h
  ·left;simpa[keys]using h
  right;exact h.1.1
 refine B 10 ?_;refine rv rfl rfl rfl (gy (l:=64) (h:=96) (off':=64) underlying106 sizeOf5 rfl ⟨_,_,rfl,rfl⟩ rfl aa aa XR) ?_;refine B 1 ?_;refine Vm (i:=1) (m:=1) (n:=32) (k:=32) (news:=ub zs) rfl underlying106 sizeOf5 rfl rfl rfl rfl (λ_=>rfl) zz (Rd.segN hz A0 lj yw zy) (by simp only[rf,cB,wP,PC];omega) (MG _) ?_;refine B 5 ?_;refine PJ.reH (H':=[(bI,oC (aZ (.slice (ao bn) 96 cn) 0) t),(bn,aV 5 (xs++zs) (jA (cn-96)))]) (by have:=n1f xs zs (jA (cn-64)) (by rw[PC];omega);rw[hx,n3f,hz,Nat.sub_sub]at this;simp only[eh,dA,aV];rw[this];rfl) ?_;exact tY (Hz:=[(bI,oC (aZ (.slice (ao bR) 64 64) 0) t)]) (H0:=[]) (bn,cn) (.inl rfl) results208 bD A0 JI rfl uC
theorem nan(bI bR n c:Nat)(lr:Int)(t:Nat)(fr:Nat×Nat)(hn:n<=c)(w:World)(J:w.heap[bI]? =some (.cells (aZ (.slice (ao bR) n c) lr) t fr)):Calls prog 271 #[ptr bI 0] w (aU w (.slice (ao bR) n c)):=by
 have xO:¬Gh.no.X bI:=λh=>h;refine ei 6 func271 ntmps271 ?_;refine eA 8 (k:=?_);refine rv rfl rfl rfl (gy (l:=0) (h:=n) (off':=0) underlying106 sizeOf5 rfl ⟨_,_,rfl,rfl⟩ rfl aa aa (by split<;>rfl)) ?_;refine B 4 ?_;refine aL results271 rfl A0 ?_;rfl
theorem njk(hZ:FxOk Z)(bI bR c t:Nat)(s:ByteArray)(hs0:s.size<1000)(xs:List UInt8)(hxl:xs.length<=c)(Jt:xs.length<=1000)(w:World)(hb:w.heap[bI]? =some (oC (aZ (.slice (ao bR) xs.length c) 0) t))(hR:cC w bR 0 xs)(hg:Glb w):Calls prog 209 #[ptr bI 0,.string s] w (aU w (.agg (dg (Z.tg s xs)))):=by
 have jq:=(bB.1 hb).1;have al:=hR.lt;have J:=hg.lt;obtain⟨df,lD⟩:∃df,Z.tg s xs=df:=⟨_,rfl⟩;refine eN func209 ntmps209 ?_;refine bM 3 ?_;intro b4 iW iX;refine B 8 ?_;refine call call271 rfl rfl rfl (λW hS=>nan bI bR xs.length c 0 t _ hxl W (hS.old A0 hb zH zy)) ?_;refine call call87 rfl rfl rfl (λW hS=>by rw[<-lD];exact nWh hZ s hs0 xs aa bR 0 c hxl W (hR.old hS A0 zH zy) (hg.old hS A0 zF zD)) (v:=.agg (dg df)) ?_;refine B 4 ?_;refine cA (.inl rfl) results209 bD A0 zA ?_;rw[lD];rfl
theorem nmk(bI bR t:Nat)(xs:List UInt8)(hx:xs.length=32)(f:Nat->Int)(b3 t3:Nat)(q9:Nat×Nat)(hf:ey f)(w:World)(hb:w.heap[bI]? =some (oC (aZ (.slice (ao bR) 32 64) 0) t))(xx:w.heap[bR]? =some (aV 5 xs (jA 32)))(wH:bI≠bR)(dE:w.heap[b3]? =some (.cells (dg f) t3 q9))(hne:b3≠bI)(J:b3≠bR):Calls prog 208 #[ptr bI 0,.slice (ao b3) 32 32] w (mO w [bI,bR] (λ_:Unit=>.tuple #[ab 32,.nilIface]) (λ_=>[(bI,oC (aZ (.slice (ao bR) 64 64) 0) t),(bR,aV 5 (xs++cM f) [])]) (λ_=>True)):=by
 have h:=nMg bI bR t xs (jA 32) (cM f) b3 0 32 (by rw[nI,hx];decide) (by rw[PC,hx]) (by rw[hx];decide) w (by rw[hx];exact hb) xx wH (cC.dg dE hf) hne J;simp only[cB,nI,hx,n3f]at h;exact h
theorem npk(bI bR t:Nat)(xs:List UInt8)(hx:xs.length=64)(f:Nat->Int)(b3 t3:Nat)(q9:Nat×Nat)(hf:ey f)(w:World)(hb:w.heap[bI]? =some (oC (aZ (.slice (ao bR) 64 64) 0) t))(KT:cC w bR 0 xs)(J:bR≠bI)(dE:w.heap[b3]? =some (.cells (dg f) t3 q9))(hne:b3≠bI):Calls prog 208 #[ptr bI 0,.slice (ao b3) 32 32] w (mO w [bI] (λ_:Nat×Nat=>.tuple #[ab 32,.nilIface]) (λq=>[(bI,oC (aZ (.slice (ao q.1) 96 q.2) 0) t),(q.1,aV 5 (xs++cM f) (jA (q.2-96)))]) (λq=>96<=q.2)):=
 n0j bI bR xs hx (cM f) (nI f) b3 0 32 t w hb KT J (cC.dg dE hf) hne
theorem abJ(s:ByteArray)(hs:s.size<1000)(D:Nat->Int)(hD:vX s.size (sB s)=D)(b c t:Nat)(fr:Nat×Nat)(cs:Array Value)(hc:s.size<=c)(w:World)(hb:w.heap[b]? =some (.cells cs t fr))(ho:0+s.size<=cs.size)(hm:∀i,i<s.size->cs[0+i]? =some (.int .u8 (sB s i)))(hg:Glb w):Calls prog 164 #[.slice (ao b) s.size c] w (aU w (.agg (dg D))):=by
 subst hD;obtain⟨⟨t2,J,g1⟩,t3,q9,g2⟩:=hg;exact ncg s.size (sB s) b 0 c t t2 t3 fr J q9 cs hc aa w hb ho hm g1 g2
theorem nen(bI bR t:Nat)(xs:List UInt8)(hx:xs.length=32)(f:Nat->Int)(hf:ey f)(w:World)(hb:w.heap[bI]? =some (oC (aZ (.slice (ao bR) 32 64) 0) t))(xx:w.heap[bR]? =some (aV 5 xs (jA 32)))(wH:bI≠bR):Calls prog 207 #[ptr bI 0,.agg (dg f)] w (mO w [bI,bR] (λ_:Unit=>ptr bI 0) (λ_=>[(bI,oC (aZ (.slice (ao bR) 64 64) 0) t),(bR,aV 5 (xs++cM f) [])]) (λ_=>True)):=by
 have jq:=(bB.1 hb).1;have Ep:=(bB.1 xx).1;refine nB (vs:=[_,_]) (Gh.lent (λk=>k∈keys [(bI,oC (aZ (.slice (ao bR) 32 64) 0) t),(bR,aV 5 xs (jA 32))])) [(bI,oC (aZ (.slice (ao bR) 32 64) 0) t),(bR,aV 5 xs (jA 32))] func207 rfl ntmps207 rfl (HF (fP.mem ⟨hb,xx,trivial⟩) (W4 wH)) ?_;refine cK 2 ?_;intro b3 w3 dE da gi eO fw;refine B 4 ?_;refine eA 4 (pb:=by exact zU 3 (k:=by exact aM (X.v (gd (h:=32) underlying127 sizeOf5 rfl rfl aa)) (ra rfl))) (k:=?_);refine CR (Hz:=[(bI,oC (aZ (.slice (ao bR) 32 64) 0) t),(bR,aV 5 xs (jA 32))]) (H0:=[]) (first:=[]) (cap:=[]) (v:=λ_:Unit=>.tuple #[ab 32,.nilIface]) (Hn:=λ_=>[(bI,oC (aZ (.slice (ao bR) 64 64) 0) t),(bR,aV 5 (xs++cM f) [])]) (Φ:=λ_=>True) rfl rfl call208 rfl rfl rfl ⟨.inl T0,.inl T0,trivial⟩ (λW hS=>nmk bI bR t xs hx f b3 _ _ hf W (hS.own _ A0) (hS.own _ A1) wH (hS.old A0 dE da zy) aa aa) ?_;rintro _-J;refine B 9 ?_;exact tY (Hz:=[(bI,oC (aZ (.slice (ao bR) 32 64) 0) t),(bR,aV 5 xs (jA 32))]) (H0:=[]) () (.inl rfl) results207 bD A1 JI rfl trivial
theorem nfn(bI bR t:Nat)(xs:List UInt8)(hx:xs.length=64)(f:Nat->Int)(hf:ey f)(w:World)(hb:w.heap[bI]? =some (oC (aZ (.slice (ao bR) 64 64) 0) t))(J:cC w bR 0 xs)(T6:bR≠bI):Calls prog 207 #[ptr bI 0,.agg (dg f)] w (mO w [bI] (λ_:Nat×Nat=>ptr bI 0) (λq=>[(bI,oC (aZ (.slice (ao q.1) 96 q.2) 0) t),(q.1,aV 5 (xs++cM f) (jA (q.2-96)))]) (λq=>96<=q.2)):=by
 have jq:=(bB.1 hb).1;have an:=J.lt;refine nB (vs:=[_,_]) (Gh.lent (λk=>k∈keys [(bI,oC (aZ (.slice (ao bR) 64 64) 0) t)])) [(bI,oC (aZ (.slice (ao bR) 64 64) 0) t)] func207 rfl ntmps207 rfl (HF (fP.mem ⟨hb,trivial⟩) (EL _)) ?_;refine cK 2 ?_;intro b3 w3 dE da gi eO fw;refine B 4 ?_;refine eA 4 (pb:=by exact zU 3 (k:=by exact aM (X.v (gd (h:=32) underlying127 sizeOf5 rfl rfl aa)) (ra rfl))) (k:=?_);refine CR (Hz:=[(bI,oC (aZ (.slice (ao bR) 64 64) 0) t)]) (H0:=[]) (first:=[]) (cap:=[]) (v:=λ_:Nat×Nat=>.tuple #[ab 32,.nilIface]) (Hn:=λq=>[(bI,oC (aZ (.slice (ao q.1) 96 q.2) 0) t),(q.1,aV 5 (xs++cM f) (jA (q.2-96)))]) (Φ:=λq=>96<=q.2) rfl rfl call208 rfl rfl rfl ⟨.inl T0,trivial⟩ (λW hS=>npk bI bR t xs hx f b3 _ _ hf W (hS.own _ A0) (J.old hS A1 yw zy) T6 (hS.old A0 dE da zy) aa) ?_;rintro⟨bn,cn⟩ uC jX;have oe:bn=bI\/w.heap.size<=bn:=by
  rcases jX (bn,_) A1 with h|h
  ·left;simpa[keys]using h
  right;exact h.1.2.1
 dsimp only at uC ⊢;refine B 9 ?_;exact tY (Hz:=[(bI,oC (aZ (.slice (ao bR) 64 64) 0) t)]) (H0:=[]) (bn,cn) (.inl rfl) results207 bD A1 JI rfl uC
theorem nXj(hZ:FxOk Z)(bI bR c t:Nat)(s:ByteArray)(hs0:s.size<1000)(xs:List UInt8)(hx:xs.length=96)(hc:96<=c)(w:World)(hb:w.heap[bI]? =some (oC (aZ (.slice (ao bR) 96 c) 0) t))(hR:cC w bR 0 xs)(hg:Glb w):Calls prog 209 #[ptr bI 0,.string s] w (aU w (.agg (dg (Z.tg s xs)))):=
 njk hZ bI bR c t s hs0 xs aa aa w (by rw[hx];exact hb) hR hg
theorem n2o(hZ:FxOk Z)(s:ByteArray)(hs:s.size<1000)(a b:Nat->Int)(ha:ey a)(hb:ey b)(w:World)(hg:Glb w):Calls prog 202 #[.string s,.agg (dg a),.agg (dg b)] w (dc w (λf:Nat->Int=>.agg (dg f)) (λf _=>ey f)):=by
 have bu:=hg.lt;obtain⟨D,hD⟩:∃D,vX s.size (sB s)=D:=⟨_,rfl⟩;have a6:ey D:=by rw[<-hD];exact nHn _ _
 refine eN func202 ntmps202 ?_;refine cK 2 ?_;intro b4 w4 D6 BZ Vj iW iX;refine yX ?_;intro b5 J Dg Yx bx tr tu;refine bM 1 ?_;intro b6 ky rh;refine bM 5 ?_;intro b7 kh vY;refine B 3 ?_;refine CJ.less (E':=[(0,_),(1,_),(2,_),(4,_),(5,_),(6,_),(7,_)]) zR ?_;refine CJ.chn 7 [1,2,3,5] [_,none,none,none,_,none,_] (λcv L' H'=>let jb:ad:=[(b7,oC (aZ (ak) 0) 352),(b6,oC (zK) 127)];let ew:ad:=jb;match cv with| []=>L'=[J,w4,w]/\H'=ew| [v1]=>∃(b9:Nat) (c9:Nat) (w9:World) (pV:Array Value) (vP:Nat×Nat),v1= .slice (ao b9) s.size c9/\L'=[w9,J,w4,w]/\H'=ew/\w9.heap[b9]? =some (.cells pV 5 vP)/\bN jb b9/\s.size<=c9/\0+s.size<=pV.size/\(∀i,i<s.size->pV[0+i]? =some (.int .u8 (sB s i)))| [v1,v2]=>∃(b9:Nat) (c9:Nat) (w9:World) (pV:Array Value) (vP:Nat×Nat),v1= .slice (ao b9) s.size c9/\v2= .agg (dg D)/\L'=[J,w4,w]/\H'=ew/\w9.heap[b9]? =some (.cells pV 5 vP)/\bN jb b9/\s.size<=c9/\0+s.size<=pV.size/\(∀i,i<s.size->pV[0+i]? =some (.int .u8 (sB s i)))| [v1,v2,v3]=>∃(b9:Nat) (c9:Nat) (w9:World) (pV:Array Value) (vP:Nat×Nat) (bR:Nat),v1= .slice (ao b9) s.size c9/\v2= .agg (dg D)/\v3=ptr b7 0/\L'=[J,w4,w]/\H'=[(b7,oC (aZ (.slice (ao bR) 32 64) 0) 352),(bR,aV 5 (cM D) (jA 32)),(b6,oC (zK) 127)]/\w9.heap[b9]? =some (.cells pV 5 vP)/\bN jb b9/\s.size<=c9/\0+s.size<=pV.size/\(∀i,i<s.size->pV[0+i]? =some (.int .u8 (sB s i)))/\b7≠bR/\b6≠bR/\J.heap.size<=bR/\w4.heap.size<=bR/\w.heap.size<=bR| [v1,v2,v3,v4]=>∃(b9:Nat) (c9:Nat) (w9:World) (pV:Array Value) (vP:Nat×Nat) (bR:Nat),v1= .slice (ao b9) s.size c9/\v2= .agg (dg D)/\v3=ptr b7 0/\v4=ptr b7 0/\L'=[J,w4,w]/\H'=[(b7,oC (aZ (.slice (ao bR) 64 64) 0) 352),(bR,aV 5 (cM D++cM a) []),(b6,oC (zK) 127)]/\w9.heap[b9]? =some (.cells pV 5 vP)/\bN jb b9/\s.size<=c9/\0+s.size<=pV.size/\(∀i,i<s.size->pV[0+i]? =some (.int .u8 (sB s i)))/\b7≠bR/\b6≠bR/\J.heap.size<=bR/\w4.heap.size<=bR/\w.heap.size<=bR|_=>False) (pc zL (pk (pk (pk (pc zct (pk (pc zct (pn)))))))) ?_ ?_
 ·refine ss rfl ?_ ?_
  ·intro cv L' H' hl hP F Q' hk;obtain rfl:=mF hl;obtain⟨rfl,rfl⟩:=hP;refine Ou underlying9 underlying106 underlying5 rfl rfl rfl ?_;intro b_ c_ w_ Xe az sZ pN iA xy yz ay bh FP;exact OJ.done (hk _ _ _ ⟨b_,c_,w_,Xe,az,rfl,rfl,rfl,sZ,iA,ay,bh,FP⟩)
  refine ss rfl ?_ ?_
  ·intro cv L' H' hl hP F Q' hk;obtain⟨v1,rfl⟩:=jK hl;obtain⟨b9,c9,w9,pV,vP,rfl,rfl,rfl,sA,uh,pw,sF,HM⟩:=hP;refine call (v:=.agg (dg D)) call164 rfl rfl rfl (λW hS=>abJ s hs D hD b9 c9 _ vP pV pw W (hS.old A0 sA zH uh) sF HM (hg.old hS A3 zF zD)) ?_;exact OJ.done (B7 zI (hk _ _ _ ⟨b9,c9,w9,pV,vP,rfl,rfl,rfl,rfl,sA,uh,pw,sF,HM⟩))
  refine ss rfl ?_ ?_
  ·intro cv L' H' hl hP F Q' hk;obtain⟨v1,v2,rfl⟩:=rL hl;obtain⟨b9,c9,w9,pV,vP,rfl,rfl,rfl,rfl,sA,uh,pw,sF,HM⟩:=hP;refine CR (Hz:=[(b7,oC (aZ (ak) 0) 352)]) (H0:=[(b6,oC (zK) 127)]) (first:=[]) (cap:=[]) (v:=λ_:Nat=>ptr b7 0) (Hn:=λbR=>[(b7,oC (aZ (.slice (ao bR) 32 64) 0) 352),(bR,aV 5 (cM D) (jA 32))]) (Φ:=λ_=>True) rfl rfl call207 rfl rfl rfl ⟨.inr ⟨by omega,by omega,by omega,trivial⟩,trivial⟩ (λW hS=>nlj b7 352 D a6 W (hS.own _ A0)) ?_;rintro bR-jX;refine nzd (i:=0) (j:=1) rfl rfl zz λwH=>?_;refine nzd (i:=1) (j:=2) rfl rfl zz λXf=>?_;have xx:J.heap.size<=bR/\w4.heap.size<=bR/\w.heap.size<=bR:=by
    rcases jX (bR,_) A1 with h|h
    ·exact absurd (show bR=b7 by simpa[keys]using h) (Ne.symm wH)
    obtain⟨h1,_⟩:=h;simp only[ah,and_true]at h1;exact h1
   exact OJ.done (hk _ _ _ ⟨b9,c9,w9,pV,vP,bR,rfl,rfl,rfl,rfl,rfl,sA,uh,pw,sF,HM,wH,λe=>Xf e.symm,xx⟩)
  refine ss rfl ?_ ?_
  ·intro cv L' H' hl hP F Q' hk;obtain⟨v1,v2,v3,rfl⟩:=pB hl;obtain⟨b9,c9,w9,pV,vP,bR,rfl,rfl,rfl,rfl,rfl,sA,uh,pw,sF,HM,wH,Xf,xx⟩:=hP;refine CR (Hz:=[(b7,oC (aZ (.slice (ao bR) 32 64) 0) 352),(bR,aV 5 (cM D) (jA 32))]) (H0:=[(b6,oC (zK) 127)]) (first:=[]) (cap:=[]) (v:=λ_:Unit=>ptr b7 0) (Hn:=λ_=>[(b7,oC (aZ (.slice (ao bR) 64 64) 0) 352),(bR,aV 5 (cM D++cM a) [])]) (Φ:=λ_=>True) rfl rfl call207 rfl rfl rfl ⟨.inr ⟨by omega,by omega,by omega,trivial⟩,.inr ⟨by omega,by omega,by omega,trivial⟩,trivial⟩ (λW hS=>nen b7 bR 352 (cM D) (nI D) a ha W (hS.own _ A0) (hS.own _ A1) wH) ?_;rintro _-_;exact OJ.done (hk _ _ _ ⟨b9,c9,w9,pV,vP,bR,rfl,rfl,rfl,rfl,rfl,rfl,sA,uh,pw,sF,HM,wH,Xf,xx⟩)
  exact nn
 intro cv L' H' hl hP;obtain⟨v1,v2,v3,v4,rfl⟩:=vm hl;obtain⟨b9,c9,w9,pV,vP,bR,rfl,rfl,rfl,rfl,rfl,rfl,sA,uh,pw,sF,HM,wH,Xf,xx⟩:=hP;refine CR (Hz:=[(b7,oC (aZ (.slice (ao bR) 64 64) 0) 352)]) (H0:=[(bR,aV 5 (cM D++cM a) []),(b6,oC (zK) 127)]) (first:=[]) (cap:=[]) (v:=λ_:Nat×Nat=>ptr b7 0) (Hn:=λq=>[(b7,oC (aZ (.slice (ao q.1) 96 q.2) 0) 352),(q.1,aV 5 (cM D++cM a++cM b) (jA (q.2-96)))]) (Φ:=λq=>96<=q.2) rfl rfl call207 rfl rfl rfl ⟨.inr ⟨by omega,by omega,by omega,trivial⟩,trivial⟩ (λW hS=>nfn b7 bR 352 (cM D++cM a) (by rw[cB,nI,nI]) b hb W (hS.own _ A0) (cC.row (hS.own _ A1)) (Ne.symm wH)) ?_;rintro⟨bn,cn⟩ uC jX;dsimp only at uC jX ⊢;refine nzd (i:=0) (j:=1) rfl rfl zz λhIn=>?_;have oe:J.heap.size<=bn/\w4.heap.size<=bn/\w.heap.size<=bn:=by
  rcases jX (bn,_) A1 with h|h
  ·exact absurd (show bn=b7 by simpa[keys]using h) (Ne.symm hIn)
  obtain⟨h1,_⟩:=h;simp only[ah,and_true]at h1;exact h1
 refine OJ.reH (H':=[(b7,oC (aZ (.slice (ao bn) 96 cn) 0) 352),(bn,aV 5 (cM D++cM a++cM b) (jA (cn-96))),(bR,aV 5 (cM D++cM a) []),(b6,oC (zK) 127)]) rfl ?_;obtain⟨F6,al⟩:∃F,Z.tg (⟨#[109,105,120]⟩:ByteArray) (cM D++cM a++cM b)=F:=⟨_,rfl⟩;have aq:ey F6:=by rw[<-al];exact hZ.byt _ _
 refine call (v:=.agg (dg F6)) call209 rfl rfl rfl (λW hS=>by rw[<-al];exact nXj hZ b7 bn cn 352 (⟨#[109,105,120]⟩:ByteArray) zz (cM D++cM a++cM b) (by rw[cB,cB,nI,nI,nI]) uC W (hS.own _ A0) (cC.row (hS.own _ A1)) (hg.old hS A2 zF C7)) ?_;refine B 4 ?_;exact bS (.inl rfl) results202 bD λW hS=>⟨F6,rfl,hS.base A2 zP,aq⟩
def Lab (w:World):Prop:=∃t fr,w.heap[2]? =some (.cells #[.string (⟨#[105,110,105,116]⟩:ByteArray),.string (⟨#[99,111,109,109,105,116]⟩:ByteArray),.string (⟨#[99,104,105,108,100]⟩:ByteArray)] t fr)
theorem Lab.old(h:Lab w)(hS:St G L H W)(hw:w∈L)(hX:¬G.X 2)(hH:bN H 2):Lab W:=by
 obtain⟨t,fr,h1⟩:=h;exact⟨t,fr,hS.old hw h1 hX hH⟩
theorem T7(s:ByteArray)(hs0:s.size<1000)(n:Nat)(hn:n<1000000000000)(m:Nat->Int):∃F,ey F/\∀(bb off c t t2 t3:Nat) (fr xQ q9:Nat×Nat) (cs:Array Value) (hc:n<=c) (w:World) (AR:w.heap[bb]? =some (.cells cs t fr)) (J:off+n<=cs.size) (hm:∀i,i<n->cs[off+i]? =some (.int .u8 (m i))) (hg:Glb w),Calls prog 87 #[.string s,.slice (some ⟨bb,off,none⟩) n c] w (aU w (.agg (dg F))):=
 ⟨tagged s n m,nyg _ _ _,λbb off c t _ _ fr _ _ cs hc w AR J hm hg=>by
  obtain⟨⟨t2,xQ,g1⟩,t3,q9,g2⟩:=hg;exact nqe s n m bb off c t t2 t3 fr xQ q9 cs hs0 hc hn w AR J hm g1 g2⟩
theorem nsn(hZ:FxOk Z)(f:Nat->Int)(hf:ey f)(w:World)(hg:Glb w)(hl:Lab w):Calls prog 84 #[ab 1,.agg (dg f)] w (aU w (.agg (dg (sE Z f (⟨#[99,111,109,109,105,116]⟩:ByteArray))))):=by
 have al:=hg.lt;obtain⟨tl,fl,J⟩:=hl;refine eN func84 ntmps84 ?_;refine cK 2 ?_;intro b3 w3 dE da gi eO fw;refine bM 1 ?_;intro b4 iW iX;refine B 3 ?_;refine eA 4 (pb:=by exact zU 2 (k:=by exact aM (X.v (RV.re (v':=ptr 2 1) (uX underlying283 sizeOf9 rfl rfl zz zz) rfl)) (aM (X.v (ar (v:=.string (⟨#[99,111,109,109,105,116]⟩:ByteArray)) isAgg9 rfl A1 J zH zy rfl)) (ra rfl)))) (k:=?_);refine call call142 rfl rfl rfl (λW hS=>npe hZ f hf (⟨#[99,111,109,109,105,116]⟩:ByteArray) zz W (hg.old hS A1 zF zD)) (v:=.agg (dg (sE Z f (⟨#[99,111,109,109,105,116]⟩:ByteArray)))) ?_;refine B 4 ?_;refine cA (.inl rfl) results84 bD A1 zA ?_;rfl
theorem nEi(hZ:FxOk Z)(f:Nat->Int)(hf:ey f)(w:World)(hg:Glb w):Calls prog 139 #[.agg (dg f)] w (aU w (ab (Xd Z f (⟨#[110,111,100,101]⟩:ByteArray)))):=by
 have J:=hg.lt;refine eN func139 ntmps139 ?_;refine cK 2 ?_;intro b1 w1 hb1 cN gV gb jJ;refine B 6 ?_;refine call call203 rfl rfl rfl (λW hS=>nol hZ f hf (⟨#[110,111,100,101]⟩:ByteArray) zz W (hg.old hS A1 zF zD)) ?_;refine B 4 ?_;refine aL results139 rfl A1 ?_;rfl
theorem nBj(hZ:FxOk Z)(e f:Nat->Int)(he:ey e)(hf:ey f)(w:World)(hg:Glb w)(hl:Lab w):Calls prog 137 #[.agg (dg e),.agg (dg f)] w (dc w (λf:Nat->Int=>.agg (dg f)) (λf _=>ey f)):=by
 have al:=hg.lt;refine eN func137 ntmps137 ?_;refine cK 2 ?_;intro b2 w2 dz bY ft dL dH;refine yX ?_;intro b3 w3 dE da gi eO fw;refine bM 1 ?_;intro b4 iW iX;refine B 3 ?_;refine eA 3 (pb:=by exact zU 2 (k:=by exact aM (nf call84 rfl rfl (λW hS _=>nsn hZ f hf W (hg.old hS A2 zF zD) (hl.old hS A2 zH zy)) (λ_=>rfl)) (ra rfl))) (sp:=[_,_,some (.agg (dg (sE Z f (⟨#[99,111,109,109,105,116]⟩:ByteArray))))]) (k:=?_);refine ny (α:=Nat->Int) (v:=λf=>.agg (dg f)) (Φ:=λ_ f _=>ey f) call202 rfl rfl rfl (λW hS=>n2o hZ (⟨#[101,112,111,99,104]⟩:ByteArray) zz e _ he (nvh hZ f (⟨#[99,111,109,109,105,116]⟩:ByteArray)) W (hg.old hS A2 zF zD)) ?_;rintro Wm J wm wU KY uG;refine B 4 ?_;exact bS (.inl rfl) results137 bD λW hS=>⟨J,rfl,hS.base A3 z0b,uG⟩
theorem nri(hZ:FxOk Z)(f g:Nat->Int)(hf:ey f)(a8:ey g)(w:World)(hg:Glb w):Calls prog 145 #[.agg (dg f),.agg (dg g)] w (dc w (λf:Nat->Int=>.agg (dg f)) (λf _=>ey f)):=by
 have br:=hg.lt;obtain⟨F,aq,J⟩:=T7 (⟨#[99,111,110,102,105,114,109]⟩:ByteArray) zz 64 zz (yP 32 f g);refine eN func145 ntmps145 ?_;refine cK 2 ?_;intro b2 w2 dz bY ft dL dH;refine yX ?_;intro b3 w3 dE da gi eO fw;refine bM 1 ?_;intro b4 iW iX;refine B 3 ?_;refine eA 2 (pb:=by exact aM (X.v (gd (h:=32) underlying127 sizeOf5 rfl rfl aa)) (aM (X.v (gd (h:=32) underlying33 sizeOf5 rfl rfl aa)) (ra rfl))) (k:=?_);refine rJ underlying377 sizeOf106 zeroValue106 rfl rfl rfl rfl rfl rfl rfl ?_;refine yV ?_;intro b7 w7 QD Vq bu kh vY;have aI:(nG [⟨b2,0,32,32,f⟩,⟨b3,0,32,32,g⟩]).length=64:=by simp[nG,uj.l,Eh]
 refine QC (v:=λp:Nat×Nat×List Value=>.slice (ao p.1) (nG [⟨b2,0,32,32,f⟩,⟨b3,0,32,32,g⟩]).length p.2.1) (bo:=λp:Nat×Nat×List Value=>(p.1,oC (nG [⟨b2,0,32,32,f⟩,⟨b3,0,32,32,g⟩]++p.2.2).toArray 5)) (Φ:=λp=>(nG [⟨b2,0,32,32,f⟩,⟨b3,0,32,32,g⟩]).length<=p.2.1/\p.2.2.length=p.2.1-(nG [⟨b2,0,32,32,f⟩,⟨b3,0,32,32,g⟩]).length) call165 rfl rfl rfl (λW hS=>nih [⟨b2,0,32,32,f⟩,⟨b3,0,32,32,g⟩] b7 2 _ _ zI (by rw[aI];omega) (by rw[aI];omega) W (hS.old A0 QD zH zy) (λx hx=>by
  simp only[cd,dZ,or_false]at hx;rcases hx with rfl|rfl
  ·exact⟨_,_,_,hS.old A2 dz zH zy,aj 32,λi hi=>by rw[mx];exact rF _ i hi⟩
  exact⟨_,_,_,hS.old A1 dE zH zy,aj 32,λi hi=>by rw[mx];exact rF _ i hi⟩)) ?_
 rintro⟨bc,cc,al⟩ X6 a6 ⟨Ke,Ek⟩;replace X6:=yb X6;dsimp only at Ke Ek;rw[aI]at Ke Ek;refine OJ.re (v':=.slice (ao bc) 64 cc) (by show Value.slice _ (nG _).length _=_;rw[aI]) ?_;refine OJ.reH (H':=[(bc,oC (lT 64 (yP 32 f g)++al).toArray 5),(b4,oC (zK) 33)]) (by rw[<-nSk 32 32];simp only[nG,uj.l,ec];rfl) ?_;refine call (v:=.agg (dg F)) call87 rfl rfl rfl (λW hS=>J bc 0 cc _ 0 0 _ (0,0) (0,0) _ Ke W (hS.own _ A0) (by simp only[rf,cB,Eh];omega) (λi hi=>nio _ _ _ i hi) (hg.old hS A3 zF zD)) ?_;refine B 4 ?_;exact bS (.inl rfl) results145 bD λW hS=>⟨F,rfl,hS.base A3 zP,aq⟩
theorem MJ:prog.info? 127=some Tryz.t127:=by kernel_rfl
theorem HN:jM prog 76 127 32:=⟨underlying76,Tryz.t127,.agg (ui []).toArray,MJ,rfl,rfl,rfl,by decide⟩
def jg (Z:Fx):Nat->(Nat->Int)->List Dk
 |0,_=>[]
 |n+1,f=>dk f::jg Z n (sE Z f (⟨#[112,97,116,104]⟩:ByteArray))
theorem nim(Z:Fx):∀(n:Nat) (f:Nat->Int),(jg Z n f).length=n:=
 by intro x;induction x<;>(intros;grind [jg])
theorem lJ{f:Nat->Int}(hf:ey f):ey (fq (dk f)):=by
 intro i;unfold fq;rw[List.getD_eq_getElem?_getD];cases h:(dk f).1[i]? with
 |none=>exact⟨by decide,by decide⟩
 |some x=>
  have hx:=cu h;unfold dk at hx;simp only[cd,dZ,or_false]at hx;rcases hx with rfl|rfl|rfl|rfl|rfl|rfl|rfl|rfl|rfl|rfl|rfl|rfl|rfl|rfl|rfl|rfl|rfl|rfl|rfl|rfl|rfl|rfl|rfl|rfl|rfl|rfl|rfl|rfl|rfl|rfl|rfl|rfl<;>exact hf _
theorem n3m{Z:Fx}(hZ:FxOk Z):∀(n:Nat) (f:Nat->Int),ey f->∀k∈jg Z n f,ey (fq k)
 |0,_,_,k,hk=>by cases hk
 |n+1,f,hf,k,hk=>by
  unfold jg at hk;rcases cd.1 hk with rfl|hk
  ·exact lJ hf
  exact n3m hZ n _ (nvh hZ f _) k hk
theorem Glb.blw{w':World}(h:Glb w)(hB:Below w.heap.size w w'):Glb w':=by
 have hl:=h.lt;obtain⟨⟨t,fr,h1⟩,t',Dd,h2⟩:=h;exact⟨⟨t,fr,by rw[hB.block 3 aa];exact h1⟩,t',Dd,by rw[hB.block 5 aa];exact h2⟩
section
variable {f:Nat}{fn:Func}{c:Code}(G:Gh)(H:ad)(hf:P.funcs[f]? =some fn)(hb:fn.body=some c)
include hf hb
theorem MK(hN:fn.ntmps=N)(hl:Nat.ble vs.length N=true)(hS:St G L H w)(h:CJ ⟨P,none,N⟩ c (bodyPostM (FW none) 0 P fn R) (yx 0 vs) [] G L H):Calls P f vs.toArray w R:=by
 exact zDh
theorem T8(hN:fn.ntmps=N)(hl:Nat.ble vs.length N=true)(hS:St G L H w)(h:CJ ⟨P,none,N⟩ c (bodyPost P fn R) (yx 0 vs) [] G L H):Calls P f vs.toArray w R:=by
 exact zIh
end
theorem nLn{Q:bE}{D:List Deferred}{w0:World}{ops:Array Oper}{l:List Oper}{d f ty:Nat}{pos:String}{aE:Array Edge}{g:Option (Nat×Bool)}{α:Type}{enc:α->List Value}{J:List Operand}{eL:Array Nat}{xs:List α}{v:Value->Value}(aB:eV C.P f)(hw:nr ops E g=some true)(hN:Nat.blt d C.N=true)(ha:jy E J=some vs)(hc:∀W,St Gh.no [w0] H W->Calls C.P f vs.toArray W (aD w0 enc m t xs v))(k:∀r:Rw,r.ge w0.heap.size->r.Fit m xs->OJ C ops Q l ((d,v (r.val xs.length))::E) D Gh.no [w0] (r.hp enc t xs)):OJ C ops Q (⟨some d,.call ⟨.value (.func f),J.toArray,eL⟩,ty,pos,aE,g⟩::l) E D Gh.no [w0] H:=
 nK rfl hw rfl ha zI aB λa W jz hD hF hS=>(hc W hS).mono (by
  rintro ed W' ⟨r,rfl,hb,jx,bQ,fF⟩;have h0:St Gh.no [w0] [] W':=⟨trivial,λ_ h=>h.elim,λ_ h=>h.elim,λw hw=>by simp at hw;subst hw;exact aT.of_below hb,λ_ h=>by simp at h,λ_ _ _ _ h=>by simp at h,λ_ h=>by simp at h⟩;refine k r jx bQ (a.put (some d) (v (r.val xs.length))) W' z7 z5 (hF.put _ z6) ?_;cases r with
  |nil=>exact h0
  |row b cap sp=>exact h0.adopt fF True.intro (λhv=>hv.elim))
theorem ndp{α:Type}{Q:bE}{D:List Deferred}{H0:ad}{g:Operand}{ps:Array Tmp}{assign body:Code}{f:Nat}{cap:List Value}{enc:α->List Value}{Pre Fin:List α->Prop}{RO:Nat->Prop}{c:Nat}{o o2:Obj}(hp:H0.Perm ((b,o)::(c,o2)::H))(hb:ah L b)(hc:ah L c)(ay:¬G.X b)(an:¬G.X c)(hg:ev E g=some (.func (.func f) #[] cap.toArray))(aB:eV P f)(qE:∀W W2,St G L H W->W.heap[b]? =some o->W.heap[c]? =some o2->Below W.heap.size W W2->uS P f cap enc Pre Fin (λk=>k=b\/k=c) RO W2)(pE:Xh G L H RO)(gW:∀x,(enc x).length=ps.size)(Inv:List α->Gh->ad->Prop)(eC:Code->Gh->ad->Prop)(h0:Inv [] G H)(HO:∀p∈ps.toList,p<N)(round:Xi P N ps assign body E G H L enc (λk=>k=b\/k=c) (λp _ _=>Pre p) Inv eC)(done:RgD P N Q E D L Fin Inv)(stop:Xj P N Q E D L eC):CJ ⟨P,none,N⟩ (.rangeFunc g ps assign body) Q E D G L H0:=by
 refine ncm (B:=λW'=>W'.heap[b]? =some o/\W'.heap[c]? =some o2) (λW hS=>?_) hg aB (λW W2 h h1 hB=>qE W W2 h h1.1 h1.2 hB) pE gW Inv eC h0 HO round done stop;have J:=hS.perm hp;have Vi:=J.own (b,o) zI;have al:=J.own (c,o2) zI;have hnd:=(vN _).1 J.nodup;simp only[dP,List.nodup_cons,cd,not_or]at hnd;refine⟨(J.drop hb).drop hc,⟨Vi,al⟩,λk hk=>?_⟩;rcases hk with rfl|rfl
 ·exact⟨(bB.1 Vi).1,hb,hnd.1.2,J.apart (k,o) zI,ay⟩
 exact⟨(bB.1 al).1,hc,hnd.2.1,J.apart (k,o2) zI,an⟩
theorem HP(k:Dk):dg (fq k)=(cZ k).toArray:=by
 conv=>rhs;rw[<-DA k]
 rfl
theorem nTp(hZ:FxOk Z)(f:Nat->Int)(hf:ey f)(bk bl:Nat)(ay:6<=bk)(aq:6<=bl)(hne:bl≠bk)(W:World)(hg:Glb W)(jq:W.heap[bl]? =some (oC #[ab 0] 3))(an:W.heap[bk]? =some (oC (dg f) 127)):uS prog 266 [ptr bl 0,ptr bk 0] (λk:Dk=>[.agg (dg (fq k))]) (C2 (jg Z 10 f)) (Is (jg Z 10 f)) (λk=>k=bl\/k=bk) (λk=>k<6) W:=by
 intro l M I X0 hM hI hX hy h0;have a6:=hg.lt;refine nB (dF hM (λ_=>False) (hI [] _)) [(bl,oC #[ab 0] 3),(bk,oC (dg f) 127)] (vs:=[_,_,_]) func266 rfl ntmps266 rfl (Oi hM (hI [] _) h0 (by intro p hp;simp only[cd,dZ,or_false]at hp;rcases hp with rfl|rfl;(exact jq);exact an) (W4 hne) (by intro p hp;simp only[cd,dZ,or_false]at hp;rcases hp with rfl|rfl;(exact .inl rfl);exact .inr rfl)) ?_;refine B 1 ?_;refine CJ.loop (α:=(List Dk×Nat)×(Nat->Int)×aJ) (λp=>[(0,yv l),(1,ptr bl 0),(2,ptr bk 0)]) (λp=>[(bl,oC #[ab (p.1.2:Int)] 3),(bk,oC (dg p.2.1) 127)]) (λp=>[W]) (λp=>dF hM p.2.2 (hI p.1.1 p.2.2)) (λp=>p.1.1++jg Z (10-p.1.2) p.2.1=jg Z 10 f/\p.1.2<=10/\ey p.2.1/\∀k,p.2.2 k->W.heap.size<=k) (λp=>10-p.1.2) (([],0),f,λ_=>False) ⟨rfl,cO _,hf,λ_ h=>h.elim⟩ zR rfl rfl zI ?_;rintro⟨⟨pre,j⟩,g,V⟩ ⟨lU,hj,J,hV⟩;dsimp only at lU hj J hV ⊢;refine aG 7 ?_ ?_
 ·intro av;refine aF 8 (.agg (dg g)) ?_;refine BW (λV=>hI (pre++[(dk g)]) V) hX hV zI rfl rfl rfl rfl (λW1 uT lM=>hy (pre) ((dk g)) V W1 ⟨jg Z (10-(j+1)) (sE Z g (⟨#[112,97,116,104]⟩:ByteArray)),by rw[<-lU,show 10-j=(10-(j+1))+1 from by omega,iY];rfl⟩ uT lM) ?_ ?_
  ·intro V hV;refine aF 7 (.agg (dg g)) ?_;refine call call142 rfl rfl rfl (λW2 hS=>npe hZ g J (⟨#[112,97,116,104]⟩:ByteArray) zz W2 (hg.old hS A0 (λk hk h=>by rcases h with h|h;(exact(hM _ h).2.2 hk);(have:=hV _ h;omega)) zP)) ?_;refine aF 6 (ab ((j+1:Nat):Int)) ?_;refine zUe ?_;refine B 1 ?_;refine ag ((pre++[dk g],j+1),sE Z g (⟨#[112,97,116,104]⟩:ByteArray),V) ⟨by dsimp only;rw[<-lU,show 10-j=(10-(j+1))+1 from by omega,iY];rfl,by dsimp only;omega,nvh hZ g _,hV⟩
  intro V hV;refine B 10 ?_;exact BX (.inl rfl) results266 A0 hV (by intro k hk hx;simp only[dA,eh,dP,fu,cd,dZ,or_false]at hx;exact hx) (λA hA=>.inr hA)
 intro av;refine B 4 ?_;exact BX (.inr rfl) results266 A0 hV (by intro k hk hx;simp only[dA,eh,dP,fu,cd,dZ,or_false]at hx;exact hx) (λA hA=>.inl ⟨pre,by rw[<-lU,show 10-j=0 from by omega];exact(ec pre).symm,hA⟩)
theorem nJi(f:Nat->Int)(w:World):Calls prog 201 #[.agg (dg f),ab 0] w (mO w [] (λp:Nat×Nat=>.func (.func 266) #[] #[ptr p.1 0,ptr p.2 0]) (λp=>[(p.1,oC #[ab 0] 3),(p.2,oC (dg f) 127)]) (λ_=>True)):=by
 refine nB (vs:=[_,_]) (Gh.lent (λk=>k∈keys [])) [] func201 rfl ntmps201 rfl (HF (fP.mem (H:=[]) True.intro) (by simp[lS])) ?_;refine OI ?_;refine yW ?_;intro b2 J dH;refine Kk rfl rfl rfl ?_;refine yW ?_;intro b3 eO fw;refine B 10 ?_;exact tY (Hz:=[]) (H0:=[]) (b3,b2) (.inl rfl) results201 bD A0 JI rfl trivial
theorem nhn(hZ:FxOk Z)(f:Nat->Int)(hf:ey f)(bk bl:Nat)(w0 w:World)(Mf:St Gh.no [w0] [(bl,oC #[ab 0] 3),(bk,oC (dg f) 127)] w)(HQ:w0.heap.size<=bk)(zj:w0.heap.size<=bl)(hg:Glb w0):Calls prog 265 #[ak,.func (.func 266) #[] #[ptr bl 0,ptr bk 0]] w (aD w0 cZ 32 127 (jg Z 10 f) id):=by
 have bu:=hg.lt;have hne:bl≠bk:=λe=>by have:=Mf.nodup 0 1 _ _ rfl rfl e;omega
 refine MK Gh.no [(bl,oC #[ab 0] 3),(bk,oC (dg f) 127)] (vs:=[_,_]) func265 rfl ntmps265 rfl Mf ?_;refine OI ?_;refine yW ?_;intro b2 dL dH;refine B 10 ?_;refine ndp (f:=266) (cap:=[ptr bl 0,ptr bk 0]) (α:=Dk) (enc:=(λk:Dk=>[.agg (dg (fq k))])) (Pre:=C2 (jg Z 10 f)) (Fin:=Is (jg Z 10 f)) (RO:=λk=>k<6) (b:=bl) (c:=bk) (o:=oC #[ab 0] 3) (o2:=oC (dg f) 127) (H:=[(b2,oC #[ak] 76)]) (List.perm_append_comm (l₁:=[_]) (l₂:=[_,_])) ⟨zj,trivial⟩ ⟨HQ,trivial⟩ zH zH rfl call266 (λW W2 hS jJ dH hB=>nTp hZ f hf bk bl aa aa hne W2 ((hg.old hS A0 zF C7).blw hB) (by rw[hB.block bl (bB.1 jJ).1];exact jJ) (by rw[hB.block bk (bB.1 dH).1];exact dH)) (λW hS k hk=>⟨by have h2:=(hS.links w0 A0).size;omega,by simp only[dP,fu,cd,dZ,or_false];omega,λh=>h⟩) (λ_=>rfl) (λpre G' Hc=>G'=Gh.no/\∃r:Rw,r.Fr Gh.no [w0]/\r.Fit 32 pre/\Hc=[(b2,oC #[r.val pre.length] 76)]++(r.hp cZ 127 pre++[])) (λ_ _ _=>False) ⟨rfl,.nil,True.intro,rfl,rfl⟩ zz ?_ ?_ ?_
 ·rintro pre x G' Hc l Dk rec W1 M V Wy qd xN eM ⟨rfl,r,aK,ae,rfl⟩ J mw Qs yG dO DZ;simp only[ah]at J yG;have bK:r.ge w0.heap.size:=Rw.ge_of aK A0;have gq:=eM.length_le;rw[nim]at gq;simp only[cB,dI,fJ]at gq;have EM:∀p∈r.hp cZ 127 pre,M p.1\/V p.1:=λp hp=>dO.loc.h p VF;refine bM 2 ?_;intro b5 tr tu;refine B 2 ?_;refine PJ.reH (H':=book ([(b5,oC (dg (fq x)) 127)]++([(b2,oC #[r.val pre.length] 76)]++(r.hp cZ 127 pre++[]))) l rec (jj Dk)) rfl ?_;refine Om qd ?_;refine aF 3 (.agg (dg (fq x))) ?_;refine kp underlying76 sizeOf127 zeroValue127 rfl rfl rfl rfl rfl rfl rfl ?_;refine yW ?_;intro fN lq oj;refine jV (r:=r) (xs:=pre) (zs:=[(dk (fq x))]) (enc:=cZ) (m:=32) (H0:=[(fN,oC (dg (fq x)) 127),(b5,oC (dg (fq x)) 127),(b2,oC #[r.val pre.length] 76)]) (H1:=(l,.loop {rec with state:=.busy})::jj Dk) zW HN yj rfl rfl rfl rfl (ck.one (z:=dk (fq x)) yj WG underlying76 (bF.own (i:=0) rfl)) ae (Rw.Fr_ext EM) zI za ?_;intro gD pF pG jL lu;replace jL:=yb jL;rw[DA]at lu ⊢;refine B 3 ?_;refine uI ?_;refine JY (G2:=Gh.no) (Hc2:=[(b2,oC #[(Rw.row gD pF pG).val (pre++[x]).length] 76)]++((Rw.row gD pF pG).hp cZ 127 (pre++[x])++[])) dO mw ⟨λ_ h=>h,λ_ h=>.inl h,λ_ h=>.inl h,(VG rfl (jL.imp id (λh=>h.1))),zTc⟩ (JZ qd xN) ?_
  exact zlh
 ·rintro qz l Dk rec G' Hc rfl J mw ⟨rfl,r,aK,ae,rfl⟩;replace J:=yb J;have bK:r.ge w0.heap.size:=Rw.ge_of aK A0;refine Q3 λWd yF=>?_;have oe:=VH yF;refine B 9 ?_;have hq:=λ(k:Nat)=>Rw.mem_ge (enc:=cZ) (t:=127) (xs:=jg Z 10 f) (k:=k) bK;refine PJ.reH (H':=(b2,oC #[r.val (jg Z 10 f).length] 76)::(r.hp cZ 127 (jg Z 10 f)++(l,.loop rec)::jj Dk)) VI ?_;refine B9 (.inl rfl) zI λa W H' hF hS eX aX=>?_;refine⟨_,by rw[results_tmp results265];exact congrArg (λu=>Result.ok u W) (hF 4 _ rfl),r,rfl,?_,bK,ae,?_⟩
  ·refine(hS.links w0 A0).below λk hk hx=>?_;exact YA
  cases r with
  |nil=>trivial
  |row b cap sp=>exact hS.own _ (eX (b,bj cZ 127 (jg Z 10 f) sp) o8 (oe _ o8).1)
 exact Qt
theorem nAp(hZ:FxOk Z)(f:Nat->Int)(hf:ey f)(bk bl:Nat)(w0 w:World)(Mf:St Gh.no [w0] [(bl,oC #[ab 0] 3),(bk,oC (dg f) 127)] w)(HQ:w0.heap.size<=bk)(J:w0.heap.size<=bl)(hg:Glb w0):Calls prog 200 #[.func (.func 266) #[] #[ptr bl 0,ptr bk 0]] w (aD w0 cZ 32 127 (jg Z 10 f) id):=by
 refine T8 Gh.no [(bl,oC #[ab 0] 3),(bk,oC (dg f) 127)] (vs:=[_]) func200 rfl ntmps200 rfl Mf ?_;refine B 8 ?_;refine nLn (enc:=cZ) (m:=32) (t:=127) (xs:=jg Z 10 f) (v:=id) call265 rfl rfl rfl (λW hS=>nhn hZ f hf bk bl w0 W hS HQ J hg) ?_;intro r bK ae;refine B 4 ?_;exact bS (.inl rfl) results200 bD λW hS=>⟨r,rfl,hS.base A0 (Rw.over bK),bK,ae,by cases r with|nil=>exact True.intro|row b cap sp=>exact hS.own _ A0⟩
theorem nUi(hZ:FxOk Z)(f:Nat->Int)(hf:ey f)(w:World)(hg:Glb w):Calls prog 136 #[.agg (dg f)] w (aD w cZ 32 127 (jg Z 10 f) id):=by
 refine eN func136 ntmps136 ?_;refine OI ?_;refine yW ?_;intro b1 gb jJ;refine B 6 ?_;refine CR (Hz:=[]) (H0:=[(b1,oC (dg f) 127)]) (first:=[]) (cap:=[]) (v:=λp:Nat×Nat=>.func (.func 266) #[] #[ptr p.1 0,ptr p.2 0]) (Hn:=λp=>[(p.1,oC #[ab 0] 3),(p.2,oC (dg f) 127)]) (Φ:=λ_=>True) rfl rfl call201 rfl rfl rfl True.intro (λW hS=>nJi f W) ?_;rintro⟨bl,bk⟩-J;dsimp only at J ⊢;have zj:w.heap.size<=bl:=by
  rcases J (bl,_) A0 with h|h
  ·exact absurd h (by simp[keys])
  exact h.1.1
 have HQ:w.heap.size<=bk:=by
  rcases J (bk,_) A1 with h|h
  ·exact absurd h (by simp[keys])
  exact h.1.1
 refine OJ.dropAt (i:=2) rfl zB ?_;refine OJ.reH (H':=[(bl,oC #[ab 0] 3),(bk,oC (dg f) 127)]) rfl ?_;refine nLn (enc:=cZ) (m:=32) (t:=127) (xs:=jg Z 10 f) (v:=id) call200 rfl rfl rfl (λW hS=>nAp hZ f hf bk bl w W hS HQ zj hg) ?_;intro r bK ae;refine B 4 ?_;exact bS (.inl rfl) results136 bD λW hS=>⟨r,rfl,hS.base A0 (Rw.over bK),bK,ae,by cases r with|nil=>exact True.intro|row b cap sp=>exact hS.own _ A0⟩
theorem T9{g:Gp}(h:iB Z g c=0):c.epoch=g.epoch+1:=by grind [iB,lG]
theorem HR:oZ 512=[512,256,128,64,32,16,8,4,2]:=by simp_all[VE,Yy]
theorem abL:ki 0=[513,257,129,65,33,17,9,5,3]:=by unfold ki;rw[show(512+(0:Int)).toNat=512 from rfl,HR];rfl
theorem abM:dx 0=[256,128,64,32,16,8,4,2,1]:=by unfold dx;rw[show(512+(0:Int)).toNat=512 from rfl,HR];rfl
def vQ (m:Nat):Prop:=∀e,m≠2^e
theorem vQ.of(a:Nat)(h:2^a<m)(h2:m<2^(a+1)):vQ m:=λe he=>by
 subst he;have h3:=(Nat.pow_lt_pow_iff_right (by decide:1<2)).1 h;have h4:=(Nat.pow_lt_pow_iff_right (by decide:1<2)).1 h2;omega
theorem vQ.l(h:vQ m)(h0:1<=m):vQ (2*m):=λe he=>by
 cases e with
 |zero=>simp at he;omega
 |succ e=>rw[Nat.pow_succ]at he;exact h e aa
theorem vQ.r(h0:1<=m):vQ (2*m+1):=λe he=>by
 cases e with
 |zero=>simp at he;omega
 |succ e=>rw[Nat.pow_succ]at he;omega
theorem nyi(p:Int):∀(k m:Nat),1<=m->vQ m->fX [(512,p)] k (m:Int)=[]
 |0,_,_,_=>rfl
 |k+1,m,h1,h2=>by
  have hn:¬(aH [((512:Int),p)] (m:Int)).isSome=true:=by
   rw[DM];have:¬(512:Int)=(m:Int):=λe=>h2 9 aa;rw[if_neg this,nje.2 zI];simp
  by_cases h3:(512:Int)<=(m:Int)
  ·exact ndh hn h3
  rw[njf hn h3];have e1:=nyi p k (2*m) aa (h2.l h1);have e2:=nyi p k (2*m+1) aa (vQ.r h1);rw[show(2*(m:Int))=((2*m:Nat):Int) by omega,show(((2*m:Nat):Int)+1)=((2*m+1:Nat):Int) by omega,e1,e2];rfl
theorem HS{p:Int}(hp:eo p):jF [⟨512,p⟩]=0:=by
 refine n6l λi x hx=>?_;cases i with
 |succ i=>simp at hx
 |zero=>
  simp only[Ka,wK]at hx;subst hx;refine⟨by show(1:Int)<=512;decide,by show(512:Int)<=1023;decide,λy h=>by omega,hp,?_⟩;have hm:eu [⟨512,p⟩]=[0]:=by unfold eu mV eZ;simp[Go.Lib.compact];rfl
  rw[hm];show aH (wT [0]) 512=some true;show aH (Rj [] 0) 512=some true;unfold Rj;rw[abM];simp[Dp,PD]
theorem nlm(n:Int):iw [] n=[]:=rfl
theorem ML(d:Int):mW [] d=[]:=by
 unfold mW;rw[nlm];induction dx d with
 |nil=>rfl
 |cons x l ih=>rw[List.foldl_cons,nlm,ih]
theorem tr0:jF []=0:=n6l λi x hx=>by simp at hx
theorem PE(hk:ch.kind=1)(hd:ch.dev=0)(hp:eo ch.pub):aQ [] [ch]=[⟨512,ch.pub⟩]:=by
 show tH [] ch=_;unfold tH;rw[if_neg aa];unfold lx;rw[if_pos ⟨tr0,hp⟩,hd];show nU (dQ (mW [] 0) 512 ch.pub)=_;rw[ML];show nU [(512,ch.pub)]=_;unfold nU eZ;simp[DM]
theorem al0{p:Int}(hp:eo p):lB [⟨512,p⟩] 0=[]:=by
 unfold lB qJ;rw[List.flatMap_eq_nil_iff];intro t J;have h9:=uu.1 J;have key:∀m:Nat,1<=m->m<=1023->vQ m->pd [⟨512,p⟩] (m:Int)=[]:=λm h1 h2 h3=>by
  unfold pd;rw[if_pos ⟨HS hp,by omega,by omega⟩];exact nyi p 10 m h1 h3
 rw[abL];have:pd [⟨512,p⟩] ((([513,257,129,65,33,17,9,5,3]:List Int)[t]?).getD 0)=[]:=by
  rcases(show t=0\/t=1\/t=2\/t=3\/t=4\/t=5\/t=6\/t=7\/t=8 by omega)with rfl|rfl|rfl|rfl|rfl|rfl|rfl|rfl|rfl
  ·exact key 513 zz zz (vQ.of 9 zz zz)
  ·exact key 257 zz zz (vQ.of 8 zz zz)
  ·exact key 129 zz zz (vQ.of 7 zz zz)
  ·exact key 65 zz zz (vQ.of 6 zz zz)
  ·exact key 33 zz zz (vQ.of 5 zz zz)
  ·exact key 17 zz zz (vQ.of 4 zz zz)
  ·exact key 9 zz zz (vQ.of 3 zz zz)
  ·exact key 5 zz zz (vQ.of 2 zz zz)
  exact key 3 zz zz (vQ.of 1 zz zz)
 rw[this];rfl
theorem nLl(f:Nat->Int):iD f f=true:=EF f
abbrev gZ (f:Int):Gp:=⟨f,0,λ_=>0,[],[]⟩
theorem Ua{f:Int}(hf:qI f):ef (gZ f)=true:=by
 refine zm.2 ⟨⟨hf,by show(0:Int)<=0;decide,by show(0:Int)<=1099511627776;decide,tr0⟩,?_,?_,rfl⟩
 ·rintro⟨_,h|h⟩
  ·exact absurd h (by show ¬0<0;decide)
  rw[nLl]at h;cases h
 unfold eu mV eZ;simp[Go.Lib.compact];rfl
structure HT (ch:Ch):Prop where
 k:ch.kind=1
 d:ch.dev=0
 p:eo ch.pub
 v:eo ch.ver
 c:ch.cut=0
theorem abO(h:HT ch):jO [ch]=true:=by
 refine OS.2 ⟨λi x hi hx=>?_,by show 1<=64;decide⟩;cases i with
 |succ i=>simp at hx
 |zero=>
  simp only[Ka,wK]at hx;subst hx;exact⟨⟨.inl ⟨h.k,⟨h.p,h.v⟩,h.c⟩,by rw[h.d];exact⟨by decide,by decide⟩⟩,rfl⟩
theorem mb0(d:Int):gF [] d=false:=by unfold gF;simp
theorem al2{f:Int}(h:HT ch):lX (gZ f) 0 [ch]=true:=by
 unfold lX zp;simp[mb0,h.k,h.d]
theorem Ub{f:Int}(hf:qI f)(h:HT ch):fj (gZ f) 0 [ch]=0/\gG (gZ f) 0 [ch]=[]:=by
 have h1:xY (gZ f) 0 [ch]=true:=by unfold xY;rw[abO h,al2 h];rfl
 constructor
 ·unfold fj;rw[if_pos (Ua hf),if_pos h1]
 unfold gG;rw[if_pos ⟨Ua hf,h1⟩,PE h.k h.d h.p];exact al0 h.p
theorem abP(h:HT ch):oH 0 [ch]=[]:=by
 unfold oH;have:[ch].filter (λx=> !rZ 0 x)=[]:=by simp[rZ,h.d]
 rw[this];exact ntm
structure oS (Z:Fx) (fo:Int) (ch:Ch) (c:Cm):Prop where
 h:HT ch
 v:ch.ver=(Z.ge 4 300).1
 f:c.folder=fo
 e:c.epoch=1
 p:c.par=λ_=>0
 a:c.author=0
 ct:c.chs=[ch]
 pl:c.path.length=10
 po:∀x∈c.path,eo x
 b:c.bxs=[]
 w:c.wes=[]
 sr:c.sr=rO Z 300 (cM (oF Z c))
 ss:c.ss=wQ Z 300 (cM (oF Z c))
theorem oS.next(hZ:FxOk Z){f:Int}(hf:qI f)(h:oS Z f ch c):iB Z (gZ f) c=0:=by
 have kD:sT c=0:=by
  unfold sT;rw[if_pos];exact⟨by rw[h.f];exact hf,by rw[h.e];decide,by rw[h.e];decide,by rw[h.a];exact⟨by decide,by decide⟩,by rw[h.ct];exact abO h.h,h.pl,by rw[h.b];decide,by rw[h.w];decide,λi x hx=>h.po x (cu hx),λi x hx=>by rw[h.b]at hx;simp at hx,λi x hx=>by rw[h.w]at hx;simp at hx⟩
 have bQ:lG (gZ f) c=true:=by unfold lG;rw[h.f,h.e,h.p];simp[nLl]
 have hn:=Ub hf h.h;have hb:vx (gZ f) c=true:=by unfold vx;rw[h.b,h.a,h.ct,hn.2];rfl
 have hw:xa c=true:=by unfold xa;rw[h.w,h.a,h.ct,abP h.h];rfl
 have J:Ae Z (gZ f) c=true:=by
  unfold Ae lE;rw[if_neg (by rw[mb0];decide),h.ct,h.sr,h.ss];show pD Z ch.ver _ _ _=true;rw[h.v];exact ME hZ zz _
 have hr:oI (aQ [] [ch]) 0=0:=by
  rw[PE h.h.k h.h.d h.h.p];unfold oI;rw[if_pos (HS h.h.p),if_pos];show(aH (dq [⟨512,ch.pub⟩]) 512).isSome=true;have:dq [⟨512,ch.pub⟩]=[(512,ch.pub)]:=rfl;rw[this,DM,if_pos rfl];rfl
 unfold iB;rw[if_pos (Ua hf),if_pos kD,if_pos bQ,h.a,h.ct,if_pos hn.1,if_pos hb,if_pos hw,if_pos J];exact hr
theorem abQ(Z:Fx)(c:Cm):bP Z [c] 1=[(dk (aC Z c),0)]:=by
 show(if dk (aC Z c)∈([]:List (Dk×Int)).map (·.1)then[]else[]++[(dk (aC Z c),((0:Nat):Int))])=_;rw[if_neg zI];rfl
theorem al3(hZ:FxOk Z)(hi:qI fo.id)(h:oS Z fo.id ch c)(hf:dk fo.first=dk (aC Z c)):gJ Z [c] fo=[(0,jY Z (gZ fo.id) c)]:=by
 have h1:LV Z [c] fo=some 0:=by
  unfold LV;rw[show([c]:List Cm).length=1 from rfl,abQ,hf];simp[pO]
 have h2:sV Z [c] fo=some 0:=by
  unfold sV;rw[h1];show(if iB Z (gZ fo.id) c=0 then some 0 else none)=some 0;rw[if_pos (h.next hZ hi)]
 have h3:yn Z [c] (0,jY Z (gZ fo.id) c)=[]:=by
  unfold yn Bf wv;rw[show([c]:List Cm).length=1 from rfl,abQ];have:Gg Z [c] (jY Z (gZ fo.id) c) 0=false:=by
   show(iD c.par _&&decide (iB Z (jY Z (gZ fo.id) c) c=0))=false;have hne:¬iB Z (jY Z (gZ fo.id) c) c=0:=λe=>by
    have h5:=T9 e;have J:(jY Z (gZ fo.id) c).epoch=c.epoch:=rfl;omega
   rw[decide_eq_false hne,Bool.and_false]
  simp[this]
 unfold gJ;rw[h2];show[(0,jY Z (gZ fo.id) c)]++sY Z [c] 1 ([]++yn Z [c] (0,jY Z (gZ fo.id) c))=_;rw[h3];rfl
theorem abR(hZ:FxOk Z)(hi:qI fo.id)(h:oS Z fo.id ch c)(hf:dk fo.first=dk (aC Z c)):eR Z [c] [fo]=[(c,true,aQ [] c.chs,jY Z (gZ fo.id) c)]:=by
 show Ao Z [c] fo++[]=_;unfold Ao;rw[al3 hZ hi h hf];rfl
theorem D1(hZ:FxOk Z)(hi:qI fo.id)(h:oS Z fo.id ch c)(hf:dk fo.first=dk (aC Z c)):ml Z [c] [fo] [] []=kr (c,true,aQ [] c.chs,jY Z (gZ fo.id) c) 10++[([nj (dk (aC Z c)) 9],aP (dk (aC Z c)))]:=by
 unfold ml;rw[abR hZ hi h hf];show(gK _++[])++[]++[]=_;unfold gK;rw[show(c,true,aQ [] c.chs,jY Z (gZ fo.id) c).1=c from rfl,h.b,h.w,h.pl];simp[Me];exact⟨rfl,rfl⟩
theorem Uc{p:Ap}:∀{n:Nat} {d:List Se×Se},d∈kr p n↔∃k y,k<n/\p.1.path[k]? =some y/\d∈Bi p k y:=
 by intro x;induction x<;>(intros;grind [kr])
theorem Ud(p:Ap):∀d∈gK p,d.1≠ []:=by grind [gK,yo,Uc,Bi,Me,Bj]
theorem nto{cs:List Cm}{fos:List Fo}{gs:List Gr}{xs:List Ir}:∀d∈ml Z cs fos gs xs,d.1≠ []:=by
 intro d hd;unfold ml at hd;rcases aY.1 hd with hd|hd
 ·rcases aY.1 hd with hd|hd
  ·obtain⟨p,_,hd⟩:=uL.1 hd;exact Ud p d hd
  obtain⟨g,_,hd⟩:=uL.1 hd;unfold xu at hd;split at hd
  ·split at hd
   ·obtain⟨o,_,hd⟩:=uL.1 hd;unfold CP at hd;split at hd
    ·simp at hd;subst hd;simp
    simp at hd
   simp at hd
  simp at hd
 all_goals grind [Ar]
theorem Au.none{D:List (List Se×Se)}(hD:∀d∈D,d.1≠ []){s:Se}(h:Au D [] s):False:=by
 induction h with
 |base h=>simp at h
 |@step d h1 _ ih=>
  cases hd:d.1 with
  |nil=>exact hD d h1 hd
  |cons f l=>exact ih f (by rw[hd];exact .head _)
theorem mM.nil{D:List (List Se×Se)}(hD:∀d∈D,d.1≠ [])(h:mM D [] lim ls):ls=[]:=by
 cases ls with
 |nil=>rfl
 |cons s l=>exact((h.iff s).1 A0).none hD |>.elim
theorem MM(xs:List Se):∀j,(mL xs j).Sublist (xs.take j):=
 by intro x;induction x<;>(intros;grind [mL,np])
theorem MN(xs:List Se):(gR xs).Pairwise (λx y=>mh x y<=0):=by
 rw[List.pairwise_iff_getElem];intro i j hi hj J;exact nbi CO.ord xs i j _ _ J (ll hi) (ll hj)
theorem nJj(xs:List Se):(cI xs).Pairwise (λx y=>mh x y<=0):=by
 have h:=MM (gR xs) (gR xs).length;rw[ur]at h;exact(MN xs).sublist h
theorem nNj:∀{a b:List Se},a.Perm b->a.Pairwise (λx y=>mh x y<=0)->b.Pairwise (λx y=>mh x y<=0)->(∀s∈a,SeB s)->a=b
 | [],b,hp,_,_,_=>(List.Perm.nil_eq hp)
 |x::a,[],hp,_,_,_=>absurd hp.length_eq zI
 |x::a,y::b,hp,ha,hb,hB=>by
  have J:x=y:=by
   have h1:=hp.mem_iff.1 (List.mem_cons_self (a:=x) (l:=a));have h2:=hp.mem_iff.2 (List.mem_cons_self (a:=y) (l:=b));rcases cd.1 h1 with h1|h1
   ·exact h1
   rcases cd.1 h2 with h2|h2
   ·exact h2.symm
   have h3:=(List.pairwise_cons.1 ha).1 y h2;have h4:=(List.pairwise_cons.1 hb).1 x h1;have h5:=CO.ord.anti x y;exact nJk (hB x A0) (hB y (.tail _ h2)) aa
  subst J;rw[nNj ((List.perm_cons x).1 hp) (List.pairwise_cons.1 ha).2 (List.pairwise_cons.1 hb).2 λs hs=>hB s (.tail _ hs)]
theorem nyj{a b:List Se}(hB:∀s∈a,SeB s)(h:∀s,s∈a↔s∈b):cI a=cI b:=
 nNj ((List.perm_ext_iff_of_nodup (W6 hB) (W6 λs J=>hB s ((h s).2 J))).2 λs=>by rw[xm,xm,h s]) (nJj a) (nJj b) λs J=>hB s ((xm a s).1 J)
theorem nvm{a:List Se}(hB:∀s∈a,SeB s)(hn:a.Nodup)(hp:a.Pairwise (λx y=>mh x y<=0)):cI a=a:=
 nNj ((List.perm_ext_iff_of_nodup (W6 hB) hn).2 λs=>xm a s) (nJj a) hp λs J=>hB s ((xm a s).1 J)
theorem MO{a:List Se}(hB:∀s∈a,SeB s):cI (cI a)=cI a:=by grind [nyj,xm]
theorem PF:ey (fq (dk λ_=>0)):=lJ λ_=>⟨by decide,by decide⟩
theorem noj(p:Int):SeB (aN p):=PF
theorem nDf{d:Dk}(h:ey (fq d))(l:Int):SeB (nj d l):=h
theorem nfh{d:Dk}(h:ey (fq d)):SeB (aP d):=h
structure vR (Z:Fx) (r:eF) (c:Cm) (ch:Ch) (fo:Fo):Prop where
 os:r.os=[(0,ch.pub)]
 cs:r.cs=[c]
 fos:r.fos=[fo]
 gs:r.gs=[]
 xs:r.xs=[]
 i:fo.id=6
 ok:oS Z 6 ch c
 f:dk fo.first=dk (aC Z c)
theorem vR.pls(hZ:FxOk Z){r:eF}(h:vR Z r c ch fo):eR Z r.cs r.fos=[(c,true,aQ [] c.chs,jY Z (gZ fo.id) c)]:=by
 rw[h.cs,h.fos];exact abR hZ (by rw[h.i];exact⟨by decide,by decide⟩) (by rw[h.i];exact h.ok) h.f
theorem vR.D(hZ:FxOk Z){r:eF}(h:vR Z r c ch fo):r.D Z=kr (c,true,aQ [] c.chs,jY Z (gZ fo.id) c) 10++[([nj (dk (aC Z c)) 9],aP (dk (aC Z c)))]:=by
 unfold eF.D;rw[h.cs,h.fos,h.gs,h.xs];exact D1 hZ (by rw[h.i];exact⟨by decide,by decide⟩) (by rw[h.i];exact h.ok) h.f
theorem vR.fs0(hZ:FxOk Z){r:eF}(h:vR Z r c ch fo):r.fs Z 0=[aN ch.pub,nj (dk (aC Z c)) 0]:=by
 unfold eF.fs eF.fs0;rw[h.pls hZ,h.os];have e:sC [(0,ch.pub)] 0++tX [(c,true,aQ [] c.chs,jY Z (gZ fo.id) c)] 0=[aN ch.pub,nj (dk (aC Z c)) 0]:=by
  unfold sC tX;simp[h.ok.a];rfl
 rw[e];refine nvm (λs J=>?_) (by simp[aN,nj]) ?_
 ·simp only[cd,dZ,or_false]at J;rcases J with rfl|rfl
  ·exact noj _
  exact nDf (lJ (hZ.byt _ _)) _
 all_goals grind [dy,aN,nj,dk,aC,mh,xl]
theorem vR.fs1(hZ:FxOk Z){r:eF}(h:vR Z r c ch fo):r.fs Z 1=[]:=by
 unfold eF.fs eF.fs0;rw[h.pls hZ,h.os];have e:sC [(0,ch.pub)] 1++tX [(c,true,aQ [] c.chs,jY Z (gZ fo.id) c)] 1=[]:=by
  unfold sC tX;simp[h.ok.a]
 rw[e,nhi]
structure Rc0 (r:eF):Prop where
 os:r.os=[]
 cs:r.cs=[]
 fos:r.fos=[]
 gs:r.gs=[]
 xs:r.xs=[]
theorem Rc0.fs{r:eF}(h:Rc0 r)(Z:Fx)(dv:Int):r.fs Z dv=[]:=by
 unfold eF.fs eF.fs0;rw[h.os,h.fos];exact nhi
theorem Rc0.D{r:eF}(h:Rc0 r)(Z:Fx):r.D Z=[]:=by
 unfold eF.D ml;rw[h.fos,h.gs,h.xs];rfl
theorem mM.nil0{J:List Se}(h:mM [] J lim ls)(s:Se):s∈ls↔s∈J:=by
 constructor
 ·intro hs;have:=(h.iff s).1 hs;cases this with
  |base h1=>exact h1
  |step h1 _=>simp at h1
 exact h.l0 s
theorem al8{k:Se}(hk:SeB k)(h:mM [] [k,k] lim ls):cI ls=[k]:=by
 rw[<-nvm (a:=[k]) (by simpa using hk) zI zI];refine nyj (λs J=>?_) λs=>?_
 ·have:=(h.nil0 s).1 J;simp at this;subst this;exact hk
 rw[h.nil0 s];simp
theorem vR.ep(hZ:FxOk Z){r:eF}(h:vR Z r c ch fo):Au (r.D Z) (r.fs Z 0) (aP (dk (aC Z c))):=by
 have hp:∀k:Nat,k<=9->Au (r.D Z) (r.fs Z 0) (nj (dk (aC Z c)) (k:Int)):=by
  intro k;induction k with
  |zero=>intro _;exact .base (by rw[h.fs0 hZ];exact .tail _ A0)
  |succ k ih=>
   intro hk;obtain⟨y,hy⟩:=ng c.path k (by rw[h.ok.pl];omega);refine Au.step (d:=([nj (dk (aC Z c)) (k:Int)],nj (dk (aC Z c)) ((k+1:Nat):Int))) ?_ λf hf=>?_
   ·rw[h.D hZ];refine aY.2 (.inl (Uc.2 ⟨k,y,by omega,hy,?_⟩));unfold Bi;rw[if_pos aa];exact .tail _ A0
   simp at hf;subst hf;exact ih aa
 refine Au.step (d:=([nj (dk (aC Z c)) 9],aP (dk (aC Z c)))) (by rw[h.D hZ];simp) λf hf=>?_;all_goals grind
theorem vR.k3(hZ:FxOk Z){r:eF}(h:vR Z r c ch fo){s:Se}(J:Au (r.D Z) (r.fs Z 0) s):SeB s/\(s.kind=3->s=aP (dk (aC Z c))):=by
 have hB:ey (fq (dk (aC Z c))):=lJ (hZ.byt _ _);cases J with
 |base h1=>
  rw[h.fs0 hZ]at h1;simp only[cd,dZ,or_false]at h1;rcases h1 with rfl|rfl
  ·exact⟨noj _,λe=>absurd e (by show ¬(1:Int)=3;decide)⟩
  exact⟨nDf hB _,λe=>absurd e (by show ¬(2:Int)=3;decide)⟩
 |@step d h1 _=>
  rw[h.D hZ]at h1;rcases aY.1 h1 with h1|h1
  ·obtain⟨k,y,_,_,h1⟩:=Uc.1 h1;unfold Bi at h1;rcases cd.1 h1 with rfl|h1
   ·exact⟨noj _,λe=>absurd e (by show ¬(1:Int)=3;decide)⟩
   split at h1
   ·simp only[cd,dZ,or_false]at h1;subst h1;exact⟨nDf hB _,λe=>absurd e (by show ¬(2:Int)=3;decide)⟩
   simp at h1
  simp only[cd,dZ,or_false]at h1;subst h1;exact⟨nfh hB,λ_=>rfl⟩
theorem PG{α:Type}{p:α->Bool}{a:α}:∀{l:List α},l.Nodup->a∈l->p a=true->(∀x∈l,p x=true->x=a)->l.filter p=[a]
 | [],_,h,_,_=>by simp at h
 |x::l,hn,h,hp,hu=>by
  rw[List.nodup_cons]at hn;rcases cd.1 h with rfl|h
  ·rw[List.filter_cons,if_pos hp];congr 1;rw[List.filter_eq_nil_iff];intro y hy J;have:=hu y (.tail _ hy) J;subst this;exact hn.1 hy
  have hx:¬p x=true:=λHm=>by
   have:=hu x A0 Hm;subst this;exact hn.1 h
  rw[List.filter_cons,if_neg hx];exact PG hn.2 h hp λy hy=>hu y (.tail _ hy)
theorem vR.epL(hZ:FxOk Z){r:eF}(h:vR Z r c ch fo)(hl:mM (r.D Z) (r.fs Z 0) lim ls):epL (cI ls)=[dk (aC Z c)]:=by
 have hB:∀s∈ls,SeB s:=λs J=>(h.k3 hZ ((hl.iff s).1 J)).1;unfold Px.epL;rw[PG (a:=aP (dk (aC Z c))) (W6 hB) ((nsm hl _).2 (h.ep hZ)) rfl λx hx hk=>(h.k3 hZ ((nsm hl x).1 hx)).2 (by simpa using hk)];rfl
theorem vR.why(hZ:FxOk Z){r:eF}(h:vR Z r c ch fo)(hl:mM (r.D Z) (r.fs Z 0) lim ls):ls[0]? =some (aN ch.pub):=by
 have h1:=hl.pf;have h2:cI (r.fs Z 0)=r.fs Z 0:=by
  have hd:∀s∈r.fs0 Z 0,SeB s:=λs J=>(h.k3 hZ (.base (by unfold eF.fs;rw[xm];exact J))).1;unfold eF.fs;exact MO hd
 rw[h2,h.fs0 hZ]at h1;obtain⟨t,ht⟩:=h1;rw[<-ht];rfl
def Ax (ca:Option Addr) (cc:Nat) (pv:Value) (cf:Nat->Int) (sr ss:Int):Array Value:=(ab 6::ab 1::ui (ab 0:: .slice ca 1 cc::pv::ak::ak::lN cf [ab sr,ab ss])).toArray
def qw (ca:Option Addr) (cc:Nat) (ch:Ch) (path:List Int) (pa:Option Addr) (pc:Nat) (cf:Nat->Int) (sr ss:Int):Cm:=⟨6,1,λ_=>0,0,[ch],ca,cc,path,pa,pc,[],none,0,[],none,0,cf,sr,ss⟩
theorem ngi{ca:Option Addr}{cc:Nat}{path:List Int}{pa:Option Addr}{pc:Nat}{cf:Nat->Int}{sr ss:Int}(hc:HT ch)(hl:path.length=10)(hp:∀x∈path,eo x)(hf:ey cf)(h1:kK sr)(h2:kK ss):bO (qw ca cc ch path pa pc cf sr ss):=by
 refine⟨⟨λ_=>⟨by show(0:Int)<=0;decide,by show(0:Int)<256;decide⟩,hf,by show 1<=10;decide,by show path.length<=12;omega,by show 0<=40;decide,by show 0<=10;decide,λx hx=>(by simp[qw]at hx),λx hx=>(by simp[qw]at hx)⟩,?_⟩;have Gl:=hc.p;have hv1:=hc.v;have J:V.fineL (path.map V.int):=by
  clear hl;induction path with
  |nil=>simp[V.fineL]
  |cons x l ih=>
   rw[dP];have:=hp x A0;unfold V.fineL;exact⟨by simp only[V.fine];omega,ih λy hy=>hp y (.tail _ hy)⟩
 have al:V.depthL (path.map V.int)<=1000000000:=by
  clear hl hp J;induction path with
  |nil=>simp[V.depthL]
  |cons x l ih=>rw[dP];simp only[V.depthL,V.depth];omega
 have ht:∀f:Nat->Int,(qK (cM f)).size=32:=λf=>by rw[Ft,nI]
 unfold oD qw;simp only[V.fineL,V.fine,dP,fu,Cp,V.depthL,V.depth,ht,dI,fJ,eK,hl,J,hc.k,hc.d,hc.c];all_goals grind
theorem ama(f:Int)(ch:Ch):lE (gZ f) 0 [ch]=ch.ver:=by unfold lE;rw[if_neg (by rw[mb0];decide)];rfl
theorem nuh(hZ:FxOk Z){k:Int}(hk:D7 k)(w:World):Calls prog 79 #[ab k] w (aU w (.tuple #[ab (Z.ge 4 k).1,ab 0])):=by
 have h:=nEn k w;have e:rE (J4 k)= .tuple #[ab (Z.ge 4 k).1,ab 0]:=by
  rw[<-hZ.ge,Oo hk];unfold J4 rE;rw[if_pos hk]
 rwa[e]at h
theorem HU(hZ:FxOk Z)(f:Nat->Int)(s:ByteArray):D7 (Xd Z f s):=hZ.bd _ _
abbrev G6:Gv:=⟨gZ 6,none,0,none,0⟩
theorem Bu(N:Nat)(w:World):cj N w G6:=⟨.inl rfl,.inl rfl,cO _,cO _⟩
theorem fd6:qI 6:=⟨by decide,by decide⟩
theorem ntl{ca:Option Addr}{cc:Nat}{path:List Int}{pa:Option Addr}{pc:Nat}{cf:Nat->Int}{sr ss:Int}(h1:ai gM 5 N w ca [ch])(h2:ai encI 1 N w pa path):dC N w (qw ca cc ch path pa pc cf sr ss):=⟨h1,h2,.inl rfl,.inl rfl,λx hx=>(by simp[qw]at hx),λx hx=>(by simp[qw]at hx)⟩
theorem CJ.fixAt{Q:bE}{D:List Deferred}{c:Code}{i:Nat}{o:Obj}(hi:H[i]? =some (b,o))(ha:ah L b)(k:∀W,St G L H W->W.heap[b]? =some o->bN (H.eraseIdx i) b->CJ C c Q E D G (W::L) (H.eraseIdx i)):CJ C c Q E D G L H:=λa W hN hD hF hS=>by
 have h1:=hS.perm (PH H i _ hi);have hnd:=(vN _).1 h1.nodup;simp only[dP,List.nodup_cons]at hnd;exact k W hS (hS.own _ (cu hi)) (bN.of_mem hnd.1) a W hN hD hF (hS.dropAt hi ha).snap
theorem MP(J:HT ch){cp:Nat}(hN:N<=w.heap.size)(aI:ai gM 5 N w a [ch]):Calls prog 134 #[.agg (bJ G6),ab 0,.slice a 1 cp] w (aD w tJ 4 110 [] (λs=>.tuple #[s,ab 0])):=by
 have h9:Calls prog 134 #[.agg (bJ G6),ab 0,.slice a [ch].length cp] w (aD w tJ 4 110 (gG (gZ 6) 0 [ch]) (λs=>.tuple #[s,ab (fj (gZ 6) 0 [ch])])):=nCb G6 N w hN (Bu _ _) [ch] (by show 1<=1000000;decide) a cp aI 0 ⟨by decide,by decide⟩;rw[(Ub fd6 J).1,(Ub fd6 J).2]at h9;exact h9
theorem MQ{cp:Nat}(hN:N<=w.heap.size)(aI:ai gM 5 N w a [ch]):Calls prog 135 #[.agg (bJ G6),ab 0,.slice a 1 cp] w (aU w (ab ch.ver)):=by
 have h9:Calls prog 135 #[.agg (bJ G6),ab 0,.slice a [ch].length cp] w (aU w (ab (lE (gZ 6) 0 [ch]))):=nPc G6 N w hN (Bu _ _) [ch] (by show 1<=1000000;decide) a cp aI 0 (λ_=>by show 0<1;decide);rw[ama]at h9;exact h9
theorem HV(J:HT ch){cp:Nat}(hN:N<=w.heap.size)(aI:ai gM 5 N w a [ch]):Calls prog 144 #[ab 0,.slice a 1 cp] w (aD w oA 5 99 [] id):=by
 have h9:Calls prog 144 #[ab 0,.slice a [ch].length cp] w (aD w oA 5 99 (oH 0 [ch]) id):=n7b 0 [ch] (by show 1<=100000;decide) N a cp w hN aI;rw[abP J]at h9;exact h9
theorem St.sameO{w1:World}(hS:St Gh.no L H W)(hw:w1∈L)(ho:∀p∈H,w1.heap[p.1]? =some p.2):∀k,k<w1.heap.size->W.heap[k]? =w1.heap[k]? :=λk hk=>by
 by_cases h:k∈H.map (·.1)
 ·obtain⟨p,hp,rfl⟩:=bU.1 h;rw[hS.own p hp,ho p hp]
 exact(hS.links w1 hw).block k hk λhx=>hx.elim zH h
theorem Ue{cap:Nat}{xs:List Int}{sp:List Value}(hf:(Rw.row b cap sp).Fit 1 xs)(h:W.heap[b]? =some (bj aA t xs sp)):ai encI 1 W.heap.size W (ao b) xs:=by
 obtain⟨a,cp,he,aI⟩:=(Rw.row b cap sp).sl nz hf (show(Rw.row b cap sp).At aA t xs W from h) (aj _);exact zki
theorem MR(a b:Int):qZ (rG a b).1:=by grind [rG]
theorem HW(ca:Option Addr)(cc:Nat)(pv:Value)(cf:Nat->Int):setCells (Ax ca cc pv (λ_=>0) 0 0) 39 (dg cf).toList=Ax ca cc pv cf 0 0:=by
 apply Array.ext';rw[nZ];rfl
theorem MS(ca:Option Addr)(cc:Nat)(pv:Value)(cf:Nat->Int)(sr ss:Int):setCells (Ax ca cc pv cf 0 0) 71 [ab sr,ab ss]=Ax ca cc pv cf sr ss:=by
 apply Array.ext';rw[nZ];rfl
theorem abV:ey (λ_=>0):=by grind
theorem nVm(hZ:FxOk Z)(ch:Ch)(sj:HT ch)(hv0:ch.ver=(Z.ge 4 300).1)(N:Nat)(a:Option Addr)(cp:Nat)(lf sd:Nat->Int)(bQ:ey lf)(w:World)(hN:N<=w.heap.size)(aI:ai gM 5 N w a [ch])(hg:Glb w)(MT:Lab w):Calls prog 81 #[.agg (bJ G6),ab 0,ab 300,.slice a 1 cp,.agg (dg lf),.agg (dg λ_=>0),.agg (dg sd)] w (dc w (λq:Cm×(Nat->Int)=>.tuple #[.agg (cP q.1),.agg (dg q.2),ab 0]) (λq w'=>oS Z 6 ch q.1/\bO q.1/\dC w'.heap.size w' q.1/\ey q.2/\(∀u,q.1.ca=some u->w.heap.size<=u.block)/\∀u,q.1.pa=some u->w.heap.size<=u.block)):=by
 have iR:=hg.lt;obtain⟨pv,hpv⟩:∃p,(Z.ge 4 300).1=p:=⟨_,rfl⟩;have hv:ch.ver=pv:=by rw[hv0,hpv]
 obtain⟨ks,PI⟩:∃l,jg Z 10 lf=l:=⟨_,rfl⟩;have sQ:ks.length=10:=by rw[<-PI,nim]
 have cr:∀k∈ks,ey (fq k):=by rw[<-PI];exact n3m hZ 10 lf bQ
 obtain⟨k9,bx⟩:=ng ks 9 aa;have ea:=cu bx;obtain⟨J,HX⟩:∃l,(ks.map λk=>(Z.ge 4 (Xd Z (fq k) (⟨#[110,111,100,101]⟩:ByteArray))).1)=l:=⟨_,rfl⟩;have gq:J.length=10:=by rw[<-HX,eK,sQ]
 have JJ:∀x∈J,eo x:=by rw[<-HX];intro x hx;obtain⟨k,_,rfl⟩:=bU.1 hx;exact Xb hZ ⟨by have:=(HU hZ (fq k) (⟨#[110,111,100,101]⟩:ByteArray)).1;omega,(HU hZ (fq k) (⟨#[110,111,100,101]⟩:ByteArray)).2⟩
 obtain⟨T,hT⟩:∃T,aQ G6.g.ns [ch]=T:=⟨_,rfl⟩;have et:∀x∈[ch],di x.dev:=λx hx=>by simp only[cd,dZ,or_false]at hx;subst hx;rw[sj.d];exact⟨by decide,by decide⟩
 refine eN func81 ntmps81 ?_;refine cK 2 ?_;intro b7 w7 QD Vq gO kh vY;refine yX ?_;intro gD X4 Kc Kd X5 uY yQ;refine Kk rfl rfl rfl ?_;refine yW ?_;intro iI E3 E4;refine yX ?_;intro Vr bw gB hL gn yT B1;refine bM 1 ?_;intro eJ gi iQ;refine bM 1 ?_;intro dU Fu Ln;refine aF 8 bH ?_;refine B 10 ?_;refine nH (enc:=tJ) (m:=4) (t:=110) (xs:=([]:List (Int×Int))) (v:=λs=>.tuple #[s,ab 0]) (first:=[]) (cap:=[]) rfl call134 rfl rfl rfl V6 (λW hS=>MP sj cR (aI.up (aj _) hS.sm)) ?_;intro Wn a3 c3 wn tK AX sg sh;refine B 11 ?_;refine Vg ?_;refine zXe ?_;refine aF 11 bH ?_;refine B 12 ?_;refine call call135 rfl rfl rfl (λW hS=>MQ cR (aI.up (aj _) hS.sm)) ?_;refine rq bH (dB rfl rfl) (vb (by simp[hv])) ?_;refine aF 10 cD ?_;refine aF 10 (.agg (dg lf)) ?_;refine nH (enc:=cZ) (m:=32) (t:=127) (xs:=ks) (v:=id) (first:=[]) (cap:=[]) rfl call136 rfl rfl rfl yj (λW hS=>by rw[<-PI];exact nUi hZ lf bQ W (hg.old hS A4 zF zD)) ?_;intro Wl al cl wl a8 fV dO e5;have e7:ai vz 32 wl.heap.size wl al ks:=dO;obtain⟨bL,oL,fQ,tL,gV,bu,ht,bZ,az⟩:=e7.get aa;have gI:dU<bL/\eJ<bL/\iI<bL:=by have g1:=a8.lt _ A0;have g2:=a8.lt _ A1;have g3:=a8.lt _ A2;have g4:=e5 _ bu;dsimp only at g1 g2 g3 g4;exact⟨by omega,by omega,by omega⟩
 refine B 4 ?_;refine eA 4 (pb:=by exact zU 2 (k:=by exact aM (X.v (bC underlying76 sizeOf127 (congrArg (λq=>some (Value.slice q ks.length cl)) bu) rfl aa aa)) (aM (X.v (RV.re (v':=.agg (dg (fq k9))) (dt isAgg127 sizeOf127 rfl A0 bZ zH zy (de az bx rfl)) (va ((dY az bx rfl).trans (HP k9).symm)))) (ra rfl)))) (sp:=((some (.agg (dg λ_=>0)))::_)) (k:=?_);refine ny (α:=Nat->Int) (v:=λf=>.agg (dg f)) (Φ:=λ_ f _=>ey f) call137 rfl rfl rfl (λW hS=>nBj hZ (λ_=>0) (fq k9) abV (cr k9 ea) W (hg.old hS A5 zF zD) (MT.old hS A5 zH zy)) ?_;rintro We fs we ix fx qS;refine B 4 ?_;refine eS 10 9 [] (pb:=by exact zU 4 (k:=by exact aM (X.v (RV.re (v':=ab 1) (jw (m:=0) (n:=1) rfl rfl zz zz) rfl)) zT)) (sp:=[_,some (ab 6),_,some (ab 0),_,_,some (.agg (dg λ_=>0)),_,_,_]) (h:=?_);intro _ _ hk;refine nH (enc:=oA) (m:=5) (t:=99) (xs:=[ch]) (v:=id) (first:=[]) (cap:=[]) rfl call138 rfl rfl rfl Cl (λW hS=>nul [ch] (by show 1<=100000;decide) N a cp W cR (aI.up (aj _) hS.sm)) ?_;intro W7 a7 cc wc CN Po zt ou;obtain⟨bc,oc,Xe,t_,f_,rfl,eb,sZ,gz⟩:=zt.get Xk;have g1:=CN.lt _ A0;have g2:=CN.lt _ A1;have g3:=CN.lt _ A2;have g4:=ou _ rfl;dsimp only at g1 g2 g3 g4;have fm:(dU<bc/\eJ<bc/\iI<bc/\bc<wc.heap.size):=⟨by omega,by omega,by omega,eb⟩
 have hK:(wl.heap.size<=wc.heap.size/\w.heap.size<=wc.heap.size):=⟨eB (CN.links wl A1).size Po.size,eB (CN.links w A6).size Po.size⟩;refine zE ?_;refine aF 8 (ab 10) ?_;refine B 4 ?_;refine CJ.lp (α:=Rw×Nat) [1,2,3,7,14,15,17,89,90] (λp=>[(91,ab (p.2:Int))]) (λp=>[(dU,oC (dg fs) 127),(eJ,oC (Ax (some ⟨bc,oc,none⟩) cc (p.1.val (J.take p.2).length) (λ_=>0) 0 0) 61),(iI,oC (dg λ_=>0) 127)]++(p.1.hp aA 3 (J.take p.2)++[])) (λp=>p.2<=10/\p.1.Fr Gh.no [wc,we,wl,wn,bw,X4,w7,w]/\p.1.Fit 1 (J.take p.2)) (λp=>10-p.2) (.nil,0) ⟨cO _,True.intro,rfl⟩ ?_;rintro⟨ro,j⟩ ⟨hj,aK,ae⟩;dsimp only at hj aK ae ⊢;have bK:ro.ge wc.heap.size:=Rw.ge_of aK A0;refine aG 6 ?_ ?_
 ·intro av;refine B 5 ?_;obtain⟨k,hk⟩:=ng ks j aa;have CQ:=cu hk;refine B 1 ?_;refine rv rfl rfl rfl (bC underlying76 sizeOf127 (congrArg (λq=>some (Value.slice q ks.length cl)) bu) rfl aa aa) ?_;refine rq (.agg (dg (fq k))) (dt isAgg127 sizeOf127 rfl A2 bZ zH zy (de az hk rfl)) (va ((dY az hk rfl).trans (HP k).symm)) ?_;refine bM 1 ?_;intro rI Ef Qz;refine B 4 ?_;obtain⟨x,bh⟩:∃x,Xd Z (fq k) (⟨#[110,111,100,101]⟩:ByteArray)=x:=⟨_,rfl⟩;have dK:D7 x:=by rw[<-bh];exact HU hZ _ _
  obtain⟨y,cb⟩:∃y,(Z.ge 4 x).1=y:=⟨_,rfl⟩;have cq:J[j]? =some y:=by rw[<-HX,oh,hk,<-cb,<-bh];rfl
  refine aF 1 (.agg (dg (fq k))) ?_;refine call (v:=ab x) call139 rfl rfl rfl (λW hS=>by rw[<-bh];exact nEi hZ (fq k) (cr k CQ) W (hg.old hS A7 zF (by simp only[Over,nC,iv,eY,ec,and_true];(repeat' apply And.intro);all_goals first|omega|exact True.intro|exact Rw.over (Rw.ge_mono bK aa)))) ?_;refine call (v:=.tuple #[ab y,ab 0]) call79 rfl rfl rfl (λW hS=>by rw[<-cb];exact nuh hZ dK W) ?_;refine B 11 ?_;refine ET ?_;refine yW ?_;intro eC jk jx;refine jV (r:=ro) (xs:=(J.take j)) (zs:=[y]) (enc:=aA) (m:=1) (H0:=[(eC,oC #[ab y] 3),(rI,oC (dg (fq k)) 127),(dU,oC (dg fs) 127),(eJ,oC (Ax (some ⟨bc,oc,none⟩) cc (ro.val (J.take j).length) (λ_=>0) 0 0) 61),(iI,oC (dg λ_=>0) 127)]) (H1:=[]) zW OC nz rfl rfl rfl rfl (ck.one (z:=y) nz OE underlying55 (bF.own (i:=0) rfl)) ae aK zI (by rw[kU];simp only[dI,fJ];omega) ?_;intro ej eT e0 HY MU;replace HY:=yb HY;refine B 1 ?_;refine kT (i:=3) rfl sizeOf55 rfl rfl rfl rfl (er rfl) rfl ?_;refine aF 4 (ab ((j+1:Nat):Int)) ?_;refine B 2 ?_;refine uI ?_;refine PJ.again (Rw.row ej eT e0,j+1) ⟨by dsimp only;omega,HY.elim (λh=>Rw.Fr_at aK h) (λh=>.inr h),by dsimp only;rw[np cq];exact MU⟩ zS zR (by dsimp only;rw[np cq];rfl) rfl zI
 intro av;refine B 6 ?_;have cH:J.take j=J:=iC aa;rw[cH]at ae ⊢;obtain⟨bp,im,fe,rfl⟩:=Rw.row_of ae aa;have cz:=aK.elim (λh=>h.elim) id;have iL:=cz.mem w zI;refine CJ.reH (H':=[(dU,oC (dg fs) 127),(eJ,oC (Ax (some ⟨bc,oc,none⟩) cc ((.slice (ao bp) J.length im)) (λ_=>0) 0 0) 61),(iI,oC (dg λ_=>0) 127),(bp,bj aA 3 J fe)]) rfl ?_;refine CJ.fixAt (i:=3) rfl cz λwp Ca AM cy=>?_;have cy:dU≠bp/\eJ≠bp/\iI≠bp:=by simpa[bN]using cy
 refine CJ.reH (H':=[(dU,oC (dg fs) 127),(eJ,oC (Ax (some ⟨bc,oc,none⟩) cc ((.slice (ao bp) J.length im)) (λ_=>0) 0 0) 61),(iI,oC (dg λ_=>0) 127)]) rfl ?_;have pH:ai encI 1 wp.heap.size wp (ao bp) J:=Ue ae AM;have jq:=(bB.1 AM).1;have hs:=(Ca.links wc A0).size;refine B 3 ?_;refine ny (α:=Option Addr×Nat) (v:=λq=>.agg #[.slice q.1 T.length q.2]) (Φ:=λW q w1=>ai fZ 2 w1.heap.size w1 q.1 T/\∀b off,q.1=some ⟨b,off,none⟩->T=[]\/b<N\/W.heap.size<=b) call140 rfl rfl rfl (λW hS=>by rw[<-hT];exact nAc G6 N W cR (Bu _ _) [ch] (by show 1<=1000000;decide) a cp (aI.up (aj _) hS.sm) (by show 1<=64;decide) et) ?_;rintro Wr ⟨ta,tc⟩ wr V5 ij -;refine bM 1 ?_;intro lV Q6 Q7;refine aF 7 (ab 0) ?_;refine B 4 ?_;refine CJ.lp (α:=Unit) [1,2,3,7,14,15,111,112,113] (λp=>[]) (λp=>[(lV,oC #[.slice ta T.length tc] 51),(dU,oC (dg fs) 127),(eJ,oC (Ax (some ⟨bc,oc,none⟩) cc ((.slice (ao bp) J.length im)) (λ_=>0) 0 0) 61),(iI,oC (dg λ_=>0) 127)]) (λp=>True) (λp=>0) () trivial ?_;rintro⟨⟩ -;refine Dh ?_;refine B 14 ?_;refine nH (enc:=oA) (m:=5) (t:=99) (xs:=([]:List Ch)) (v:=id) (first:=[]) (cap:=[]) rfl call144 rfl rfl rfl Cl (λW hS=>HV sj cR (aI.up (aj _) hS.sm)) ?_;intro Ww aw cw ww fY gA Lk xe
 refine du (ab 0) ?_;refine B 4 ?_;refine CJ.lp (α:=Unit) [1,2,3,7,14,15,158,159,160] (λp=>[]) (λp=>[(lV,oC #[.slice ta T.length tc] 51),(dU,oC (dg fs) 127),(eJ,oC (Ax (some ⟨bc,oc,none⟩) cc ((.slice (ao bp) J.length im)) (λ_=>0) 0 0) 61),(iI,oC (dg λ_=>0) 127)]) (λp=>True) (λp=>0) () trivial ?_;rintro⟨⟩ -;refine Dh ?_;refine B 10 ?_;have hg0:bO (qw (some ⟨bc,oc,none⟩) cc ch J (ao bp) im (λ_=>0) 0 0):=ngi sj gq JJ abV ⟨by decide,by decide⟩ ⟨by decide,by decide⟩;refine CJ.less (E':=[(1,_),(2,_),(3,_),(7,_),(14,_),(15,_),(158,_),(159,_),(160,_),(161,_)]) zR ?_;refine CJ.chn 5 [2,3,4] [some (.agg (dg fs)),some (.agg (cP (qw (some ⟨bc,oc,none⟩) cc ch J (ao bp) im (λ_=>0) 0 0))),none,none,none] (λcv L' H'=>let uH:ad:=[(lV,oC #[.slice ta T.length tc] 51),(dU,oC (dg fs) 127),(eJ,oC (Ax (some ⟨bc,oc,none⟩) cc ((.slice (ao bp) J.length im)) (λ_=>0) 0 0) 61),(iI,oC (dg λ_=>0) 127)];let ew:ad:=uH;let jb:List World:=[ww,wr,wp,wc,we,wl,wn,bw,X4,w7,w];match cv with| []=>L'=jb/\H'=ew| [v1]=>∃(bq:Nat) (wq:World),v1= .slice (ao bq) 11 11/\L'=wq::jb/\H'=ew/\(lV<bq/\dU<bq/\eJ<bq/\iI<bq)/\(∀p∈(uH:ad),wq.heap[p.1]? =some p.2)/\fy wq.heap.size wq (.list (oD (qw (some ⟨bc,oc,none⟩) cc ch J (ao bp) im (λ_=>0) 0 0))) (vL (ao bq) 11 11)| [v1,v2]=>∃(bq:Nat) (wq:World),v1= .slice (ao bq) 11 11/\v2= .slice (ao bq) 8 11/\L'=wq::jb/\H'=ew/\(lV<bq/\dU<bq/\eJ<bq/\iI<bq)/\(∀p∈(uH:ad),wq.heap[p.1]? =some p.2)/\fy wq.heap.size wq (.list (oD (qw (some ⟨bc,oc,none⟩) cc ch J (ao bp) im (λ_=>0) 0 0))) (vL (ao bq) 11 11)| [v1,v2,v3]=>∃(bq:Nat) (wq:World) (hd:Nat->Int),v1= .slice (ao bq) 11 11/\v2= .slice (ao bq) 8 11/\v3= .agg (dg hd)/\L'=wq::jb/\H'=ew/\(lV<bq/\dU<bq/\eJ<bq/\iI<bq)/\(∀p∈(uH:ad),wq.heap[p.1]? =some p.2)/\fy wq.heap.size wq (.list (oD (qw (some ⟨bc,oc,none⟩) cc ch J (ao bp) im (λ_=>0) 0 0))) (vL (ao bq) 11 11)/\ey hd|_=>False) (pc zcu (pc zcu (pk (pk (pk (pn)))))) ?_ ?_
 ·refine ss rfl ?_ ?_
  ·intro cv L' H' hl hP F Q' hk;obtain rfl:=mF hl;obtain⟨rfl,rfl⟩:=hP;refine ny (α:=Nat) (v:=λb=>.slice (ao b) 11 11) (Φ:=λW b w1=>W.heap.size<=b/\fy w1.heap.size w1 (.list (oD (qw (some ⟨bc,oc,none⟩) cc ch J (ao bp) im (λ_=>0) 0 0))) (vL (ao b) 11 11)) call45 rfl rfl rfl (λW hS=>nfd (qw (some ⟨bc,oc,none⟩) cc ch J (ao bp) im (λ_=>0) 0 0) hg0.few W.heap.size W (aj _) (ntl (zt.to hS A3 (aj _) (λb off e=>by cases e;exact .inr zy)) (pH.to hS A2 (aj _) (λb off e=>by cases e;exact .inr zy)))) ?_;rintro Wq eD e6 Cn RM ⟨hq1,uz⟩;have g0:=Cn.lt _ A0;have g1:=Cn.lt _ A1;have g2:=Cn.lt _ A2;have g3:=Cn.lt _ A3;dsimp only at g0 g1 g2 g3;exact OJ.done (hk _ _ _ ⟨eD,e6,rfl,rfl,rfl,⟨by omega,by omega,by omega,by omega⟩,λp hp=>(RM.block p.1 (Cn.lt p hp)).trans (Cn.own p hp),uz⟩)
  refine ss rfl ?_ ?_
  ·intro cv L' H' hl hP F Q' hk;obtain⟨v1,rfl⟩:=jK hl;obtain⟨bq,wq,rfl,rfl,rfl,pI,PK,PL⟩:=hP;refine rv rfl rfl rfl (fM (h:=8) underlying134 sizeOf200 rfl ⟨_,_,rfl,rfl⟩ zz) ?_;exact OJ.done (hk _ _ _ ⟨bq,wq,rfl,rfl,rfl,rfl,pI,PK,PL⟩)
  refine ss rfl ?_ ?_
  ·intro cv L' H' hl hP F Q' hk;obtain⟨v1,v2,rfl⟩:=rL hl;obtain⟨bq,wq,rfl,rfl,rfl,rfl,pI,PK,PL⟩:=hP;refine call (v:=.agg (dg (Z.tg (⟨#[99,111,109,109,105,116,32,98,111,100,121]⟩:ByteArray) (V.list ((oD (qw (some ⟨bc,oc,none⟩) cc ch J (ao bp) im (λ_=>0) 0 0)).take 8)).enc))) call44 rfl rfl rfl (λW hS=>n1e hZ (⟨#[99,111,109,109,105,116,32,98,111,100,121]⟩:ByteArray) zz ((oD (qw (some ⟨bc,oc,none⟩) cc ch J (ao bp) im (λ_=>0) 0 0)).take 8) (ZJ _ hg0.few hg0.fine 8).1 (ZJ _ hg0.few hg0.fine 8).2.1 (ZJ _ hg0.few hg0.fine 8).2.2 W.heap.size bq 11 W (aj _) (fy.up (hS.links wq A0).size (hS.sameO A0 PK) _ _ (nqm (n:=11) rfl zz 8 zz PL)) (hg.old hS A11 zF zD)) ?_;exact OJ.done (hk _ _ _ ⟨bq,wq,_,rfl,rfl,rfl,rfl,rfl,pI,PK,PL,hZ.byt _ _⟩)
  exact nn
 intro cv L' H' hl hP;obtain⟨v1,v2,v3,rfl⟩:=pB hl;obtain⟨bq,wq,hd,rfl,rfl,rfl,rfl,rfl,pI,PK,PL,hhd⟩:=hP;refine ny (α:=Nat->Int) (v:=λf=>.agg (dg f)) (Φ:=λ_ f _=>ey f) call145 rfl rfl rfl (λW hS=>nri hZ fs hd qS hhd W (hg.old hS A11 zF zD)) ?_;rintro Wf cf wf jh fw b0;refine B 1 ?_;refine kT (i:=2) rfl sizeOf33 rfl rfl rfl rfl (er rfl) rfl ?_;refine OJ.reH (H':=[(lV,oC #[.slice ta T.length tc] 51),(dU,oC (dg fs) 127),(eJ,oC (Ax (some ⟨bc,oc,none⟩) cc (.slice (ao bp) J.length im) cf 0 0) 61),(iI,oC (dg λ_=>0) 127)]) (by show([(lV,oC #[.slice ta T.length tc] 51),(dU,oC (dg fs) 127),(eJ,oC (setCells (Ax (some ⟨bc,oc,none⟩) cc (.slice (ao bp) J.length im) (λ_=>0) 0 0) 39 ((dg cf).toList)) 61),(iI,oC (dg λ_=>0) 127)]:ad)=_;rw[HW]) ?_;refine aF 6 (.agg (cP (qw (some ⟨bc,oc,none⟩) cc ch J (ao bp) im cf 0 0))) ?_;have en:bO (qw (some ⟨bc,oc,none⟩) cc ch J (ao bp) im cf 0 0):=ngi sj gq JJ b0 ⟨by decide,by decide⟩ ⟨by decide,by decide⟩;refine ny (α:=Nat) (v:=λb=>.slice (ao b) 32 32) (Φ:=λW b w1=>W.heap.size<=b/\w1.heap[b]? =some (oC (dg (oF Z (qw (some ⟨bc,oc,none⟩) cc ch J (ao bp) im cf 0 0))) 33)) call147 rfl rfl rfl (λW hS=>nyc hZ (qw (some ⟨bc,oc,none⟩) cc ch J (ao bp) im cf 0 0) en W.heap.size W (aj _) (ntl (zt.to hS A5 (aj _) (λb off e=>by cases e;exact .inr zy)) (pH.to hS A4 (aj _) (λb off e=>by cases e;exact .inr zy))) (hg.old hS A12 zF zD)) ?_
 rintro Wm bm wm wU KY ⟨xO,o9⟩;have g0:=wU.lt _ A0;have g1:=wU.lt _ A1;have g2:=wU.lt _ A2;have g3:=wU.lt _ A3;simp only[dA,eh]at g0 g1 g2 g3;obtain⟨ms,Cj⟩:∃m,oF Z (qw (some ⟨bc,oc,none⟩) cc ch J (ao bp) im cf 0 0)=m:=⟨_,rfl⟩;have tE:ey ms:=by rw[<-Cj];exact hZ.byt _ _
 rw[Cj]at o9;obtain⟨zr,rU⟩:∃s,rO Z 300 (cM ms)=s:=⟨_,rfl⟩;obtain⟨zs,uw⟩:∃s,wQ Z 300 (cM ms)=s:=⟨_,rfl⟩;refine call (v:=.tuple #[.agg #[ab zr,ab zs],ab 0]) call146 rfl rfl rfl (λW hS=>by have h9:=nVp hZ 300 (cM ms) bm 0 32 (by rw[nS];decide) W (cC.dg (hS.old A0 o9 zH zy) tE) (hg.old hS A13 zF zD);rw[nS]at h9;unfold B4 at h9;rw[if_pos (by decide:D7 300),rU,uw]at h9;exact h9) ?_;refine B 4 ?_;refine kT (i:=2) rfl sizeOf59 rfl rfl rfl rfl (er rfl) rfl ?_;refine OJ.reH (H':=[(lV,oC #[.slice ta T.length tc] 51),(dU,oC (dg fs) 127),(eJ,oC (Ax (some ⟨bc,oc,none⟩) cc (.slice (ao bp) J.length im) cf zr zs) 61),(iI,oC (dg λ_=>0) 127)]) (by show([(lV,oC #[.slice ta T.length tc] 51),(dU,oC (dg fs) 127),(eJ,oC (setCells (Ax (some ⟨bc,oc,none⟩) cc (.slice (ao bp) J.length im) cf 0 0) 71 ([ab zr,ab zs])) 61),(iI,oC (dg λ_=>0) 127)]:ad)=_;rw[MS]) ?_;refine B 6 ?_;refine Ew ?_;refine CJ.less (E':=[(1,_),(2,_),(3,_),(7,_),(14,_),(15,_),(16,_),(158,_),(159,_),(160,_),(161,_),(192,_),(193,_),(194,_),(195,_),(196,_),(197,_),(198,_),(199,_),(200,_),(201,_),(202,_),(203,_),(204,_),(205,_),(206,_),(207,_),(208,_)]) zR ?_;refine CJ.chn 3 [2] [some (.agg (cP (qw (some ⟨bc,oc,none⟩) cc ch J (ao bp) im cf zr zs))),some (.agg (dg fs)),none] (λcv L' H'=>let ew:ad:=[(lV,oC #[.slice ta T.length tc] 51),(dU,oC (dg fs) 127),(eJ,oC (cP (qw (some ⟨bc,oc,none⟩) cc ch J (ao bp) im cf zr zs)) 61),(iI,oC (dg λ_=>0) 127)];let jb:List World:=[wm,wf,wq,ww,wr,wp,wc,we,wl,wn,bw,X4,w7,w];match cv with| []=>L'=jb/\H'=ew| [v1]=>v1= .tuple #[]/\L'=jb/\H'=ew|_=>False) (pc Jw (pc Jw (pk (pn)))) ?_ ?_
 ·exact z3g
 intro cv L' H' hl hP;obtain⟨v1,rfl⟩:=jK hl;obtain⟨rfl,rfl,rfl⟩:=hP;refine B 5 ?_;have eX:kK zr:=by have h:=Xb hZ (nOl hZ 300 (cM ms));rw[<-rU];unfold rO;exact⟨by omega,by omega⟩
 have e8:kK zs:=by have h:=MR (De Z 300 (cM ms)) (qA (Df Z (rO Z 300 (cM ms)) (Z.ge 4 300).1 (cM ms)) 300).1;rw[<-uw];unfold wQ;exact⟨by omega,by omega⟩
 refine bS (.inl rfl) results81 bD λW hS=>⟨((qw (some ⟨bc,oc,none⟩) cc ch J (ao bp) im cf zr zs),fs),rfl,hS.base A13 zD,?_,ngi sj gq JJ b0 eX e8,(ntl (zt.to hS A6 (aj _) (λb off e=>by cases e;exact .inr zy)) (pH.to hS A5 (aj _) (λb off e=>by cases e;exact .inr zy))),qS,λu hu=>(by cases hu;dsimp only;omega),λu hu=>(by cases hu;dsimp only;omega)⟩;exact⟨sj,by rw[hv,hpv],rfl,rfl,rfl,rfl,rfl,gq,JJ,rfl,rfl,by show zr=rO Z 300 (cM (oF Z (qw (some ⟨bc,oc,none⟩) cc ch J (ao bp) im cf 0 0)));rw[Cj,rU],by show zs=wQ Z 300 (cM (oF Z (qw (some ⟨bc,oc,none⟩) cc ch J (ao bp) im cf 0 0)));rw[Cj,uw]⟩
def Xl (k:Nat):Nat->Int:=λi=>match i with|0=>(k:Int)|_=>0
theorem MV(k:Nat)(h:k<256):ey (Xl k):=λi=>by
 unfold Xl;split
 ·exact⟨by omega,by omega⟩
 exact⟨by decide,by decide⟩
theorem HZ(w:World):Calls prog 78 #[ab 0,ab 0] w (aU w (ab 5000)):=by
 refine ei 8 func78 ntmps78 ?_;refine rr (ab 0) (vO rfl rfl zz zz) ?_;refine rr (ab 5000) (jw rfl rfl zz zz) ?_;refine B 1 ?_;refine rr (ab 5000) (jw rfl rfl zz zz) ?_;refine B 4 ?_;refine aL results78 rfl A0 ?_;rfl
theorem n4h(w:World):Calls prog 80 #[ab 0] w (aU w (ab 300)):=by
 refine ei 8 func80 ntmps80 ?_;refine rr (ab 300) (jw rfl rfl zz zz) ?_;refine B 4 ?_;refine aL results80 rfl A0 ?_;rfl
theorem n9o(w:World):Calls prog 82 #[ab 0] w (aU w (.agg (dg (Xl 1)))):=by
 refine eN func82 ntmps82 ?_;refine bM 3 ?_;intro b2 J dH;refine B 5 ?_;refine rv rfl rfl rfl (pz underlying3 underlying5 rfl) ?_;refine B 5 ?_;refine cA (.inl rfl) results82 bD A0 zA ?_;rfl
theorem n6o(hZ:FxOk Z)(w:World):Calls prog 41 #[ab 1,ab 0,ab 0] w (aU w (.tuple #[.agg (gM ⟨1,0,(Z.ge 4 5000).1,(Z.ge 4 300).1,0⟩),ab 5000])):=by
 obtain⟨pv,hpv⟩:∃p,(Z.ge 4 5000).1=p:=⟨_,rfl⟩;obtain⟨vv,J⟩:∃p,(Z.ge 4 300).1=p:=⟨_,rfl⟩;rw[hpv,J];refine eN func41 ntmps41 ?_;refine bM 3 ?_;intro b6 ky rh;refine B 7 ?_;refine call call78 rfl rfl rfl (λW hS=>HZ W) ?_;refine B 6 ?_;refine zXe ?_;refine B 10 ?_;refine call call80 rfl rfl rfl (λW hS=>n4h W) ?_;refine call (v:=.tuple #[ab vv,ab 0]) call79 rfl rfl rfl (λW hS=>by rw[<-J];exact nuh hZ zz W) ?_;refine B 20 ?_;refine cA (.inl rfl) results41 bD A0 zA ?_;rfl
def H2 {α:Type} (w:World) (Z:List Nat) (v:α->Value) (Hn:α->ad) (Φ:α->World->Prop):Ending->World->Prop:=λe w'=>
 ∃x,e= .returned (v x)/\aT (λk=>k∈Z) w w'/\Φ x w'/\(∀p∈Hn x,w'.heap[p.1]? =some p.2/\(p.1∈Z\/w.heap.size<=p.1))/\lS (Hn x)
section
variable {C:Cx} {Q:bE} {E:Env} {D:List Deferred} {G:Gh} {L:List World} {H:ad} {ops:Array Oper} {l:List Oper}
variable {d T ty f:Nat} {pos:String} {aE:Array Edge} {g:Option (Nat×Bool)} {x:Operand} {xs:List Operand} {vs:List Value} {eL:Array Nat} {fn:Func}
theorem ab3{α:Type}{v:α->Value}{Hn:α->ad}{Φ:α->World->Prop}{Hz H0:ad}{rs:List ResultVar}{us:List Value}{ex:Exit}(z:α)(he:ex= .ret\/ex= .normal)(hr:fn.results=rs.toArray)(h:RS C (Gh.lent (λk=>k∈keys Hz)) L (Hn z++H0) E rs us)(hw:w∈L)(ho:qx (keys Hz) w.heap.size (Hn z++H0))(hv:MX us=v z)(J:∀W,St (Gh.lent (λk=>k∈keys Hz)) L (Hn z++H0) W->Φ z W):PJ C (bodyPost C.P fn (H2 w (keys Hz) v Hn Φ)) ex E [] (Gh.lent (λk=>k∈keys Hz)) L (Hn z++H0):=
 bS he hr h λW hS=>⟨z,by rw[hv],(hS.links w hw).mono (λk hk hx=>by
  rcases hx with hx|hx
  ·exact hx
  ·obtain⟨p,hp,rfl⟩:=bU.1 hx;rcases ho.mem p hp with h|h
   ·exact h
   omega),J W hS,λp hp=>⟨hS.own p (by simp[hp]),ho.mem p (by simp[hp])⟩,by
  have:=(vN _).1 hS.nodup;rw[gN,List.nodup_append]at this;exact(vN _).2 this.1⟩
theorem Uf{α:Type}{v:α->Value}{Hn:α->ad}{Φ:World->α->World->Prop}{Hz H0:ad}{first cap:List Value}(hH:H=Hz++H0)(hx:ev E x=some (.func (.func f) first.toArray cap.toArray))(aB:eV C.P f)(hw:nr ops E g=some true)(hN:Nat.blt d C.N=true)(ha:jy E xs=some vs)(jX:qu G L Hz)(hc:∀W,St G L (Hz++H0) W->Calls C.P f (first++vs++cap).toArray W (H2 W (keys Hz) v Hn (Φ W)))(k:∀W z W',St G L (Hz++H0) W->Φ W z W'->(∀p∈Hn z,p.1∈keys Hz\/(ah L p.1/\bN H p.1))->OJ C ops Q l ((d,v z)::E) D G (W'::L) (Hn z++H0)):OJ C ops Q (⟨some d,.call ⟨.value x,xs.toArray,eL⟩,ty,pos,aE,g⟩::l) E D G L H:=by
 subst hH;exact nK rfl hw hx ha zI aB λa W jz hD hF hS=>(hc W hS).mono (by
  rintro ed W' ⟨z,rfl,hk,J,hn,hd⟩;refine k W z W' hS J (λp hp=>?_) (a.put (some d) (v z)) W' z7 z5 (hF.put _ z6) (hS.swapZ hk jX hn hd).snap;rcases(hn p hp).2 with h|h
  ·exact .inl h
  exact .inr ⟨CK hS h,DN hS h⟩)
end
theorem ab4{T:Nat}{x:Operand}{off:Nat}(hi:(b,Obj.cells cs t fr)∈H)(hA:fb C.P T false)(hx:ev E x=some (ptr b off))(hv:cs[off]? =some v):RV C G L H E (.load T x) v:=
 (List.getElem?_of_mem hi).elim λ_ h=>bV h hA hx hv
theorem nDj{T:Nat}{x:Operand}{n:Nat}(hi:(b,Obj.cells cs t fr)∈H)(hA:fb C.P T true)(hZ:nL C.P T n)(hx:ev E x=some (ptr b 0))(hn:cs.size=n):RV C G L H E (.load T x) (.agg cs):=
 (List.getElem?_of_mem hi).elim λ_ h=>eG h hA hZ hx hn
theorem ab5{α:Type}{a b d:List α}{x:α}:∀w∈a++(b++([x]++d)),w∈x::(a++(b++([]++d))):=by grind
theorem H3{α:Type}{a d:List α}{x:α}:∀w∈a++([x]++d),w∈x::(a++([]++d)):=by grind
theorem H4{α:Type}{d:List α}{x:α}:∀w∈[x]++d,w∈x::([]++d):=λ_ h=>h
def ob (k:Bool) (v:Value):Option Value:=if k then some v else none
theorem nu{rq:List Nat}{k:Nat}(hr:H5 rq k cv=true)(j:Nat)(hj:j∈rq)(e:cv[j]? =some (ob kb v)):kb=true:=by grind [H5,ob]
theorem nW{rq:List Nat}{k:Nat}(hr:H5 rq k cv=true)(e:cv[k]? =some (ob kb v)):kb=false:=by grind [H5,ob]
theorem nY(hr:cv.all (λx=>x.isSome)=true)(j:Nat)(e:cv[j]? =some (ob kb v)):kb=true:=by
 have h:=uD.1 hr _ (cu e);all_goals grind [ob]
theorem Bv{ch ds:List Nat}(hd:MY ch ds cv=true)(j:Nat)(hj:j∈ds/\(ch.any λc=>Nat.beq c j)=true)(e:cv[Ug ch j]? =some (ob kb v)):kb=true:=by
 have h:=uD.1 hd j hj.1;all_goals grind [ob]
def tZ (c:Cm):List Value:=(cP c).toList
theorem nxj(c:Cm):(tZ c).length=73:=rfl
theorem MZ(c:Cm):∀u∈tZ c,u.oneCell'=true:=LD rfl
def JK (o:Ow):List Value:=(HC o).toList
theorem nbk(o:Ow):(JK o).length=2:=rfl
theorem M1(o:Ow):∀u∈JK o,u.oneCell'=true:=LD rfl
theorem OJ.swpK{Q:bE}{D:List Deferred}{ops:Array Oper}{l:List Oper}{p q:Nat×Obj}(k:OJ C ops Q l E D G L (q::p::H)):OJ C ops Q l E D G L (p::q::H):=OJ.perm (List.Perm.swap _ _ _) k
abbrev s9 (pp vv:Int):Ch:=⟨1,0,pp,vv,0⟩
theorem M3:prog.info? 61=some Tryz.t61:=by kernel_rfl
theorem M4:prog.info? 71=some Tryz.t71:=by kernel_rfl
theorem Uh:jM prog 24 61 73:=⟨underlying24,Tryz.t61,.agg (cP zCm),M3,rfl,rfl,rfl,by decide⟩
theorem Ui:jM prog 23 71 2:=⟨underlying23,Tryz.t71,.agg #[ab 0,ab 0],M4,rfl,rfl,rfl,by decide⟩
theorem oS.at_{fo:Int}(h:oS Z fo ch c)(hC:dC N w c)(hS:St G L H W)(hw:w∈L)(hN:N<=w.heap.size)(h1:∀u,c.ca=some u->¬G.X u.block/\bN H u.block)(h2:∀u,c.pa=some u->¬G.X u.block/\bN H u.block):dC W.heap.size W c:=
 ⟨hC.chs.toG hS hw hN λb off e=>.inr λ_=>h1 _ e,hC.path.toG hS hw hN λb off e=>.inr λ_=>h2 _ e,.inl h.b,.inl h.w,λx hx=>(by rw[h.b]at hx;cases hx),λx hx=>(by rw[h.w]at hx;cases hx)⟩
theorem ab6(hZ:FxOk Z)(h:oS Z 6 ch c)(dG:bO c)(N:Nat)(w:World)(hN:N<=w.heap.size)(hC:dC N w c)(hg:Glb w):Calls prog 83 #[.agg (bJ G6),.agg (cP c)] w (dc w (λJ:Gv=>.tuple #[.agg (bJ J),ab 0]) (λ_ _=>True)):=
 (nxd hZ G6 c dG N w hN (Bu _ _) hC hg).mono (by
  have h0:iB Z (gZ 6) c=0:=h.next hZ fd6;rintro e w' ⟨X,rfl,hb,_⟩;exact⟨X,by show Ending.returned _=_;rw[show iB Z G6.g c=0 from h0],hb,trivial⟩)
theorem Uj{x:Ch}(h:W.heap[b]? =some (.cells (gM x) t fr)):ai gM 5 W.heap.size W (ao b) [x]:=
 .inr ⟨b,0,_,t,fr,rfl,(bB.1 h).1,h,λi hi=>by
  have:i=0:=by simpa using hi
  subst this;exact⟨aj 5,rfl⟩⟩
theorem nyo{α:Type}{enc:α->List Value}{cap:Nat}{xs:List α}{sp:List Value}(hm:∀x,(enc x).length=m)(hf:(Rw.row b cap sp).Fit m xs)(h:W.heap[b]? =some (bj enc t xs sp)):ai (λx=>(enc x).toArray) m W.heap.size W (ao b) xs:=by
 obtain⟨a,cp,he,aI⟩:=(Rw.row b cap sp).sl hm hf (show(Rw.row b cap sp).At enc t xs W from h) (aj _);exact zki
theorem M5(hZ:FxOk Z)(pp vv:Int)(sj:HT (s9 pp vv))(hv0:vv=(Z.ge 4 300).1)(bx bq bh bm tx tq:Nat)(w:World)(yk:w.heap[bx]? =some (oC (gM (s9 pp vv)) tx))(pI:w.heap[bq]? =some (oC #[ab 5000] tq))(fx:w.heap[bh]? =some (oC #[ak,ak,ak,ak,ak,ak,ak,ak,ak,ak,.map (some bm)] 79))(o9:w.heap[bm]? =some ((Mp.mk [] 0).obj (id:Value->Value) []))(hne:bh≠bm/\bx≠bh/\bx≠bm/\bq≠bh/\bq≠bm)(ht:6<=bh/\6<=bm)(hg:Glb w)(MT:Lab w):Calls prog 42 #[ptr bh 0,.agg (bJ G6),ab 0,.agg (dg λ_=>0),.slice (ao bx) 1 1,.slice (ao bq) 1 1] w (H2 w [bh,bm] (λ_:Cm×(Nat×Nat)×(Nat×Nat)×(Nat×Nat)×(Nat×Nat)=>cD) (λq=>[(bh,oC #[ak,.slice (ao q.2.1.1) 1 q.2.1.2,.slice (ao q.2.2.1.1) 1 q.2.2.1.2,ak,ak,ak,ak,ak,.slice (ao q.2.2.2.1.1) 1 q.2.2.2.1.2,.slice (ao q.2.2.2.2.1) 1 q.2.2.2.2.2,.map (some bm)] 79)]) (λq w'=>oS Z 6 (s9 pp vv) q.1/\bO q.1/\dC w'.heap.size w' q.1/\ai HC 2 w'.heap.size w' (ao q.2.1.1) [(0,pp)]/\ai cP 73 w'.heap.size w' (ao q.2.2.1.1) [q.1]/\w.heap.size<=q.2.1.1/\w.heap.size<=q.2.2.1.1/\(∀u,q.1.ca=some u->w.heap.size<=u.block)/\∀u,q.1.pa=some u->w.heap.size<=u.block)):=by
 have kS:=hg.lt;obtain⟨pM,tO,Cq,kd,jh⟩:=hne;obtain⟨kY,jU⟩:=ht;have lb:=(bB.1 fx).1;have Cb:=(bB.1 o9).1;have iR:=(bB.1 yk).1;have jq:=(bB.1 pI).1;refine nB (vs:=[_,_,_,_,_,_]) (Gh.lent (λk=>k∈keys [(bh,oC #[ak,ak,ak,ak,ak,ak,ak,ak,ak,ak,.map (some bm)] 79),(bm,(Mp.mk [] 0).obj (id:Value->Value) [])])) [(bh,oC #[ak,ak,ak,ak,ak,ak,ak,ak,ak,ak,.map (some bm)] 79),(bm,(Mp.mk [] 0).obj (id:Value->Value) [])] func42 rfl ntmps42 rfl (HF (fP.mem ⟨fx,o9,trivial⟩) (W4 pM)) ?_;refine cK 2 ?_;intro b7 w7 QD Vq kt kh vY;refine yX ?_;intro b9 w9 sA gI Zl xP uh;refine aF 9 (ab 0) ?_;refine B 4 ?_;refine CJ.less (E':=[(0,_),(1,_),(2,_),(3,_),(4,_),(5,_),(7,_),(9,_),(12,_),(13,_),(20,_),(21,_),(22,_),(23,_),(24,_)]) zR ?_;refine dN 20 [11,12,13,14,16,17,18,19] [[],[0],[0,1],[0,1],[],[],[0,1,2,4,5],[0,1,2,3,4,5,6]] (λcv L' H'=>∃(c:Cm) (fs:Nat->Int) (wk:World) (eJ:Nat) (dU:Nat) (dK jB jI gz eI fB kE pW:Bool),cv=[ob dK (.tuple #[.agg (cP c),.agg (dg fs),ab 0]),ob jB (.tuple #[.agg (cP c),.agg (dg fs),ab 0]),ob jI (.agg (cP c)),ob gz (.agg (dg fs)),ob eI (ptr eJ 0),ob fB (ptr dU 0),ob kE (.tuple #[]),ob pW (.tuple #[])]/\L'=(if dK then[wk]else[])++[w9,w7,w]/\H'=(if fB then[(dU,Obj.cells (dg (if pW then fs else λ_=>0)) 127 (0,0))]else[])++((if eI then[(eJ,Obj.cells (cP (if kE then c else zCm)) 61 (0,0))]else[])++[(bh,oC #[ak,ak,ak,ak,ak,ak,ak,ak,ak,ak,.map (some bm)] 79),(bm,(Mp.mk [] 0).obj (id:Value->Value) [])])/\(dK=true->oS Z 6 (s9 pp vv) c/\bO c/\dC wk.heap.size wk c/\ey fs/\(∀u,c.ca=some u->w.heap.size<=u.block/\u.block<wk.heap.size)/\(∀u,c.pa=some u->w.heap.size<=u.block/\u.block<wk.heap.size)/\w.heap.size<=wk.heap.size)/\(eI=true->w9.heap.size<=eJ)/\(fB=true->w9.heap.size<=dU)/\(dK=true->eI=true->((∀u,c.ca=some u->eJ≠u.block)/\∀u,c.pa=some u->eJ≠u.block))/\(dK=true->fB=true->((∀u,c.ca=some u->dU≠u.block)/\∀u,c.pa=some u->dU≠u.block))/\(jB=true->dK=true)/\(jI=true->dK=true)/\(gz=true->dK=true)/\(kE=true->dK=true/\eI=true)/\(pW=true->dK=true/\fB=true)) ⟨zCm,(λ_=>0),w,0,0,false,false,false,false,false,false,false,false,rfl,rfl,rfl,λh=>zQ,λh=>zQ,λh=>zQ,λh=>zQ,λh=>zQ,λh=>zQ,λh=>zQ,λh=>zQ,λh=>zQ,λh=>zQ⟩ (lH (λcv L' H' hl hd hP=>by obtain⟨c,fs,wk,eJ,dU,dK,jB,jI,gz,eI,fB,kE,pW,rfl,rfl,rfl,f11,f16,f17,d14,d15,g12,g13,g14,g18,g19⟩:=hP;exact X.v (gh isAgg53 sizeOf53 rfl (cG _ A1) QD Vq zxb rfl)) (qn 2 (k:=by exact lH (λcv L' H' _ _ hP=>nf call80 rfl rfl (λW hS _=>n4h W) (λ_=>rfl)) (qn 2 (k:=by exact lH (λcv L' H' _ _ hP=>nf call82 rfl rfl (λW hS _=>n9o W) (λ_=>rfl)) (lH (λcv L' H' hl hd hP=>by obtain⟨c,fs,wk,eJ,dU,dK,jB,jI,gz,eI,fB,kE,pW,rfl,rfl,rfl,f11,f16,f17,d14,d15,g12,g13,g14,g18,g19⟩:=hP;exact X.v (gh isAgg127 sizeOf127 rfl (cG _ A0) sA gI zxb rfl)) (qn 1 (k:=by exact lH (λcv L' H' _ _ hP=>X.v (RV.re (v':=C6) (vS (m:=0) underlying3 underlying5 rfl zz zz) rfl)) (qn 5 (k:=by exact lH (λcv L' H' hl hd hP=>by obtain⟨c,fs,wk,eJ,dU,dK,jB,jI,gz,eI,fB,kE,pW,rfl,rfl,rfl,f11,f16,f17,d14,d15,g12,g13,g14,g18,g19⟩:=hP;obtain rfl:jB=true:=Bv hd 12 zz rfl;exact X.v (ji rfl rfl)) LJ)))))))))) (sp:=[some (.agg (bJ G6)),_,_,_,_,_,_,some (.agg (dg λ_=>0)),_,_,some (.agg (dg (Xl 2))),_,_,_,_,some (ab 0),_,_,_,_]) ?_ ?_
 ·refine nc rfl rfl ?_ ?_
  ·intro cv L' H' hl hr hP F Q' hk;obtain⟨c,fs,wk,eJ,dU,dK,jB,jI,gz,eI,fB,kE,pW,rfl,rfl,rfl,f11,f16,f17,d14,d15,g12,g13,g14,g18,g19⟩:=hP;obtain rfl:dK=false:=nW hr rfl;show OJ _ _ _ _ _ _ _ [w9,w7,w] _;refine ny (α:=Cm×(Nat->Int)) (v:=λq=>.tuple #[.agg (cP q.1),.agg (dg q.2),ab 0]) (Φ:=λW q w1=>oS Z 6 (s9 pp vv) q.1/\bO q.1/\dC w1.heap.size w1 q.1/\ey q.2/\(∀u,q.1.ca=some u->W.heap.size<=u.block)/\∀u,q.1.pa=some u->W.heap.size<=u.block) call81 rfl rfl rfl (λW hS=>nVm hZ (s9 pp vv) sj hv0 W.heap.size (ao bx) 1 (Xl 1) (Xl 2) (MV 1 zz) W (aj _) (Uj (hS.old A2 yk yw zxb)) (hg.old hS A2 (λk hk=>by simp only[Gh.lent,keys,dP,fu,cd,dZ,or_false];omega) (by have g16:=f16;have g17:=f17;cases eI<;>cases fB<;>simp[Over]at g16 g17 ⊢ <;>omega)) (MT.old hS A2 yw zxb)) ?_;rintro Wk ⟨c_,gO⟩ e8 wg EZ ⟨xz,dG,CS,qS,M6,M7⟩;dsimp only at xz dG CS qS M6 M7;have tI:=(wg.links w A2).size;have hK:∀u,c_.ca=some u->u.block<e8.heap.size:=λu hu=>by obtain⟨b,off,_,_,_,e,h,_⟩:=CS.chs.get (by rw[xz.ct];show 0<1;decide);rw[hu]at e;cases e;exact h
   have gp:∀u,c_.pa=some u->u.block<e8.heap.size:=λu hu=>by obtain⟨b,off,_,_,_,e,h,_⟩:=CS.path.get (by rw[xz.pl];decide);rw[hu]at e;cases e;exact h
   obtain rfl:jB=false:=by cases jB;(rfl);exact absurd (g12 rfl) zI
   obtain rfl:jI=false:=by cases jI;(rfl);exact absurd (g13 rfl) zI
   obtain rfl:gz=false:=by cases gz;(rfl);exact absurd (g14 rfl) zI
   obtain rfl:kE=false:=by cases kE;(rfl);exact absurd (g18 rfl).1 zI
   obtain rfl:pW=false:=by cases pW;(rfl);exact absurd (g19 rfl).1 zI
   exact OJ.done (hk _ _ _ ⟨c_,gO,e8,eJ,dU,true,false,false,false,eI,fB,false,false,rfl,rfl,rfl,λ_=>⟨xz,dG,CS,qS,λu hu=>⟨(by have:=M6 u hu;omega),hK u hu⟩,λu hu=>⟨(by have:=M7 u hu;omega),gp u hu⟩,(by have h9:=EZ.size;omega)⟩,f16,f17,λ_ h=>(by subst h;have gz:=wg.lt (eJ,_) (cG _ (td _ A0));dsimp only at gz;exact⟨λu hu=>(by have:=M6 u hu;omega),λu hu=>(by have:=M7 u hu;omega)⟩),λ_ h=>(by subst h;have hs:=wg.lt (dU,_) (td _ A0);dsimp only at hs;exact⟨λu hu=>(by have:=M6 u hu;omega),λu hu=>(by have:=M7 u hu;omega)⟩),λh=>zQ,λh=>zQ,λh=>zQ,λh=>zQ,λh=>zQ⟩)
  refine nc rfl rfl ?_ ?_
  ·intro cv L' H' hl hr hP F Q' hk;obtain⟨c,fs,wk,eJ,dU,dK,jB,jI,gz,eI,fB,kE,pW,rfl,rfl,rfl,f11,f16,f17,d14,d15,g12,g13,g14,g18,g19⟩:=hP;obtain rfl:dK=true:=nu hr 0 zz rfl;obtain rfl:jB=false:=nW hr rfl;refine B 1 ?_;exact OJ.done (hk _ _ _ ⟨c,fs,wk,eJ,dU,true,true,jI,gz,eI,fB,kE,pW,rfl,rfl,rfl,f11,f16,f17,d14,d15,λ_=>rfl,g13,g14,g18,g19⟩)
  refine nc rfl rfl ?_ ?_
  ·intro cv L' H' hl hr hP F Q' hk;obtain⟨c,fs,wk,eJ,dU,dK,jB,jI,gz,eI,fB,kE,pW,rfl,rfl,rfl,f11,f16,f17,d14,d15,g12,g13,g14,g18,g19⟩:=hP;obtain rfl:dK=true:=nu hr 0 zz rfl;obtain rfl:jB=true:=nu hr 1 zz rfl;obtain rfl:jI=false:=nW hr rfl;refine B 1 ?_;exact OJ.done (hk _ _ _ ⟨c,fs,wk,eJ,dU,true,true,true,gz,eI,fB,kE,pW,rfl,rfl,rfl,f11,f16,f17,d14,d15,g12,λ_=>rfl,g14,g18,g19⟩)
  refine nc rfl rfl ?_ ?_
  ·intro cv L' H' hl hr hP F Q' hk;obtain⟨c,fs,wk,eJ,dU,dK,jB,jI,gz,eI,fB,kE,pW,rfl,rfl,rfl,f11,f16,f17,d14,d15,g12,g13,g14,g18,g19⟩:=hP;obtain rfl:dK=true:=nu hr 0 zz rfl;obtain rfl:jB=true:=nu hr 1 zz rfl;obtain rfl:gz=false:=nW hr rfl;refine B 1 ?_;exact OJ.done (hk _ _ _ ⟨c,fs,wk,eJ,dU,true,true,jI,true,eI,fB,kE,pW,rfl,rfl,rfl,f11,f16,f17,d14,d15,g12,g13,λ_=>rfl,g18,g19⟩)
  refine nc rfl rfl ?_ ?_
  ·intro cv L' H' hl hr hP F Q' hk;obtain⟨c,fs,wk,eJ,dU,dK,jB,jI,gz,eI,fB,kE,pW,rfl,rfl,rfl,f11,f16,f17,d14,d15,g12,g13,g14,g18,g19⟩:=hP;obtain rfl:eI=false:=nW hr rfl;obtain rfl:kE=false:=by cases kE;(rfl);exact absurd (g18 rfl).2 zI
   refine B 1 ?_;intro b_ pN iA;have fm:w9.heap.size<=b_:=pN.mem w9 zI;have ft:dK=true->true=true->(∀u,c.ca=some u->b_≠u.block)/\∀u,c.pa=some u->b_≠u.block:=λh _=>zRc;cases fB with
   |false=>exact OJ.done (hk _ _ _ ⟨c,fs,wk,b_,dU,dK,jB,jI,gz,true,false,false,pW,rfl,rfl,rfl,f11,λ_=>fm,f17,ft,d15,g12,g13,g14,λh=>zQ,g19⟩)
   |true=>exact OJ.swpK (OJ.done (hk _ _ _ ⟨c,fs,wk,b_,dU,dK,jB,jI,gz,true,true,false,pW,rfl,rfl,rfl,f11,λ_=>fm,f17,ft,d15,g12,g13,g14,λh=>zQ,g19⟩))
  refine nc rfl rfl ?_ ?_
  ·intro cv L' H' hl hr hP F Q' hk;obtain⟨c,fs,wk,eJ,dU,dK,jB,jI,gz,eI,fB,kE,pW,rfl,rfl,rfl,f11,f16,f17,d14,d15,g12,g13,g14,g18,g19⟩:=hP;obtain rfl:fB=false:=nW hr rfl;obtain rfl:pW=false:=by cases pW;(rfl);exact absurd (g19 rfl).2 zI
   refine B 1 ?_;intro b_ pN iA;have gV:w9.heap.size<=b_:=pN.mem w9 zI;exact OJ.done (hk _ _ _ ⟨c,fs,wk,eJ,b_,dK,jB,jI,gz,eI,true,kE,false,rfl,rfl,rfl,f11,f16,λ_=>gV,d14,λh _=>zRc,g12,g13,g14,g18,λh=>zQ⟩)
  refine nc rfl rfl ?_ ?_
  ·intro cv L' H' hl hr hP F Q' hk;obtain⟨c,fs,wk,eJ,dU,dK,jB,jI,gz,eI,fB,kE,pW,rfl,rfl,rfl,f11,f16,f17,d14,d15,g12,g13,g14,g18,g19⟩:=hP;obtain rfl:dK=true:=nu hr 0 zz rfl;obtain rfl:jB=true:=nu hr 1 zz rfl;obtain rfl:jI=true:=nu hr 2 zz rfl;obtain rfl:eI=true:=nu hr 4 zz rfl;obtain rfl:fB=true:=nu hr 5 zz rfl;obtain rfl:kE=false:=nW hr rfl;refine B 1 ?_;exact OJ.done (hk (.tuple #[]) _ _ ⟨c,fs,wk,eJ,dU,true,true,true,gz,true,true,true,pW,rfl,rfl,rfl,f11,f16,f17,d14,d15,g12,g13,g14,λ_=>⟨rfl,rfl⟩,g19⟩)
  refine nc rfl rfl ?_ ?_
  ·intro cv L' H' hl hr hP F Q' hk;obtain⟨c,fs,wk,eJ,dU,dK,jB,jI,gz,eI,fB,kE,pW,rfl,rfl,rfl,f11,f16,f17,d14,d15,g12,g13,g14,g18,g19⟩:=hP;obtain rfl:dK=true:=nu hr 0 zz rfl;obtain rfl:jB=true:=nu hr 1 zz rfl;obtain rfl:jI=true:=nu hr 2 zz rfl;obtain rfl:gz=true:=nu hr 3 zz rfl;obtain rfl:eI=true:=nu hr 4 zz rfl;obtain rfl:fB=true:=nu hr 5 zz rfl;obtain rfl:kE=true:=nu hr 6 zz rfl;obtain rfl:pW=false:=nW hr rfl;refine B 1 ?_;exact OJ.done (hk (.tuple #[]) _ _ ⟨c,fs,wk,eJ,dU,true,true,true,true,true,true,true,true,rfl,rfl,rfl,f11,f16,f17,d14,d15,g12,g13,g14,g18,λ_=>⟨rfl,rfl⟩⟩)
  exact nn
 intro cv L' H' hl hr hP;obtain⟨c,fs,wk,eJ,dU,dK,jB,jI,gz,eI,fB,kE,pW,rfl,rfl,rfl,f11,f16,f17,d14,d15,g12,g13,g14,g18,g19⟩:=hP;obtain rfl:dK=true:=nY hr 0 rfl;obtain rfl:jB=true:=nY hr 1 rfl;obtain rfl:jI=true:=nY hr 2 rfl;obtain rfl:gz=true:=nY hr 3 rfl;obtain rfl:eI=true:=nY hr 4 rfl;obtain rfl:fB=true:=nY hr 5 rfl;obtain rfl:kE=true:=nY hr 6 rfl;obtain rfl:pW=true:=nY hr 7 rfl;obtain⟨xz,dG,CS,qS,e5,WX,iL⟩:=f11 rfl;have jX:=f16 rfl;have Fu:=f17 rfl;have d14:=d14 rfl rfl;have d15:=d15 rfl rfl;show OJ _ _ _ _ _ _ _ [wk,w9,w7,w] [(dU,oC (dg fs) 127),(eJ,oC (cP c) 61),(bh,oC #[ak,ak,ak,ak,ak,ak,ak,ak,ak,ak,.map (some bm)] 79),(bm,(Mp.mk [] 0).obj (id:Value->Value) [])];refine aF 5 (.agg (bJ G6)) ?_;refine du (.agg (cP c)) ?_;refine ny (α:=Gv) (v:=λXg:Gv=>.tuple #[.agg (bJ Xg),ab 0]) (Φ:=λ_ _ _=>True) call83 rfl rfl rfl (λW hS=>ab6 hZ xz dG W.heap.size W (aj _) (xz.at_ CS hS A0 (aj _) (λu hu=>by have h8:=e5 u hu;have h6:=d14.1 u hu;have h7:=d15.1 u hu;exact⟨by simp only[Gh.lent,keys,dP,fu,cd,dZ,or_false];omega,by simp only[bN,dA,eh,ne_eq,and_true];omega⟩) (λu hu=>by have h8:=WX u hu;have h6:=d14.2 u hu;have h7:=d15.2 u hu;exact⟨by simp only[Gh.lent,keys,dP,fu,cd,dZ,or_false];omega,by simp only[bN,dA,eh,ne_eq,and_true];omega⟩)) (hg.old hS A3 (λk hk=>by simp only[Gh.lent,keys,dP,fu,cd,dZ,or_false];omega) zD)) ?_
 rintro Wx Xg wx kA kO -;refine bM 4 ?_;intro qv jv jP;refine aF 8 bH ?_;refine B 2 ?_;refine wX ?_;refine CJ.less (E':=[(0,_),(1,_),(2,_),(3,_),(4,_),(5,_),(7,_),(9,_),(12,_),(13,_),(14,_),(15,_),(16,_),(17,_),(18,_),(20,_),(21,_),(22,_),(23,_),(24,_),(25,_),(26,_),(27,_),(28,_),(29,_),(30,_),(31,_),(32,_),(33,_),(34,_),(35,_),(36,_),(37,_),(38,_),(39,_),(40,_),(41,_),(42,_),(43,_),(44,_),(45,_),(46,_),(47,_),(48,_),(49,_),(50,_),(51,_),(52,_)]) zR ?_;refine dN 32 [7,9,10,14,16,17,23,24,28,31] [[],[],[0,1],[],[],[0,1,2,3,4],[],[0,1,2,3,4,5,6],[0,1,2,3,4,5,6,7],[0,1,2,3,4,5,6,7,8]] (λcv L' H'=>∃(lK:Nat) (mm:World) (kW:Nat) (lR:World) (kQ:Nat) (lL:World) (J:Nat) (ke:Nat) (jC:List Value) (fQ:Nat) (kf:Nat) (jD:List Value) (gA:Nat) (kF:Nat) (jE:List Value) (k7 k9 eT gz eI fB mq kG kH kI:Bool),cv=[ob k7 (ak),ob k9 (.slice (ao lK) 1 1),ob eT (.slice (ao J) 1 ke),ob gz (ak),ob eI (.slice (ao kW) 1 1),ob fB (.slice (ao fQ) 1 kf),ob mq (.slice (ao kQ) 1 1),ob kG (.slice (ao gA) 1 kF),ob kH (.tuple #[]),ob kI (.tuple #[])]/\L'=(if mq then[lL]else[])++((if eI then[lR]else[])++((if k9 then[mm]else[])++[wx,wk,w9,w7,w]))/\H'=(if kG then[(gA,bj cZ 127 [dk fs] jE)]else[])++((if fB then[(fQ,bj lP 53 [Xg] jD)]else[])++((if eT then[(J,bj tZ 61 [c] jC)]else[])++[(qv,Obj.cells (bJ Xg) 53 (0,0)),(dU,Obj.cells (dg fs) 127 (0,0)),(eJ,Obj.cells (cP c) 61 (0,0)),(bh,Obj.cells #[ak,ak,(if kH then Value.slice (ao J) 1 ke else ak),ak,ak,ak,ak,ak,(if kI then Value.slice (ao fQ) 1 kf else ak),ak,.map (some bm)] 79 (0,0)),(bm,(Mp.mk [] 0).obj (id:Value->Value) [])]))/\(k9=true->mm.heap[lK]? =some (oC (cP c) 61)/\mm.heap.size=lK+1/\¬(Gh.lent (λk=>k∈keys [(bh,oC #[ak,ak,ak,ak,ak,ak,ak,ak,ak,ak,.map (some bm)] 79),(bm,(Mp.mk [] 0).obj (id:Value->Value) [])])).X lK/\qv≠lK/\dU≠lK/\eJ≠lK/\bh≠lK/\bm≠lK/\w.heap.size<=lK)/\(eI=true->lR.heap[kW]? =some (oC (bJ Xg) 53)/\lR.heap.size=kW+1/\¬(Gh.lent (λk=>k∈keys [(bh,oC #[ak,ak,ak,ak,ak,ak,ak,ak,ak,ak,.map (some bm)] 79),(bm,(Mp.mk [] 0).obj (id:Value->Value) [])])).X kW/\qv≠kW/\dU≠kW/\eJ≠kW/\bh≠kW/\bm≠kW/\w.heap.size<=kW)/\(mq=true->lL.heap[kQ]? =some (oC (dg fs) 127)/\lL.heap.size=kQ+1/\¬(Gh.lent (λk=>k∈keys [(bh,oC #[ak,ak,ak,ak,ak,ak,ak,ak,ak,ak,.map (some bm)] 79),(bm,(Mp.mk [] 0).obj (id:Value->Value) [])])).X kQ/\qv≠kQ/\dU≠kQ/\eJ≠kQ/\bh≠kQ/\bm≠kQ/\w.heap.size<=kQ)/\(eT=true->(Rw.row J ke jC).Fit 73 [c]/\wk.heap.size<=J)/\(fB=true->(Rw.row fQ kf jD).Fit 36 [Xg]/\wk.heap.size<=fQ)/\(kG=true->(Rw.row gA kF jE).Fit 32 [dk fs]/\wk.heap.size<=gA)/\(eT=true->eI=true->J≠kW)/\(eT=true->mq=true->J≠kQ)/\(fB=true->mq=true->fQ≠kQ)/\(eT=true->k9=true/\k7=true)/\(fB=true->eT=true/\eI=true/\gz=true)/\(kG=true->fB=true/\mq=true)/\(kH=true->kG=true)/\(kI=true->kH=true)) ⟨0,w,0,w,0,w,0,0,[],0,0,[],0,0,[],false,false,false,false,false,false,false,false,false,false,rfl,rfl,rfl,λh=>zQ,λh=>zQ,λh=>zQ,λh=>zQ,λh=>zQ,λh=>zQ,λh _=>zQ,λh _=>zQ,λh _=>zQ,λh=>zQ,λh=>zQ,λh=>zQ,λh=>zQ,λh=>zQ⟩ (qn 8 (k:=by exact lH (λcv L' H' hl hd hP=>by obtain⟨lK,mm,kW,lR,kQ,lL,J,ke,jC,fQ,kf,jD,gA,kF,jE,k7,k9,eT,gz,eI,fB,mq,kG,kH,kI,rfl,rfl,rfl,f9,f16,f23,f10,f17,f24,fe,ff,gB,g10,g17,g24,sG,sH⟩:=hP;exact X.v (nDj (cG _ (cG _ (cG _ A2))) isAgg61 sizeOf61 rfl rfl)) (qn 6 (k:=by exact lH (λcv L' H' hl hd hP=>by obtain⟨lK,mm,kW,lR,kQ,lL,J,ke,jC,fQ,kf,jD,gA,kF,jE,k7,k9,eT,gz,eI,fB,mq,kG,kH,kI,rfl,rfl,rfl,f9,f16,f23,f10,f17,f24,fe,ff,gB,g10,g17,g24,sG,sH⟩:=hP;exact X.v (nDj (cG _ (cG _ (cG _ A0))) isAgg53 sizeOf53 rfl rfl)) (qn 5 (k:=by exact lH (λcv L' H' hl hd hP=>by obtain⟨lK,mm,kW,lR,kQ,lL,J,ke,jC,fQ,kf,jD,gA,kF,jE,k7,k9,eT,gz,eI,fB,mq,kG,kH,kI,rfl,rfl,rfl,f9,f16,f23,f10,f17,f24,fe,ff,gB,g10,g17,g24,sG,sH⟩:=hP;exact X.v (ab4 (cG _ (cG _ (cG _ A3))) isAgg76 rfl rfl)) (lH (λcv L' H' hl hd hP=>by obtain⟨lK,mm,kW,lR,kQ,lL,J,ke,jC,fQ,kf,jD,gA,kF,jE,k7,k9,eT,gz,eI,fB,mq,kG,kH,kI,rfl,rfl,rfl,f9,f16,f23,f10,f17,f24,fe,ff,gB,g10,g17,g24,sG,sH⟩:=hP;exact X.v (nDj (cG _ (cG _ (cG _ A1))) isAgg127 sizeOf127 rfl rfl)) LJ))))))) (sp:=[_,_,_,_,_,_,_,_,some (.agg (cP c)),_,_,_,_,_,_,some (.agg (bJ Xg)),_,_,_,_,_,some (ak),some (.agg (dg fs)),_,_,_,_,_,_,_,_,_]) ?_ ?_
 ·refine nc rfl rfl ?_ ?_
  ·intro cv L' H' hl hr hP F Q' hk;obtain⟨lK,mm,kW,lR,kQ,lL,J,ke,jC,fQ,kf,jD,gA,kF,jE,k7,k9,eT,gz,eI,fB,mq,kG,kH,kI,rfl,rfl,rfl,f9,f16,f23,f10,f17,f24,fe,ff,gB,g10,g17,g24,sG,sH⟩:=hP;obtain rfl:k7=false:=nW hr rfl;obtain rfl:eT=false:=by cases eT;(rfl);exact absurd ((g10 rfl).2) zI
   obtain rfl:fB=false:=by cases fB;(rfl);exact absurd ((g17 rfl).1) zI
   obtain rfl:kG=false:=by cases kG;(rfl);exact absurd ((g24 rfl).1) zI
   obtain rfl:kH=false:=by cases kH;(rfl);exact absurd (sG rfl) zI
   obtain rfl:kI=false:=by cases kI;(rfl);exact absurd (sH rfl) zI
   refine B 1 ?_;exact OJ.done (hk _ _ _ ⟨lK,mm,kW,lR,kQ,lL,J,ke,jC,fQ,kf,jD,gA,kF,jE,true,k9,false,gz,eI,false,mq,false,false,false,rfl,rfl,rfl,f9,f16,f23,λh=>zQ,λh=>zQ,λh=>zQ,λh _=>zQ,λh _=>zQ,λh _=>zQ,λh=>zQ,λh=>zQ,λh=>zQ,λh=>zQ,λh=>zQ⟩)
  refine nc rfl rfl ?_ ?_
  ·intro cv L' H' hl hr hP F Q' hk;obtain⟨lK,mm,kW,lR,kQ,lL,J,ke,jC,fQ,kf,jD,gA,kF,jE,k7,k9,eT,gz,eI,fB,mq,kG,kH,kI,rfl,rfl,rfl,f9,f16,f23,f10,f17,f24,fe,ff,gB,g10,g17,g24,sG,sH⟩:=hP;obtain rfl:k9=false:=nW hr rfl;obtain rfl:eT=false:=by cases eT;(rfl);exact absurd ((g10 rfl).1) zI
   obtain rfl:fB=false:=by cases fB;(rfl);exact absurd ((g17 rfl).1) zI
   obtain rfl:kG=false:=by cases kG;(rfl);exact absurd ((g24 rfl).1) zI
   obtain rfl:kH=false:=by cases kH;(rfl);exact absurd (sG rfl) zI
   obtain rfl:kI=false:=by cases kI;(rfl);exact absurd (sH rfl) zI
   refine rJ underlying24 sizeOf61 zeroValue61 rfl rfl rfl rfl rfl rfl rfl ?_;intro b_ w_ sZ pN iA xy yz;have wo:qv≠b_/\dU≠b_/\eJ≠b_/\bh≠b_/\bm≠b_/\w.heap.size<=b_:=⟨λe=>iA.mem (bU.2 ⟨_,(cG _ (cG _ (cG _ A0))),e⟩),λe=>iA.mem (bU.2 ⟨_,(cG _ (cG _ (cG _ A1))),e⟩),λe=>iA.mem (bU.2 ⟨_,(cG _ (cG _ (cG _ A2))),e⟩),λe=>iA.mem (bU.2 ⟨_,(cG _ (cG _ (cG _ A3))),e⟩),λe=>iA.mem (bU.2 ⟨_,(cG _ (cG _ (cG _ A4))),e⟩),pN.mem w zI⟩;exact OJ.done (B7 ab5 (hk _ _ _ ⟨b_,w_,kW,lR,kQ,lL,J,ke,jC,fQ,kf,jD,gA,kF,jE,k7,true,false,gz,eI,false,mq,false,false,false,rfl,rfl,rfl,λ_=>⟨sZ,yz,xy,wo⟩,f16,f23,f10,f17,f24,λh _=>zQ,λh _=>zQ,λh _=>zQ,λh=>zQ,λh=>zQ,λh=>zQ,λh=>zQ,λh=>zQ⟩))
  refine nc rfl rfl ?_ ?_
  ·intro cv L' H' hl hr hP F Q' hk;obtain⟨lK,mm,kW,lR,kQ,lL,J,ke,jC,fQ,kf,jD,gA,kF,jE,k7,k9,eT,gz,eI,fB,mq,kG,kH,kI,rfl,rfl,rfl,f9,f16,f23,f10,f17,f24,fe,ff,gB,g10,g17,g24,sG,sH⟩:=hP;obtain rfl:k7=true:=nu hr 0 zz rfl;obtain rfl:k9=true:=nu hr 1 zz rfl;obtain rfl:eT=false:=nW hr rfl;obtain rfl:fB=false:=by cases fB;(rfl);exact absurd ((g17 rfl).1) zI
   obtain rfl:kG=false:=by cases kG;(rfl);exact absurd ((g24 rfl).1) zI
   obtain rfl:kH=false:=by cases kH;(rfl);exact absurd (sG rfl) zI
   obtain rfl:kI=false:=by cases kI;(rfl);exact absurd (sH rfl) zI
   obtain⟨sZ,yz,xy,n17,n15,n14,nh,nm,_⟩:=f9 rfl;refine jV (r:=.nil) (xs:=[]) (zs:=[c]) (enc:=tZ) (m:=73) (H0:=[]) (H1:=_) rfl Uh nxj rfl rfl rfl rfl (ck.one (z:=c) nxj MZ underlying24 (bF.old (cG _ (cG _ (td _ A0))) sZ xy ⟨n17,n15,n14,nh,nm,trivial⟩)) rfl True.intro zI zI ?_;intro b_ c_ s_ M8 iK;have pX:=M8.elim (λh=>h.elim) id;have eO:=pX.mem wk zI;exact OJ.done (hk _ _ _ ⟨lK,mm,kW,lR,kQ,lL,b_,c_,s_,fQ,kf,jD,gA,kF,jE,true,true,true,gz,eI,false,mq,false,false,false,rfl,rfl,rfl,f9,f16,f23,λ_=>⟨iK,eO⟩,f17,f24,λ_ h=>(by subst h;have h9:=pX.mem lR (cG _ (td _ A0));have h8:=(f16 rfl).2.1;omega),λ_ h=>(by subst h;have h9:=pX.mem lL (td _ A0);have h8:=(f23 rfl).2.1;omega),λh _=>zQ,λ_=>⟨rfl,rfl⟩,λh=>zQ,λh=>zQ,λh=>zQ,λh=>zQ⟩)
  refine nc rfl rfl ?_ ?_
  ·intro cv L' H' hl hr hP F Q' hk;obtain⟨lK,mm,kW,lR,kQ,lL,J,ke,jC,fQ,kf,jD,gA,kF,jE,k7,k9,eT,gz,eI,fB,mq,kG,kH,kI,rfl,rfl,rfl,f9,f16,f23,f10,f17,f24,fe,ff,gB,g10,g17,g24,sG,sH⟩:=hP;obtain rfl:gz=false:=nW hr rfl;obtain rfl:fB=false:=by cases fB;(rfl);exact absurd ((g17 rfl).2.2) zI
   obtain rfl:kG=false:=by cases kG;(rfl);exact absurd ((g24 rfl).1) zI
   obtain rfl:kH=false:=by cases kH;(rfl);exact absurd (sG rfl) zI
   obtain rfl:kI=false:=by cases kI;(rfl);exact absurd (sH rfl) zI
   cases eT with
   |false=>exact rv rfl rfl rfl (bV (i:=3) rfl isAgg75 rfl rfl) (OJ.done (hk _ _ _ ⟨lK,mm,kW,lR,kQ,lL,J,ke,jC,fQ,kf,jD,gA,kF,jE,k7,k9,false,true,eI,false,mq,false,false,false,rfl,rfl,rfl,f9,f16,f23,f10,λh=>zQ,λh=>zQ,fe,ff,λh _=>zQ,g10,λh=>zQ,λh=>zQ,λh=>zQ,λh=>zQ⟩))
   |true=>exact rv rfl rfl rfl (bV (i:=4) rfl isAgg75 rfl rfl) (OJ.done (hk _ _ _ ⟨lK,mm,kW,lR,kQ,lL,J,ke,jC,fQ,kf,jD,gA,kF,jE,k7,k9,true,true,eI,false,mq,false,false,false,rfl,rfl,rfl,f9,f16,f23,f10,λh=>zQ,λh=>zQ,fe,ff,λh _=>zQ,g10,λh=>zQ,λh=>zQ,λh=>zQ,λh=>zQ⟩))
  refine nc rfl rfl ?_ ?_
  ·intro cv L' H' hl hr hP F Q' hk;obtain⟨lK,mm,kW,lR,kQ,lL,J,ke,jC,fQ,kf,jD,gA,kF,jE,k7,k9,eT,gz,eI,fB,mq,kG,kH,kI,rfl,rfl,rfl,f9,f16,f23,f10,f17,f24,fe,ff,gB,g10,g17,g24,sG,sH⟩:=hP;obtain rfl:eI=false:=nW hr rfl;obtain rfl:fB=false:=by cases fB;(rfl);exact absurd ((g17 rfl).2.1) zI
   obtain rfl:kG=false:=by cases kG;(rfl);exact absurd ((g24 rfl).1) zI
   obtain rfl:kH=false:=by cases kH;(rfl);exact absurd (sG rfl) zI
   obtain rfl:kI=false:=by cases kI;(rfl);exact absurd (sH rfl) zI
   refine rJ underlying75 sizeOf53 zeroValue53 rfl rfl rfl rfl rfl rfl rfl ?_;intro b_ w_ sZ pN iA xy yz;have wo:qv≠b_/\dU≠b_/\eJ≠b_/\bh≠b_/\bm≠b_/\w.heap.size<=b_:=⟨λe=>iA.mem (bU.2 ⟨_,(cG _ (cG _ (cG _ A0))),e⟩),λe=>iA.mem (bU.2 ⟨_,(cG _ (cG _ (cG _ A1))),e⟩),λe=>iA.mem (bU.2 ⟨_,(cG _ (cG _ (cG _ A2))),e⟩),λe=>iA.mem (bU.2 ⟨_,(cG _ (cG _ (cG _ A3))),e⟩),λe=>iA.mem (bU.2 ⟨_,(cG _ (cG _ (cG _ A4))),e⟩),pN.mem w zI⟩;exact OJ.done (B7 H3 (hk _ _ _ ⟨lK,mm,b_,w_,kQ,lL,J,ke,jC,fQ,kf,jD,gA,kF,jE,k7,k9,eT,gz,true,false,mq,false,false,false,rfl,rfl,rfl,f9,λ_=>⟨sZ,yz,xy,wo⟩,f23,f10,f17,f24,λh _=>(by subst h;exact λe=>iA.mem (bU.2 ⟨_,(cG _ (cG _ (td _ A0))),e⟩)),ff,λh _=>zQ,g10,λh=>zQ,λh=>zQ,λh=>zQ,λh=>zQ⟩))
  refine nc rfl rfl ?_ ?_
  ·intro cv L' H' hl hr hP F Q' hk;obtain⟨lK,mm,kW,lR,kQ,lL,J,ke,jC,fQ,kf,jD,gA,kF,jE,k7,k9,eT,gz,eI,fB,mq,kG,kH,kI,rfl,rfl,rfl,f9,f16,f23,f10,f17,f24,fe,ff,gB,g10,g17,g24,sG,sH⟩:=hP;obtain rfl:k7=true:=nu hr 0 zz rfl;obtain rfl:k9=true:=nu hr 1 zz rfl;obtain rfl:eT=true:=nu hr 2 zz rfl;obtain rfl:gz=true:=nu hr 3 zz rfl;obtain rfl:eI=true:=nu hr 4 zz rfl;obtain rfl:fB=false:=nW hr rfl;obtain rfl:kG=false:=by cases kG;(rfl);exact absurd ((g24 rfl).1) zI
   obtain rfl:kH=false:=by cases kH;(rfl);exact absurd (sG rfl) zI
   obtain rfl:kI=false:=by cases kI;(rfl);exact absurd (sH rfl) zI
   obtain⟨sZ,yz,xy,n17,n15,n14,nh,nm,_⟩:=f16 rfl;refine jV (r:=.nil) (xs:=[]) (zs:=[Xg]) (enc:=lP) (m:=36) (H0:=[]) (H1:=_) rfl F8 Z9 rfl rfl rfl rfl (ck.one (z:=Xg) Z9 nxo underlying75 (bF.old (cG _ (td _ A0)) sZ xy ⟨fe rfl rfl,n17,n15,n14,nh,nm,trivial⟩)) rfl True.intro zI zI ?_;intro b_ c_ s_ M8 iK;have pX:=M8.elim (λh=>h.elim) id;have eO:=pX.mem wk zI;exact OJ.done (hk _ _ _ ⟨lK,mm,kW,lR,kQ,lL,J,ke,jC,b_,c_,s_,gA,kF,jE,true,true,true,true,true,true,mq,false,false,false,rfl,rfl,rfl,f9,f16,f23,f10,λ_=>⟨iK,eO⟩,f24,fe,ff,λ_ h=>(by subst h;have h9:=pX.mem lL (td _ A0);have h8:=(f23 rfl).2.1;omega),g10,λ_=>⟨rfl,rfl,rfl⟩,λh=>zQ,λh=>zQ,λh=>zQ⟩)
  refine nc rfl rfl ?_ ?_
  ·intro cv L' H' hl hr hP F Q' hk;obtain⟨lK,mm,kW,lR,kQ,lL,J,ke,jC,fQ,kf,jD,gA,kF,jE,k7,k9,eT,gz,eI,fB,mq,kG,kH,kI,rfl,rfl,rfl,f9,f16,f23,f10,f17,f24,fe,ff,gB,g10,g17,g24,sG,sH⟩:=hP;obtain rfl:mq=false:=nW hr rfl;obtain rfl:kG=false:=by cases kG;(rfl);exact absurd ((g24 rfl).2) zI
   obtain rfl:kH=false:=by cases kH;(rfl);exact absurd (sG rfl) zI
   obtain rfl:kI=false:=by cases kI;(rfl);exact absurd (sH rfl) zI
   refine rJ underlying76 sizeOf127 zeroValue127 rfl rfl rfl rfl rfl rfl rfl ?_;intro b_ w_ sZ pN iA xy yz;have wo:qv≠b_/\dU≠b_/\eJ≠b_/\bh≠b_/\bm≠b_/\w.heap.size<=b_:=⟨λe=>iA.mem (bU.2 ⟨_,(cG _ (cG _ (cG _ A0))),e⟩),λe=>iA.mem (bU.2 ⟨_,(cG _ (cG _ (cG _ A1))),e⟩),λe=>iA.mem (bU.2 ⟨_,(cG _ (cG _ (cG _ A2))),e⟩),λe=>iA.mem (bU.2 ⟨_,(cG _ (cG _ (cG _ A3))),e⟩),λe=>iA.mem (bU.2 ⟨_,(cG _ (cG _ (cG _ A4))),e⟩),pN.mem w zI⟩;exact OJ.done (B7 H4 (hk _ _ _ ⟨lK,mm,kW,lR,b_,w_,J,ke,jC,fQ,kf,jD,gA,kF,jE,k7,k9,eT,gz,eI,fB,true,false,false,false,rfl,rfl,rfl,f9,f16,λ_=>⟨sZ,yz,xy,wo⟩,f10,f17,f24,fe,λh _=>(by subst h;exact λe=>iA.mem (bU.2 ⟨_,(cG _ (cG _ (td _ A0))),e⟩)),λh _=>(by subst h;exact λe=>iA.mem (bU.2 ⟨_,(cG _ (td _ A0)),e⟩)),g10,g17,λh=>zQ,λh=>zQ,λh=>zQ⟩))
  refine nc rfl rfl ?_ ?_
  ·intro cv L' H' hl hr hP F Q' hk;obtain⟨lK,mm,kW,lR,kQ,lL,J,ke,jC,fQ,kf,jD,gA,kF,jE,k7,k9,eT,gz,eI,fB,mq,kG,kH,kI,rfl,rfl,rfl,f9,f16,f23,f10,f17,f24,fe,ff,gB,g10,g17,g24,sG,sH⟩:=hP;obtain rfl:k7=true:=nu hr 0 zz rfl;obtain rfl:k9=true:=nu hr 1 zz rfl;obtain rfl:eT=true:=nu hr 2 zz rfl;obtain rfl:gz=true:=nu hr 3 zz rfl;obtain rfl:eI=true:=nu hr 4 zz rfl;obtain rfl:fB=true:=nu hr 5 zz rfl;obtain rfl:mq=true:=nu hr 6 zz rfl;obtain rfl:kG=false:=nW hr rfl;obtain rfl:kH=false:=by cases kH;(rfl);exact absurd (sG rfl) zI
   obtain rfl:kI=false:=by cases kI;(rfl);exact absurd (sH rfl) zI
   obtain⟨sZ,yz,xy,n17,n15,n14,nh,nm,_⟩:=f23 rfl;refine jV (r:=.nil) (xs:=[]) (zs:=[(dk fs)]) (enc:=cZ) (m:=32) (H0:=[]) (H1:=_) rfl HN yj rfl rfl rfl rfl (ck.one (z:=(dk fs)) yj WG underlying76 (bF.old (td _ A0) sZ xy ⟨gB rfl rfl,ff rfl rfl,n17,n15,n14,nh,nm,trivial⟩)) rfl True.intro zI zI ?_;intro b_ c_ s_ M8 iK;have pX:=M8.elim (λh=>h.elim) id;have eO:=pX.mem wk zI;exact OJ.done (hk _ _ _ ⟨lK,mm,kW,lR,kQ,lL,J,ke,jC,fQ,kf,jD,b_,c_,s_,true,true,true,true,true,true,true,true,false,false,rfl,rfl,rfl,f9,f16,f23,f10,f17,λ_=>⟨iK,eO⟩,fe,ff,gB,g10,g17,λ_=>⟨rfl,rfl⟩,λh=>zQ,λh=>zQ⟩)
  refine nc rfl rfl ?_ ?_
  ·intro cv L' H' hl hr hP F Q' hk;obtain⟨lK,mm,kW,lR,kQ,lL,J,ke,jC,fQ,kf,jD,gA,kF,jE,k7,k9,eT,gz,eI,fB,mq,kG,kH,kI,rfl,rfl,rfl,f9,f16,f23,f10,f17,f24,fe,ff,gB,g10,g17,g24,sG,sH⟩:=hP;obtain rfl:k7=true:=nu hr 0 zz rfl;obtain rfl:k9=true:=nu hr 1 zz rfl;obtain rfl:eT=true:=nu hr 2 zz rfl;obtain rfl:gz=true:=nu hr 3 zz rfl;obtain rfl:eI=true:=nu hr 4 zz rfl;obtain rfl:fB=true:=nu hr 5 zz rfl;obtain rfl:mq=true:=nu hr 6 zz rfl;obtain rfl:kG=true:=nu hr 7 zz rfl;obtain rfl:kH=false:=nW hr rfl;obtain rfl:kI=false:=by cases kI;(rfl);exact absurd (sH rfl) zI
   refine kT (i:=6) rfl sizeOf24 rfl rfl rfl rfl (er rfl) rfl ?_;exact OJ.done (hk (.tuple #[]) _ _ ⟨lK,mm,kW,lR,kQ,lL,J,ke,jC,fQ,kf,jD,gA,kF,jE,true,true,true,true,true,true,true,true,true,false,rfl,rfl,rfl,f9,f16,f23,f10,f17,f24,fe,ff,gB,g10,g17,g24,λ_=>rfl,λh=>zQ⟩)
  refine nc rfl rfl ?_ ?_
  ·intro cv L' H' hl hr hP F Q' hk;obtain⟨lK,mm,kW,lR,kQ,lL,J,ke,jC,fQ,kf,jD,gA,kF,jE,k7,k9,eT,gz,eI,fB,mq,kG,kH,kI,rfl,rfl,rfl,f9,f16,f23,f10,f17,f24,fe,ff,gB,g10,g17,g24,sG,sH⟩:=hP;obtain rfl:k7=true:=nu hr 0 zz rfl;obtain rfl:k9=true:=nu hr 1 zz rfl;obtain rfl:eT=true:=nu hr 2 zz rfl;obtain rfl:gz=true:=nu hr 3 zz rfl;obtain rfl:eI=true:=nu hr 4 zz rfl;obtain rfl:fB=true:=nu hr 5 zz rfl;obtain rfl:mq=true:=nu hr 6 zz rfl;obtain rfl:kG=true:=nu hr 7 zz rfl;obtain rfl:kH=true:=nu hr 8 zz rfl;obtain rfl:kI=false:=nW hr rfl;refine kT (i:=6) rfl sizeOf75 rfl rfl rfl rfl (er rfl) rfl ?_;exact OJ.done (hk (.tuple #[]) _ _ ⟨lK,mm,kW,lR,kQ,lL,J,ke,jC,fQ,kf,jD,gA,kF,jE,true,true,true,true,true,true,true,true,true,true,rfl,rfl,rfl,f9,f16,f23,f10,f17,f24,fe,ff,gB,g10,g17,g24,sG,λ_=>rfl⟩)
  exact nn
 intro cv L' H' hl hr hP;obtain⟨lK,mm,kW,lR,kQ,lL,J,ke,jC,fQ,kf,jD,gA,kF,jE,k7,k9,eT,gz,eI,fB,mq,kG,kH,kI,rfl,rfl,rfl,f9,f16,f23,f10,f17,f24,fe,ff,gB,g10,g17,g24,sG,sH⟩:=hP;obtain rfl:k7=true:=nY hr 0 rfl;obtain rfl:k9=true:=nY hr 1 rfl;obtain rfl:eT=true:=nY hr 2 rfl;obtain rfl:gz=true:=nY hr 3 rfl;obtain rfl:eI=true:=nY hr 4 rfl;obtain rfl:fB=true:=nY hr 5 rfl;obtain rfl:mq=true:=nY hr 6 rfl;obtain rfl:kG=true:=nY hr 7 rfl;obtain rfl:kH=true:=nY hr 8 rfl;obtain rfl:kI=true:=nY hr 9 rfl;obtain⟨Uk,jk⟩:=f10 rfl;obtain⟨kl,kz⟩:=f17 rfl;obtain⟨k6,kJ⟩:=f24 rfl;show OJ _ _ _ _ _ _ _ [lL,lR,mm,wx,wk,w9,w7,w] [(gA,bj cZ 127 [dk fs] jE),(fQ,bj lP 53 [Xg] jD),(J,bj tZ 61 [c] jC),(qv,oC (bJ Xg) 53),(dU,oC (dg fs) 127),(eJ,oC (cP c) 61),(bh,oC #[ak,ak,.slice (ao J) 1 ke,ak,ak,ak,ak,ak,.slice (ao fQ) 1 kf,ak,.map (some bm)] 79),(bm,(Mp.mk [] 0).obj (id:Value->Value) [])];refine B 2 ?_;refine kT (i:=6) rfl sizeOf76 rfl rfl rfl rfl (er rfl) rfl ?_;refine B 9 ?_;refine CJ.lp (α:=(Rw×(Mp×List (Int×Value)))×Nat) [0,4,5] (λp=>[(19,ab (p.2:Int))]) (λp=>p.1.1.hp JK 71 ([((0:Int),pp)].take p.2)++[(gA,bj cZ 127 [dk fs] jE),(fQ,bj lP 53 [Xg] jD),(J,bj tZ 61 [c] jC),(qv,oC (bJ Xg) 53),(dU,oC (dg fs) 127),(eJ,oC (cP c) 61),(bh,oC #[ak,p.1.1.val p.2,.slice (ao J) 1 ke,ak,ak,ak,ak,ak,.slice (ao fQ) 1 kf,.slice (ao gA) 1 kF,.map (some bm)] 79),(bm,(p.1.2.1).obj (id:Value->Value) (p.1.2.2))]) (λp=>p.2<=1/\p.1.1.ge wk.heap.size/\p.1.1.Fit 2 ([((0:Int),pp)].take p.2)/\p.1.2.1.Ok p.1.2.2/\(p.2=0->p.1.1= .nil/\p.1.2.2=[])) (λp=>1-p.2) ((.nil,(Mp.mk [] 0,[])),0) ⟨cO _,True.intro,rfl,Mp.nil,λ_=>⟨rfl,rfl⟩⟩ ?_
 rintro⟨⟨ro,mp,kv⟩,j⟩ ⟨hj,aK,ae,Bl,fv⟩;dsimp only at hj aK ae Bl fv ⊢;refine aF 5 (ab 1) ?_;refine aG 3 ?_ ?_
 ·intro av;refine B 5 ?_;obtain rfl:j=0:=by omega
  obtain⟨rfl,rfl⟩:=fv rfl;refine CJ.less (E':=[(0,_),(4,_),(5,_),(19,_),(85,_),(86,_),(87,_),(88,_)]) zR ?_;refine CJ.chn 19 [17,18] [_,_,_,_,_,some (ak),_,_,_,_,some (ab 0),_,_,_,_,some (ab pp),_,none,none] (λcv L' H'=>let uH:Nat×Obj:=(bh,oC #[ak,ak,ak,ak,ak,ak,ak,ak,ak,ak,.map (some bm)] 79);let jb:Nat×Obj:=(bh,oC #[ak,Rw.nil.val 0,.slice (ao J) 1 ke,ak,ak,ak,ak,ak,.slice (ao fQ) 1 kf,.slice (ao gA) 1 kF,.map (some bm)] 79);let ew:List World:=[lL,lR,mm,wx,wk,w9,w7,w];match cv with| []=>L'=ew/\H'=[(gA,bj cZ 127 [dk fs] jE),(fQ,bj lP 53 [Xg] jD),(J,bj tZ 61 [c] jC),(qv,oC (bJ Xg) 53),(dU,oC (dg fs) 127),(eJ,oC (cP c) 61),jb,(bm,(mp).obj (id:Value->Value) ([]))]| [v1]=>∃(oT:Nat) (qU:World),v1= .slice (ao oT) 1 1/\L'=qU::ew/\H'=[(gA,bj cZ 127 [dk fs] jE),(fQ,bj lP 53 [Xg] jD),(J,bj tZ 61 [c] jC),(qv,oC (bJ Xg) 53),(dU,oC (dg fs) 127),(eJ,oC (cP c) 61),jb,(bm,(mp).obj (id:Value->Value) ([]))]/\qU.heap[oT]? =some (oC (HC (0,pp)) 71)/\(bN [(gA,bj cZ 127 [dk fs] jE),(fQ,bj lP 53 [Xg] jD),(J,bj tZ 61 [c] jC),(qv,oC (bJ Xg) 53),(dU,oC (dg fs) 127),(eJ,oC (cP c) 61),jb,(bm,(mp).obj (id:Value->Value) ([]))] oT)/\(¬(Gh.lent (λk=>k∈keys [uH,(bm,(Mp.mk [] 0).obj (id:Value->Value) [])])).X oT)| [v1,v2]=>∃(oT:Nat) (qU:World) (iP:Nat) (oU:Nat) (qV:List Value),v1= .slice (ao oT) 1 1/\v2= .slice (ao iP) 1 oU/\L'=qU::ew/\H'=[(iP,bj JK 71 [((0:Int),pp)] qV),(gA,bj cZ 127 [dk fs] jE),(fQ,bj lP 53 [Xg] jD),(J,bj tZ 61 [c] jC),(qv,oC (bJ Xg) 53),(dU,oC (dg fs) 127),(eJ,oC (cP c) 61),jb,(bm,(mp).obj (id:Value->Value) ([]))]/\qU.heap[oT]? =some (oC (HC (0,pp)) 71)/\(bN [(gA,bj cZ 127 [dk fs] jE),(fQ,bj lP 53 [Xg] jD),(J,bj tZ 61 [c] jC),(qv,oC (bJ Xg) 53),(dU,oC (dg fs) 127),(eJ,oC (cP c) 61),jb,(bm,(mp).obj (id:Value->Value) ([]))] oT)/\(¬(Gh.lent (λk=>k∈keys [uH,(bm,(Mp.mk [] 0).obj (id:Value->Value) [])])).X oT)/\wk.heap.size<=iP/\((Rw.row iP oU qV).Fit 2 [((0:Int),pp)])|_=>False) (pc zL (pc zL (pc zGc (pc (by exact λcv L' H' hd hP=>X.v (cX underlying79 rfl sizeOf31 rfl)) (pc (by exact λcv L' H' hd hP=>X.v (cX underlying31 rfl sizeOf23 rfl)) (pc zcv (pc zL (pc zL (pc zAb (pc Lp (pc zcv (pc zL (pc zL (pc zAb (pc Lp (pc zcv (pc (by exact λcv L' H' hd hP=>X.v (RV.re (v':=.agg (HC (0,pp))) (vF underlying71 zeroValue71 (qq.c sizeOf3 (qq.c sizeOf3 (qq.n))) rfl rfl) (rfl))) (pk (pk (pn)))))))))))))))))))) ?_ ?_
  ·refine ss rfl ?_ ?_
   ·intro cv L' H' hl hP F Q' hk;obtain rfl:=mF hl;obtain⟨rfl,rfl⟩:=hP;refine rJ underlying23 sizeOf71 zeroValue71 rfl rfl rfl rfl rfl rfl rfl ?_;exact zZh
   refine ss rfl ?_ ?_
   ·intro cv L' H' hl hP F Q' hk;obtain⟨v1,rfl⟩:=jK hl;obtain⟨oT,qU,rfl,rfl,rfl,xA,xB,xC⟩:=hP;refine jV (r:=.nil) (xs:=[]) (zs:=[((0:Int),pp)]) (enc:=JK) (m:=2) (H0:=[]) (H1:=[(gA,bj cZ 127 [dk fs] jE),(fQ,bj lP 53 [Xg] jD),(J,bj tZ 61 [c] jC),(qv,oC (bJ Xg) 53),(dU,oC (dg fs) 127),(eJ,oC (cP c) 61),(bh,oC #[ak,Rw.nil.val 0,.slice (ao J) 1 ke,ak,ak,ak,ak,ak,.slice (ao fQ) 1 kf,.slice (ao gA) 1 kF,.map (some bm)] 79),(bm,(mp).obj (id:Value->Value) ([]))]) rfl Ui nbk rfl rfl rfl rfl (ck.one (z:=((0:Int),pp)) nbk M1 underlying23 (bF.old A0 xA xC xB)) rfl True.intro zI zI ?_;intro b_ c_ s_ M8 iK;have pX:=M8.elim (λh=>h.elim) id;have hL:=pX.mem wk zI;exact OJ.done (hk _ _ _ ⟨oT,qU,b_,c_,s_,rfl,rfl,rfl,rfl,xA,xB,xC,hL,iK⟩)
   exact nn
  intro cv L' H' hl hP;obtain⟨v1,v2,rfl⟩:=rL hl;obtain⟨oT,qU,iP,oU,qV,rfl,rfl,rfl,rfl,xA,xB,xC,PM,Bw⟩:=hP;refine B 3 ?_;refine kT (i:=7) rfl sizeOf23 rfl rfl rfl rfl (er rfl) rfl ?_;refine B 2 ?_;refine CJ.less (E':=[(0,_),(4,_),(5,_),(19,_),(85,_),(86,_),(87,_),(88,_),(91,_),(92,_),(93,_),(94,_),(95,_),(96,_),(97,_),(98,_),(99,_),(100,_),(101,_),(102,_),(103,_),(104,_),(105,_),(106,_),(107,_),(108,_),(109,_),(110,_),(111,_),(112,_)]) zR ?_;refine CJ.chn 25 [23,24] [_,_,_,some (.map (some bm)),_,_,_,_,some (ab 0),_,_,_,some (.map (some bm)),_,_,_,_,some (ab 0),some (ak),_,_,_,some (ab 5000),none,none] (λcv L' H'=>let eD:Nat×Obj:=(iP,bj JK 71 [((0:Int),pp)] qV);let uH:Nat×Obj:=(bh,oC #[ak,ak,ak,ak,ak,ak,ak,ak,ak,ak,.map (some bm)] 79);let jb:Nat×Obj:=(bh,oC #[ak,(Rw.row iP oU qV).val 1,.slice (ao J) 1 ke,ak,ak,ak,ak,ak,.slice (ao fQ) 1 kf,.slice (ao gA) 1 kF,.map (some bm)] 79);let ew:List World:=[qU,lL,lR,mm,wx,wk,w9,w7,w];match cv with| []=>L'=ew/\H'=[eD,(gA,bj cZ 127 [dk fs] jE),(fQ,bj lP 53 [Xg] jD),(J,bj tZ 61 [c] jC),(qv,oC (bJ Xg) 53),(dU,oC (dg fs) 127),(eJ,oC (cP c) 61),jb,(bm,(mp).obj (id:Value->Value) ([]))]| [v1]=>∃(oV:Nat) (sI:World),v1= .slice (ao oV) 1 1/\L'=sI::ew/\H'=[eD,(gA,bj cZ 127 [dk fs] jE),(fQ,bj lP 53 [Xg] jD),(J,bj tZ 61 [c] jC),(qv,oC (bJ Xg) 53),(dU,oC (dg fs) 127),(eJ,oC (cP c) 61),jb,(bm,(mp).obj (id:Value->Value) ([]))]/\sI.heap[oV]? =some (oC (aA 5000).toArray 3)/\(bN [eD,(gA,bj cZ 127 [dk fs] jE),(fQ,bj lP 53 [Xg] jD),(J,bj tZ 61 [c] jC),(qv,oC (bJ Xg) 53),(dU,oC (dg fs) 127),(eJ,oC (cP c) 61),jb,(bm,(mp).obj (id:Value->Value) ([]))] oV)/\(¬(Gh.lent (λk=>k∈keys [uH,(bm,(Mp.mk [] 0).obj (id:Value->Value) [])])).X oV)| [v1,v2]=>∃(oV:Nat) (sI:World) (Ay:Nat) (M9:Nat) (Ul:List Value),v1= .slice (ao oV) 1 1/\v2= .slice (ao Ay) 1 M9/\L'=sI::ew/\H'=[(Ay,bj aA 3 [(5000:Int)] Ul),eD,(gA,bj cZ 127 [dk fs] jE),(fQ,bj lP 53 [Xg] jD),(J,bj tZ 61 [c] jC),(qv,oC (bJ Xg) 53),(dU,oC (dg fs) 127),(eJ,oC (cP c) 61),jb,(bm,(mp).obj (id:Value->Value) ([]))]/\sI.heap[oV]? =some (oC (aA 5000).toArray 3)/\(bN [eD,(gA,bj cZ 127 [dk fs] jE),(fQ,bj lP 53 [Xg] jD),(J,bj tZ 61 [c] jC),(qv,oC (bJ Xg) 53),(dU,oC (dg fs) 127),(eJ,oC (cP c) 61),jb,(bm,(mp).obj (id:Value->Value) ([]))] oV)/\(¬(Gh.lent (λk=>k∈keys [uH,(bm,(Mp.mk [] 0).obj (id:Value->Value) [])])).X oV)/\(ah [sI,qU,lL,lR,mm,wx,wk,w9,w7,w] Ay)/\wk.heap.size<=Ay|_=>False) (pc zL (pc zGc (pc (by exact λcv L' H' hd hP=>X.v (cX underlying79 rfl sizeOf77 rfl)) (pc Xm (pc zL (pc zL (pc zAb (pc Lp (pc Xm (pc zL (pc zGc (pc (by exact λcv L' H' hd hP=>X.v (cX underlying79 rfl sizeOf77 rfl)) (pc Xm (pc zL (pc zL (pc zAb (pc Lp (pc Xm (pc Xm (pc zL (pc zL (pc zCb (pc Xm (pk (pk (pn)))))))))))))))))))))))))) ?_ ?_
  ·refine ss rfl ?_ ?_
   ·intro cv L' H' hl hP F Q' hk;obtain rfl:=mF hl;obtain⟨rfl,rfl⟩:=hP;refine Ja ?_;exact zZh
   refine ss rfl ?_ ?_
   ·intro cv L' H' hl hP F Q' hk;obtain⟨v1,rfl⟩:=jK hl;obtain⟨oV,sI,rfl,rfl,rfl,xD,xE,xF⟩:=hP;refine jV (r:=.nil) (xs:=[]) (zs:=[(5000:Int)]) (enc:=aA) (m:=1) (H0:=[]) (H1:=[(iP,bj JK 71 [((0:Int),pp)] qV),(gA,bj cZ 127 [dk fs] jE),(fQ,bj lP 53 [Xg] jD),(J,bj tZ 61 [c] jC),(qv,oC (bJ Xg) 53),(dU,oC (dg fs) 127),(eJ,oC (cP c) 61),(bh,oC #[ak,(Rw.row iP oU qV).val 1,.slice (ao J) 1 ke,ak,ak,ak,ak,ak,.slice (ao fQ) 1 kf,.slice (ao gA) 1 kF,.map (some bm)] 79),(bm,(mp).obj (id:Value->Value) ([]))]) rfl OC nz rfl rfl rfl rfl (ck.one (z:=(5000:Int)) nz OE underlying55 (bF.old A0 xD xF xE)) rfl True.intro zI zI ?_;intro b_ c_ s_ M8 iK;have pX:=M8.elim (λh=>h.elim) id;exact OJ.done (hk _ _ _ ⟨oV,sI,b_,c_,s_,rfl,rfl,rfl,rfl,xD,xE,xF,pX,pX.mem wk zI⟩)
   exact nn
  intro cv L' H' hl hP;obtain⟨v1,v2,rfl⟩:=rL hl;obtain⟨oV,sI,Ay,M9,Ul,rfl,rfl,rfl,rfl,xD,xE,xF,H6,aca⟩:=hP;refine OG (i:=9) (ev:=(id:Value->Value)) (v:=.slice (ao Ay) 1 M9) rfl Bl underlying77 underlying3 rfl rfl rfl rfl ?_;intro m2 bY;refine B 8 ?_;refine PJ.dropAt (i:=0) rfl (by exact H6) ?_;refine B7 (L':=[lL,lR,mm,wx,wk,w9,w7,w]) zI ?_;refine ag ((Rw.row iP oU qV,(m2,_)),1) ⟨aj _,by show wk.heap.size<=iP;omega,Bw,bY,λh=>absurd (show(1:Nat)=0 from h) zz⟩
 intro av;refine B 6 ?_;obtain rfl:j=1:=by omega
 obtain⟨iP,oU,qV,rfl⟩:=Rw.row_of ae Xk;have PM:wk.heap.size<=iP:=aK;refine CJ.prm (H':=[(bh,oC #[ak,.slice (ao iP) 1 oU,.slice (ao J) 1 ke,ak,ak,ak,ak,ak,.slice (ao fQ) 1 kf,.slice (ao gA) 1 kF,.map (some bm)] 79),(iP,bj JK 71 [((0:Int),pp)] qV),(gA,bj cZ 127 [dk fs] jE),(fQ,bj lP 53 [Xg] jD),(J,bj tZ 61 [c] jC),(qv,oC (bJ Xg) 53),(dU,oC (dg fs) 127),(eJ,oC (cP c) 61),(bm,(mp).obj (id:Value->Value) (kv))]) (List.perm_middle (l₁:=[_,_,_,_,_,_,_])) ?_;refine B 5 ?_;exact ab3 (Hz:=[(bh,oC #[ak,ak,ak,ak,ak,ak,ak,ak,ak,ak,.map (some bm)] 79),(bm,(Mp.mk [] 0).obj (id:Value->Value) [])]) (H0:=[(iP,bj JK 71 [((0:Int),pp)] qV),(gA,bj cZ 127 [dk fs] jE),(fQ,bj lP 53 [Xg] jD),(J,bj tZ 61 [c] jC),(qv,oC (bJ Xg) 53),(dU,oC (dg fs) 127),(eJ,oC (cP c) 61),(bm,(mp).obj (id:Value->Value) (kv))]) (c,(iP,oU),(J,ke),(fQ,kf),(gA,kF)) (.inl rfl) results42 bD A7 (by simp only[qx,keys,dP,fu,iv,eY,cd,dZ,or_false,and_true];(repeat' apply And.intro);all_goals first|omega|simp) rfl (λW hS=>⟨xz,dG,(xz.at_ CS hS A4 (aj _) (λu hu=>by have h8:=e5 u hu;have h6:=d14.1 u hu;have h7:=d15.1 u hu;exact⟨by simp only[Gh.lent,keys,dP,fu,cd,dZ,or_false];omega,by simp only[bN,iv,eY,and_true];omega⟩) (λu hu=>by have h8:=WX u hu;have h6:=d14.2 u hu;have h7:=d15.2 u hu;exact⟨by simp only[Gh.lent,keys,dP,fu,cd,dZ,or_false];omega,by simp only[bN,iv,eY,and_true];omega⟩)),nyo (enc:=JK) (t:=71) nbk ae (hS.own _ A1),nyo (enc:=tZ) (t:=61) nxj Uk (hS.own _ A4),(by show w.heap.size<=iP;omega),(by show w.heap.size<=J;omega),λu hu=>(e5 u hu).1,λu hu=>(WX u hu).1⟩)
theorem nsk{α:Type}{enc:α->Array Value}{x:α}(hm:(enc x).size=m)(h:W.heap[b]? =some (.cells (enc x) t fr)):ai enc m W.heap.size W (ao b) [x]:=
 .inr ⟨b,0,_,t,fr,rfl,(bB.1 h).1,h,λi hi=>by
  have:i=0:=by simpa using hi
  subst this;refine⟨by show 0+0*m+m<=_;omega,?_⟩;show cut _ (0+0*m) m=_;rw[Nat.zero_mul,mx];exact nUf _ _ hm⟩
def xv (r:eF) (g s m:Value):Array Value:=#[.slice r.fa r.fos.length r.fc,.slice r.oa r.os.length r.oc,.slice r.la r.cs.length r.lc,.slice r.ga r.gs.length r.gc,.slice r.ia r.xs.length r.ic,r.o5,r.o6,r.o7,g,s,m]
theorem H7(hZ:FxOk Z)(w:World)(hg:Glb w)(MT:Lab w):Calls prog 22 #[ak] w (dc w (λq:(eF×Cm×Fo)×Value×Value×Value=>.tuple #[.agg (xv q.1.1 q.2.1 q.2.2.1 q.2.2.2),cD]) (λq w'=>fH w'.heap.size w' q.1.1/\fG q.1.1/\vR Z q.1.1 q.1.2.1 (s9 (Z.ge 4 5000).1 (Z.ge 4 300).1) q.1.2.2/\bG [q.1.1.o5,q.1.1.o6,q.1.1.o7,q.2.1,q.2.2.1,q.2.2.2]=true)):=by
 have dn:=hg.lt;obtain⟨pp,JJ⟩:∃p,(Z.ge 4 5000).1=p:=⟨_,rfl⟩;obtain⟨vv,MW⟩:∃p,(Z.ge 4 300).1=p:=⟨_,rfl⟩;rw[JJ,MW];have sj:HT (s9 pp vv):=⟨rfl,rfl,by rw[<-JJ];exact Xb hZ ⟨by decide,by decide⟩,by rw[<-MW];exact Xb hZ ⟨by decide,by decide⟩,rfl⟩;refine eN func22 ntmps22 ?_;refine bM 3 ?_;intro b2 dL dH;refine B 5 ?_;refine KQ (id:Value->Value) rfl rfl ?_;refine yW ?_;intro E1 c3 dU;refine bM 2 ?_;intro b4 iW iX;refine B 5 ?_;refine call (v:=.tuple #[.agg (gM (s9 pp vv)),ab 5000]) call41 rfl rfl rfl (λW hS=>by rw[<-JJ,<-MW];exact n6o hZ W) ?_;refine bM 4 ?_;intro b5 tr tu;refine aF 7 (.agg (bJ G6)) ?_;refine du (.agg (dg λ_=>0)) ?_;refine B 1 ?_;refine kp underlying54 sizeOf99 zeroValue99 rfl rfl rfl rfl rfl rfl rfl ?_;refine yW ?_;intro Xo dp ej;refine B 1 ?_;refine ET ?_;refine yW ?_;intro jc mJ T4;refine OJ.perm (H':=[(b4,oC #[ak,ak,ak,ak,ak,ak,ak,ak,ak,ak,.map (some E1)] 79),(E1,(Mp.mk [] 0).obj (id:Value->Value) []),(jc,oC #[ab 5000] 3),(Xo,oC (gM (s9 pp vv)) 99),(b5,oC (gM (s9 pp vv)) 99),(b2,oC #[ak,ak,ak,ak,ak,ak,ak,ak,ak,ak,.map none] 79)]) (by exact(List.perm_append_comm (l₁:=[_,_,_]) (l₂:=[_,_])).append_right [_]) ?_;refine Uf (α:=Cm×(Nat×Nat)×(Nat×Nat)×(Nat×Nat)×(Nat×Nat)) (Hz:=[(b4,oC #[ak,ak,ak,ak,ak,ak,ak,ak,ak,ak,.map (some E1)] 79),(E1,(Mp.mk [] 0).obj (id:Value->Value) [])]) (v:=λ_=>cD) (Hn:=λq=>[(b4,oC #[ak,.slice (ao q.2.1.1) 1 q.2.1.2,.slice (ao q.2.2.1.1) 1 q.2.2.1.2,ak,ak,ak,ak,ak,.slice (ao q.2.2.2.1.1) 1 q.2.2.2.1.2,.slice (ao q.2.2.2.2.1) 1 q.2.2.2.2.2,.map (some E1)] 79)]) (Φ:=λW q w1=>oS Z 6 (s9 pp vv) q.1/\bO q.1/\dC w1.heap.size w1 q.1/\ai HC 2 w1.heap.size w1 (ao q.2.1.1) [(0,pp)]/\ai cP 73 w1.heap.size w1 (ao q.2.2.1.1) [q.1]/\W.heap.size<=q.2.1.1/\W.heap.size<=q.2.2.1.1/\(∀u,q.1.ca=some u->W.heap.size<=u.block)/\∀u,q.1.pa=some u->W.heap.size<=u.block) rfl rfl call42 rfl rfl rfl ⟨.inr zB,.inr zB,trivial⟩ (λW hS=>?_) ?_
 ·have cr:=hg.old hS A0 zF (by simp only[iv,eY,Over,and_true];omega);exact M5 hZ pp vv sj MW.symm Xo jc b4 E1 99 3 W (hS.own _ A3) (hS.own _ A2) (hS.own _ A0) (hS.own _ A1) aa aa cr (MT.old hS A0 zH zy)
 rintro Wa ⟨c,⟨iP,oU⟩,⟨fV,ke⟩,⟨fQ,kf⟩,⟨gA,kF⟩⟩ wa J ⟨xz,dG,CS,bh,aq,Pp,cz,Um,Un⟩ -;dsimp only at xz dG CS bh aq Pp cz Um Un;have l4:=J.lt (b4,_) A0;have cq:=J.lt (jc,_) A2;have cb:=J.lt (Xo,_) A3;have l5:=J.lt (b5,_) A4;have l2:=J.lt (b2,_) A5;dsimp only at l4 cq cb l5 l2;show OJ _ _ _ _ _ _ _ [wa,w] [(b4,oC #[ak,.slice (ao iP) 1 oU,.slice (ao fV) 1 ke,ak,ak,ak,ak,ak,.slice (ao fQ) 1 kf,.slice (ao gA) 1 kF,.map (some E1)] 79),(jc,oC #[ab 5000] 3),(Xo,oC (gM (s9 pp vv)) 99),(b5,oC (gM (s9 pp vv)) 99),(b2,oC #[ak,ak,ak,ak,ak,ak,ak,ak,ak,ak,.map none] 79)];have a6:∀u,c.ca=some u->u.block<wa.heap.size:=λu hu=>by obtain⟨b,off,_,_,_,e,h,_⟩:=CS.chs.get (by rw[xz.ct];show 0<1;decide);rw[hu]at e;cases e;exact h
 have a8:∀u,c.pa=some u->u.block<wa.heap.size:=λu hu=>by obtain⟨b,off,_,_,_,e,h,_⟩:=CS.path.get (by rw[xz.pl];decide);rw[hu]at e;cases e;exact h
 refine Ew ?_;obtain⟨bq,oq,Rn,tq,Ro,e9,pI,WQ,qG⟩:=aq.get Xk;obtain⟨uq,Jg⟩:=qG 0 Xk;cases e9
 refine B 4 ?_;refine rr (ptr fV 0) (bC underlying24 sizeOf61 rfl rfl zz zz) ?_;refine rq (.agg (cP c)) (dt isAgg61 sizeOf61 rfl A0 WQ zH zy uq) (va Jg) ?_;refine call (v:=.agg (dg (aC Z c))) call23 rfl rfl rfl (λW hS=>ZK hZ c dG W.heap.size W (aj _) (xz.at_ CS hS A0 (aj _) (λu hu=>⟨λh=>h,by have h8:=Um u hu;have h7:=a6 u hu;simp only[bN,dA,eh,ne_eq,and_true];omega⟩) (λu hu=>⟨λh=>h,by have h8:=Un u hu;have h7:=a8 u hu;simp only[bN,dA,eh,ne_eq,and_true];omega⟩)) (hg.old hS A1 zF zD)) ?_;refine B 1 ?_;refine kp underlying22 sizeOf97 zeroValue97 rfl rfl rfl rfl rfl rfl rfl ?_;refine yW ?_;intro ay c6 dO;refine B 2 ?_;refine kT (i:=1) rfl sizeOf22 rfl rfl rfl rfl (er rfl) rfl ?_;refine B 9 ?_;refine CJ.lp (α:=Unit) [0,2,4,7] (λp=>[]) (λp=>[(ay,oC (qQ ⟨6,aC Z c⟩) 97),(b4,oC #[.slice (ao ay) 1 1,.slice (ao iP) 1 oU,.slice (ao fV) 1 ke,ak,ak,ak,ak,ak,.slice (ao fQ) 1 kf,.slice (ao gA) 1 kF,.map (some E1)] 79),(jc,oC #[ab 5000] 3),(Xo,oC (gM (s9 pp vv)) 99),(b5,oC (gM (s9 pp vv)) 99),(b2,oC #[ak,ak,ak,ak,ak,ak,ak,ak,ak,ak,.map none] 79)]) (λp=>True) (λp=>0) () trivial ?_;rintro⟨⟩ _;refine aF 6 bH ?_;refine B 16 ?_;refine bS (.inl rfl) results22 bD λW hS=>⟨((⟨some ⟨ay,0,none⟩,[⟨6,aC Z c⟩],1,some ⟨iP,0,none⟩,[(0,pp)],oU,some ⟨fV,0,none⟩,[c],ke,none,[],0,none,[],0,ak,ak,ak⟩,c,⟨6,aC Z c⟩),.slice (ao fQ) 1 kf,.slice (ao gA) 1 kF,.map (some E1)),rfl,hS.base A1 zD,⟨?_,?_,?_,?_,.inl rfl,by simp,.inl rfl,by simp⟩,?_,?_,rfl⟩
 ·exact nsk rfl (hS.own _ A0)
 ·exact bh.toG hS A0 (aj _) λb off e=>.inr λhb=>⟨λh=>h,by cases e;simp only[bN,dA,eh,ne_eq,and_true];omega⟩
 ·exact aq.toG hS A0 (aj _) λb off e=>.inr λhb=>⟨λh=>h,by cases e;simp only[bN,dA,eh,ne_eq,and_true];omega⟩
 ·intro x hx;obtain rfl:x=c:=(by simpa using hx);exact(xz.at_ CS hS A0 (aj _) (λu hu=>⟨λh=>h,by have h8:=Um u hu;have h7:=a6 u hu;simp only[bN,dA,eh,ne_eq,and_true];omega⟩) (λu hu=>⟨λh=>h,by have h8:=Un u hu;have h7:=a8 u hu;simp only[bN,dA,eh,ne_eq,and_true];omega⟩))
 ·exact⟨by simp,by simp,by simp,by simpa using dG,by simp,by simp,by simp,by simp⟩
 exact⟨rfl,rfl,rfl,rfl,rfl,rfl,xz,rfl⟩
theorem aD.X{α:Type}{enc:α->List Value}{xs:List α}{v:Value->Value}(hm:∀x,(enc x).length=m){e:Ending}{w':World}(h:aD w enc m t xs v e w'):dc w (λq:Option Addr×Nat=>v (.slice q.1 xs.length q.2)) (λq w1=>ai (λx=>(enc x).toArray) m w1.heap.size w1 q.1 xs/\∀p,q.1=some p->w.heap.size<=p.block) e w':=by
 obtain⟨r,rfl,hb,J,hf,ha⟩:=h;obtain⟨a,cp,he,hs⟩:=r.sl hm hf ha (aj _);exact⟨(a,cp),by rw[he],hb,hs,Rw.val_new J he⟩
abbrev rN:eF:=⟨none,[],0,none,[],0,none,[],0,none,[],0,none,[],0,ak,ak,ak⟩
theorem Na:Rc0 rN:=⟨rfl,rfl,rfl,rfl,rfl⟩
theorem By:fG rN:=⟨by decide,by decide,by decide,by simp,by decide,by simp,by decide,by simp⟩
theorem Bz(N:Nat)(w:World):fH N w rN:=⟨.inl rfl,.inl rfl,.inl rfl,by simp,.inl rfl,by simp,.inl rfl,by simp⟩
theorem PN{J:List Se}(h:mM (rN.D Z) J lim ls):mM [] J lim ls:=by rw[Na.D]at h;exact h
theorem PO(h:mM (rN.D Z) (rN.fs Z 3) lim ls)(s:Se):s∉ls:=λJ=>by
 have h1:=((PN h).nil0 s).1 J;rw[Na.fs]at h1;simp at h1
theorem PQ(Z:Fx)(dv:Int):(rN.fs Z dv).length<=200:=by rw[Na.fs];decide
section
variable {Z:Fx} (hZ:FxOk Z) {w:World} (hg:Glb w) {a0 a1:Addr} (hse:Sen w a0 a1)
include hZ hg hse
theorem Nb:Calls prog 9 #[.agg (rdA rN),ab 3,cV (aN 4)] w (dc w (λq:Option Addr×Nat=>.tuple #[.slice q.1 0 q.2,bH]) (λ_ _=>True)):=
 (HE hZ rN By w.heap.size w (aj _) (Bz _ _) hg a0 a1 hse 3 (aN 4) (PQ _ _)).mono (by
  rintro e w' ⟨⟨⟨⟨a,c⟩,l⟩,b⟩,rfl,hb,_,_,ls,hl,h⟩;rcases h with⟨_,h1,h2⟩|⟨j,h1,_⟩
  ·dsimp only at h1 h2;subst h1;subst h2;exact⟨(a,c),rfl,hb,trivial⟩
  exact absurd (cu h1) (PO hl _))
theorem Uo:Calls prog 10 #[.agg (rdA rN),ab 3,cV (aN 4)] w (aU w (bH)):=
 (nui hZ rN By w.heap.size w (aj _) (Bz _ _) hg a0 a1 hse 3 (aN 4) (PQ _ _)).mono (by
  rintro e w' ⟨b,rfl,hb,ls,hl,h⟩;have:=PO hl (aN 4);simp only[this,decide_false]at h;subst h;exact⟨rfl,hb⟩)
theorem Up:Calls prog 11 #[.agg (rdA rN),ab 3] w (dc w (λq:Option Addr×Nat=>.slice q.1 0 q.2) (λ_ _=>True)):=
 (nxg hZ rN By w.heap.size w (aj _) (Bz _ _) hg 3).mono (by
  intro e w' h;obtain⟨q,he,hb,_⟩:=aD.X nv h;exact⟨q,by rw[he,Na.fs];rfl,hb,trivial⟩)
theorem Nc{J:Option Addr}{qc:Nat}(hq:ai seA 35 w.heap.size w J [aN 4,aN 4]):Calls prog 15 #[.agg (rdA rN),.slice J 2 qc] w (dc w (λq:Option Addr×Nat=>.slice q.1 1 q.2) (λq w1=>ai seA 35 w1.heap.size w1 q.1 [aN 4]/\∀p,q.1=some p->w.heap.size<=p.block)):=
 (nze hZ rN By w.heap.size w (aj _) (Bz _ _) hg a0 a1 hse J [aN 4,aN 4] qc zz hq).mono (by
  rintro e w' ⟨ls,hl,h⟩;obtain⟨q,he,hb,hs⟩:=aD.X nv h;rw[al8 (noj 4) (PN hl)]at he hs;exact⟨q,he,hb,hs⟩)
variable {r:eF} (hr:fG r) {N:Nat} (hN:N<=w.heap.size) (hrA:fH N w r) {c:Cm} {ch:Ch} {fo:Fo} (h1:vR Z r c ch fo)
include hr hN hrA h1
theorem Nf:Calls prog 9 #[.agg (rdA r),ab 0,cV (aN ch.pub)] w (dc w (λq:Option Addr×Nat=>.tuple #[.slice q.1 1 q.2,cD]) (λ_ _=>True)):=
 (HE hZ r hr N w hN hrA hg a0 a1 hse 0 (aN ch.pub) (by rw[h1.fs0 hZ];simp)).mono (by
  rintro e w' ⟨⟨⟨⟨a,c⟩,l⟩,b⟩,rfl,hb,_,_,ls,hl,h⟩;have hw:=h1.why hZ hl;rcases h with⟨h,_⟩|⟨j,h2,h3,h4⟩
  ·exact absurd (cu hw) h
  dsimp only at h3 h4;have hnd:ls.Nodup:=hl.nd λs J=>(h1.k3 hZ (.base J)).1;obtain⟨l0,e0⟩:=hJ.1 hw;obtain⟨l2,e2⟩:=hJ.1 h2;have hj:j=0:=(List.getElem_inj hnd).1 (e2.trans e0.symm);subst hj;subst h4;have my:l.length=1:=by rw[h3,kU];omega
  exact⟨(a,c),by dsimp only;rw[my],hb,trivial⟩)
theorem Uq:Calls prog 10 #[.agg (rdA r),ab 0,cV (aP (dk (aC Z c)))] w (aU w (cD)):=
 (nui hZ r hr N w hN hrA hg a0 a1 hse 0 _ (by rw[h1.fs0 hZ];simp)).mono (by
  rintro e w' ⟨b,rfl,hb,ls,hl,h⟩;have:=(hl.iff _).2 (h1.ep hZ);simp only[this,decide_true]at h;subst h;exact⟨rfl,hb⟩)
theorem Ur(s:Se):Calls prog 10 #[.agg (rdA r),ab 1,cV s] w (aU w (bH)):=
 (nui hZ r hr N w hN hrA hg a0 a1 hse 1 s (by rw[h1.fs1 hZ];simp)).mono (by
  rintro e w' ⟨b,rfl,hb,ls,hl,h⟩;rw[h1.fs1 hZ]at hl;have:=mM.nil nto hl;subst this;simp only[dZ,decide_false]at h;subst h;exact⟨rfl,hb⟩)
theorem Us:Calls prog 21 #[.agg (rdA r),ab 0] w (dc w (λq:Option Addr×Nat=>.slice q.1 1 q.2) (λq w1=>ai vz 32 w1.heap.size w1 q.1 [dk (aC Z c)]/\∀p,q.1=some p->w.heap.size<=p.block)):=
 (n3p hZ r hr N w hN hrA hg a0 a1 hse 0 (by rw[h1.fs0 hZ];simp)).mono (by
  rintro e w' ⟨ls,hl,h⟩;obtain⟨q,he,hb,J⟩:=aD.X yj h;rw[h1.epL hZ hl]at he J;exact⟨q,he,hb,J⟩)
theorem Ng:Calls prog 15 #[.agg (rdA r),ak] w (dc w (λq:Option Addr×Nat=>.slice q.1 0 q.2) (λ_ _=>True)):=
 (nze hZ r hr N w hN hrA hg a0 a1 hse none [] 0 zz (.inl rfl)).mono (by
  rintro e w' ⟨ls,hl,h⟩;have:=mM.nil nto hl;subst this;obtain⟨q,he,hb,_⟩:=aD.X nv h;exact⟨q,by rw[he,nhi];rfl,hb,trivial⟩)
end
theorem Ut{α:Type}{enc:α->Array Value}{x y:α}(hx:(enc x).size=m)(hy:(enc y).size=m)(h:W.heap[b]? =some (.cells (enc x++enc y) t fr)):ai enc m W.heap.size W (ao b) [x,y]:=
 .inr ⟨b,0,_,t,fr,rfl,(bB.1 h).1,h,λi hi=>by
  have h2:i=0\/i=1:=by simp at hi;omega
  rcases h2 with rfl|rfl
  ·refine⟨by rw[Array.size_append];omega,?_⟩;show cut (enc x++enc y) (0+0*m) m=enc x;unfold cut;rw[Nat.zero_mul,Array.toList_append,Pt,<-hx,<-Ox,List.take_left,Array.toArray_toList]
  refine⟨by rw[Array.size_append];omega,?_⟩;show cut (enc x++enc y) (0+1*m) m=enc y;unfold cut;rw[Nat.one_mul,mx,Array.toList_append];have e:m=(enc x).toList.length:=by rw[Ox];exact hx.symm
  rw[show((enc x).toList++(enc y).toList).drop m=(enc y).toList by rw[e,List.drop_left]];rw[iC (by rw[Ox];omega),Array.toArray_toList]⟩
theorem H8(hZ:FxOk Z)(w:World)(hg:Glb w)(MT:Lab w)(a0 a1:Addr)(hse:Sen w a0 a1):Calls prog 7 #[] w (aU w (cD)):=by
 have ej:=hg.lt;obtain⟨pp,JJ⟩:∃p,(Z.ge 4 5000).1=p:=⟨_,rfl⟩;obtain⟨vv,MW⟩:∃p,(Z.ge 4 300).1=p:=⟨_,rfl⟩;refine ei 7 func7 ntmps7 ?_;refine ny (α:=(eF×Cm×Fo)×Value×Value×Value) (v:=λq=>.tuple #[.agg (xv q.1.1 q.2.1 q.2.2.1 q.2.2.2),cD]) (Φ:=λ_ q w1=>fH w1.heap.size w1 q.1.1/\fG q.1.1/\vR Z q.1.1 q.1.2.1 (s9 pp vv) q.1.2.2/\bG [q.1.1.o5,q.1.1.o6,q.1.1.o7,q.2.1,q.2.2.1,q.2.2.2]=true) call22 rfl rfl rfl (λW hS=>by rw[<-JJ,<-MW];exact H7 hZ W (hg.old hS A0 zF trivial) (MT.old hS A0 zH trivial)) ?_;rintro Wm ⟨⟨⟨fa,fos,fc,oa,os,oc,la,cs,lc,ga,gs,gc,ia,xs,ic,o5,o6,o7⟩,c,fo⟩,gv,sv,mv⟩ wm wU KY ⟨hrA,rM,h1,cy⟩;dsimp only at hrA rM h1 cy;have e1:os=[(0,pp)]:=h1.os;have e2:cs=[c]:=h1.cs;have e3:fos=[fo]:=h1.fos;have e4:gs=[]:=h1.gs;have e5:xs=[]:=h1.xs;subst e1;subst e2;subst e3;subst e4;subst e5;have xz:=h1.ok;have hwm:=(wU.links w A0).size;have ff:=KY.size;refine bM 4 ?_;intro b1 gb jJ;refine jN (i:=0) rfl sizeOf79 rfl rfl rfl rfl rfl cy ?_;refine aF 7 bH ?_;refine aF 4 (ab 1) ?_;refine wX ?_;obtain⟨bq,oq,Rn,tq,Ro,e9,pI,WQ,qG⟩:=hrA.c.get Xk;have e9:la=some ⟨bq,oq,none⟩:=e9;refine B 4 ?_;refine rv rfl rfl rfl (bC underlying24 sizeOf61 (congrArg (λq=>some (Value.slice q 1 lc)) e9) rfl zz (by show(0:Int)<((1:Nat):Int);decide)) ?_
 refine rq (.agg (cP c)) (dt isAgg61 sizeOf61 rfl A0 WQ zH zy (de qG (j:=0) (x:=c) rfl rfl)) (va (dY qG (j:=0) (x:=c) rfl rfl)) ?_;refine call (v:=.agg (dg (aC Z c))) call23 rfl rfl rfl (λW hS=>ZK hZ c (rM.cg c A0) wm.heap.size W (hS.links wm A0).size ((hrA.C c A0).up (aj _) (hS.same A0 (aj _) zF zP)) (hg.old hS A1 zF zP)) ?_;refine bM 1 ?_;intro b3 eO fw;refine B 5 ?_;refine zye ?_;refine bM 1 ?_;intro b4 iW iX;refine aF 5 (.agg (rdA rN)) ?_;refine B 1 ?_;refine ny (α:=Option Addr×Nat) (v:=λq=>.tuple #[.slice q.1 0 q.2,bH]) (Φ:=λ_ _ _=>True) call9 rfl rfl rfl (λW hS=>Nb hZ (hg.old hS A1 zF zP) (hse.oldG hS A1 zF zP)) ?_;rintro _ ⟨a32,c32⟩ Nh _ _ -;refine B 8 ?_;obtain⟨bo,oo,eg,e7,eJ,e8,fh,dp,ea⟩:=hrA.o.get Xk;have e8:oa=some ⟨bo,oo,none⟩:=e8;refine CJ.less (E':=[(0,_),(1,_),(2,_),(3,_),(4,_),(6,_),(9,_),(10,_),(11,_),(12,_),(13,_),(14,_),(15,_),(16,_),(17,_),(18,_),(19,_),(20,_),(21,_),(22,_),(23,_),(24,_),(25,_),(26,_),(27,_),(28,_),(29,_),(30,_),(31,_),(32,_),(33,_),(34,_)]) zR ?_;refine dN 14 [9,10,11,12,13] [[],[0],[0,1],[0,1],[0,1,2]] (λcv L' H'=>∃(a45:Option Addr) (Az:Nat) (J eT dK jB jI:Bool),cv=[ob J (.tuple #[.slice a45 1 Az,cD]),ob eT (.tuple #[.slice a45 1 Az,cD]),ob dK (.slice a45 1 Az),ob jB (cD),ob jI (.slice a45 1 Az)]/\L'=[Nh,wm,w]/\H'=[(b4,oC (seA (aN 4)) 35),(b3,oC (dg (aC Z c)) 33),(b1,oC (xv (⟨fa,[fo],fc,oa,[(0,pp)],oc,la,[c],lc,ga,[],gc,ia,[],ic,o5,o6,o7⟩:eF) gv sv mv) 79)]/\(eT=true->J=true)/\(dK=true->J=true)/\(jB=true->J=true)/\(jI=true->J=true)) ⟨none,0,false,false,false,false,false,rfl,rfl,rfl,λh=>zQ,λh=>zQ,λh=>zQ,λh=>zQ⟩ (qn 5 (k:=by exact lH (λcv L' H' _ _ hP=>X.v (bC underlying23 sizeOf71 (congrArg (λq=>some (Value.slice q 1 oc)) e8) rfl zz (by show(0:Int)<((1:Nat):Int);decide))) (qn 1 (k:=by exact lH (λcv L' H' hl hd hP=>by obtain⟨a45,Az,J,eT,dK,jB,jI,rfl,rfl,rfl,g10,g11,g12,g13⟩:=hP;exact X.v (ar (v:=ab pp) isAgg3 rfl A1 dp zH (by simp only[bN,dA,eh,ne_eq,and_true];omega) (uA ea (j:=0) (x:=((0:Int),pp)) rfl rfl 1 zz))) (lH (λcv L' H' _ _ hP=>nf call18 rfl rfl (λW hS _=>nkd _ W) (λ_=>rfl)) LJ))))) (sp:=[_,some (.agg (rdA (⟨fa,[fo],fc,oa,[(0,pp)],oc,la,[c],lc,ga,[],gc,ia,[],ic,o5,o6,o7⟩:eF))),_,_,some (.slice oa 1 oc),_,_,some (ab pp),_,_,_,_,_,_]) ?_ ?_
 ·refine nc rfl rfl ?_ ?_
  ·intro cv L' H' hl hr hP F Q' hk;obtain⟨a45,Az,J,eT,dK,jB,jI,rfl,rfl,rfl,g10,g11,g12,g13⟩:=hP;obtain rfl:J=false:=nW hr rfl;obtain rfl:eT=false:=by cases eT;(rfl);exact absurd (g10 rfl) zI
   obtain rfl:dK=false:=by cases dK;(rfl);exact absurd (g11 rfl) zI
   obtain rfl:jB=false:=by cases jB;(rfl);exact absurd (g12 rfl) zI
   obtain rfl:jI=false:=by cases jI;(rfl);exact absurd (g13 rfl) zI
   refine ny (α:=Option Addr×Nat) (v:=λq=>.tuple #[.slice q.1 1 q.2,cD]) (Φ:=λ_ _ _=>True) call9 rfl rfl rfl (λW hS=>Nf (ch:=s9 pp vv) hZ (hg.old hS A2 zF zP) (hse.oldG hS A2 zF zP) rM (hS.links wm A1).size (hrA.up (aj _) (hS.same A1 (aj _) zF zP)) h1) ?_;rintro _ ⟨a_,c_⟩ w_ _ _ -;exact OJ.done (B7 (λ_ h=>.tail _ h) (hk _ _ _ ⟨a_,c_,true,false,false,false,false,rfl,rfl,rfl,λh=>zQ,λh=>zQ,λh=>zQ,λh=>zQ⟩))
  refine nc rfl rfl ?_ ?_
  ·intro cv L' H' hl hr hP F Q' hk;obtain⟨a45,Az,J,eT,dK,jB,jI,rfl,rfl,rfl,g10,g11,g12,g13⟩:=hP;obtain rfl:J=true:=nu hr 0 zz rfl;obtain rfl:eT=false:=nW hr rfl;refine B 1 ?_;exact OJ.done (hk _ _ _ ⟨a45,Az,true,true,dK,jB,jI,rfl,rfl,rfl,λ_=>rfl,λ_=>rfl,λ_=>rfl,λ_=>rfl⟩)
  refine nc rfl rfl ?_ ?_
  ·intro cv L' H' hl hr hP F Q' hk;obtain⟨a45,Az,J,eT,dK,jB,jI,rfl,rfl,rfl,g10,g11,g12,g13⟩:=hP;obtain rfl:J=true:=nu hr 0 zz rfl;obtain rfl:eT=true:=nu hr 1 zz rfl;obtain rfl:dK=false:=nW hr rfl;refine B 1 ?_;exact OJ.done (hk _ _ _ ⟨a45,Az,true,true,true,jB,jI,rfl,rfl,rfl,λ_=>rfl,λ_=>rfl,λ_=>rfl,λ_=>rfl⟩)
  refine nc rfl rfl ?_ ?_
  ·intro cv L' H' hl hr hP F Q' hk;obtain⟨a45,Az,J,eT,dK,jB,jI,rfl,rfl,rfl,g10,g11,g12,g13⟩:=hP;obtain rfl:J=true:=nu hr 0 zz rfl;obtain rfl:eT=true:=nu hr 1 zz rfl;obtain rfl:jB=false:=nW hr rfl;refine B 1 ?_;exact OJ.done (hk _ _ _ ⟨a45,Az,true,true,dK,true,jI,rfl,rfl,rfl,λ_=>rfl,λ_=>rfl,λ_=>rfl,λ_=>rfl⟩)
  refine nc rfl rfl ?_ ?_
  ·intro cv L' H' hl hr hP F Q' hk;obtain⟨a45,Az,J,eT,dK,jB,jI,rfl,rfl,rfl,g10,g11,g12,g13⟩:=hP;obtain rfl:J=true:=nu hr 0 zz rfl;obtain rfl:eT=true:=nu hr 1 zz rfl;obtain rfl:dK=true:=nu hr 2 zz rfl;obtain rfl:jI=false:=nW hr rfl;refine B 1 ?_;exact OJ.done (hk _ _ _ ⟨a45,Az,true,true,true,jB,true,rfl,rfl,rfl,λ_=>rfl,λ_=>rfl,λ_=>rfl,λ_=>rfl⟩)
  exact nn
 intro cv L' H' hl hr hP;obtain⟨a45,Az,J,eT,dK,jB,jI,rfl,rfl,rfl,g10,g11,g12,g13⟩:=hP;obtain rfl:J=true:=nY hr 0 rfl;obtain rfl:eT=true:=nY hr 1 rfl;obtain rfl:dK=true:=nY hr 2 rfl;obtain rfl:jB=true:=nY hr 3 rfl;obtain rfl:jI=true:=nY hr 4 rfl;refine B 5 ?_;refine CJ.less (E':=[(0,_),(1,_),(2,_),(3,_),(4,_),(6,_),(7,_),(8,_),(9,_),(10,_),(11,_),(12,_),(13,_),(14,_),(15,_),(16,_),(17,_),(18,_),(19,_),(20,_),(21,_),(22,_),(23,_),(24,_),(25,_),(26,_),(27,_),(28,_),(29,_),(30,_),(31,_),(32,_),(33,_),(34,_),(35,_),(36,_),(37,_),(38,_),(39,_),(40,_),(41,_),(42,_),(43,_),(44,_),(45,_),(46,_),(47,_)]) zR ?_;refine dN 18 [1,8,9,11] [[],[0],[0,1],[0]] (λcv L' H'=>∃(a49:Option Addr) (H9:Nat) (BA:Nat) (yA:World) (BB:Option Addr) (DO:Nat) (xG:World) (AA:Nat) (yB:World) (k1 k8 J dK:Bool),cv=[ob k1 (.slice a49 0 H9),ob k8 (.slice (ao BA) 2 2),ob J (.slice BB 1 DO),ob dK (.slice (ao AA) 1 1)]/\L'=(if dK then[yB]else[])++((if J then[xG]else[])++((if k8 then[yA]else[])++[Nh,wm,w]))/\H'=[(b4,oC (seA (aN 4)) 35),(b3,oC (dg (aC Z c)) 33),(b1,oC (xv (⟨fa,[fo],fc,oa,[(0,pp)],oc,la,[c],lc,ga,[],gc,ia,[],ic,o5,o6,o7⟩:eF) gv sv mv) 79)]/\(k8=true->yA.heap[BA]? =some (oC (seA (aN 4)++seA (aN 4)) 35)/\yA.heap.size=BA+1/\bN [(b4,oC (seA (aN 4)) 35),(b3,oC (dg (aC Z c)) 33),(b1,oC (xv (⟨fa,[fo],fc,oa,[(0,pp)],oc,la,[c],lc,ga,[],gc,ia,[],ic,o5,o6,o7⟩:eF) gv sv mv) 79)] BA)/\(J=true->ai seA 35 xG.heap.size xG BB [aN 4]/\wm.heap.size<=xG.heap.size/\∀p,BB=some p->b4≠p.block/\b3≠p.block/\b1≠p.block)/\(dK=true->yB.heap[AA]? =some (oC (seA (aN 4)) 35)/\yB.heap.size=AA+1/\bN [(b4,oC (seA (aN 4)) 35),(b3,oC (dg (aC Z c)) 33),(b1,oC (xv (⟨fa,[fo],fc,oa,[(0,pp)],oc,la,[c],lc,ga,[],gc,ia,[],ic,o5,o6,o7⟩:eF) gv sv mv) 79)] AA)/\(k8=true->k1=true)/\(J=true->k8=true)/\(dK=true->k1=true)) ⟨none,0,0,w,none,0,w,0,w,false,false,false,false,rfl,rfl,rfl,λh=>zQ,λh=>zQ,λh=>zQ,λh=>zQ,λh=>zQ,λh=>zQ⟩ (qn 2 (k:=by exact lH (λcv L' H' hl hd hP=>by obtain⟨a49,H9,BA,yA,BB,DO,xG,AA,yB,k1,k8,J,dK,rfl,rfl,rfl,f8,f9,f11,g8,g9,g11⟩:=hP;obtain rfl:k1=true:=Bv hd 1 zz rfl;exact X.v (mG underlying38 rfl)) (qn 9 (k:=by exact lH (λcv L' H' hl hd hP=>by obtain⟨a49,H9,BA,yA,BB,DO,xG,AA,yB,k1,k8,J,dK,rfl,rfl,rfl,f8,f9,f11,g8,g9,g11⟩:=hP;obtain rfl:J=true:=Bv hd 9 zz rfl;obtain rfl:dK=true:=Bv hd 11 zz rfl;exact nf call19 rfl rfl (λW hS _=>by have h9:=nFl [aN 4] [aN 4] zz zz W.heap.size BB (ao AA) DO 1 W (aj _) ((f9 rfl).1.toG hS (cG _ (td _ A0)) (aj _) (λb off e=>.inr λhb=>⟨λh=>h,by have h8:=(f9 rfl).2.2 _ e;dsimp only at h8;simp only[bN,dA,eh,ne_eq,and_true];omega⟩)) (nsk rfl (hS.old (td _ A0) (f11 rfl).1 zH (f11 rfl).2.2));exact h9) (λ_=>rfl)) LJ)))) (sp:=[_,_,some (ab 0),some bH,_,some (.agg (rdA rN)),some (cV (aN 4)),some (cV (aN 4)),_,_,some (cV (aN 4)),_,some (cD),some bH,_,_,some (.agg (rdA rN)),some (cV (aN 4))]) ?_ ?_
 ·refine nc rfl rfl ?_ ?_
  ·intro cv L' H' hl hr hP F Q' hk;obtain⟨a49,H9,BA,yA,BB,DO,xG,AA,yB,k1,k8,J,dK,rfl,rfl,rfl,f8,f9,f11,g8,g9,g11⟩:=hP;obtain rfl:k1=false:=nW hr rfl;obtain rfl:k8=false:=by cases k8;(rfl);exact absurd (g8 rfl) zI
   obtain rfl:J=false:=by cases J;(rfl);exact absurd (g9 rfl) zI
   obtain rfl:dK=false:=by cases dK;(rfl);exact absurd (g11 rfl) zI
   refine ny (α:=Option Addr×Nat) (v:=λq=>.slice q.1 0 q.2) (Φ:=λ_ _ _=>True) call11 rfl rfl rfl (λW hS=>Up hZ (hg.old hS (cG _ (cG _ (cG _ A2))) zF zP) (hse.oldG hS (cG _ (cG _ (cG _ A2))) zF zP)) ?_;rintro _ ⟨a_,c_⟩ w_ _ _ -;exact OJ.done (B7 (λ_ h=>.tail _ h) (hk _ _ _ ⟨a_,c_,BA,yA,BB,DO,xG,AA,yB,true,false,false,false,rfl,rfl,rfl,λh=>zQ,λh=>zQ,λh=>zQ,λh=>zQ,λh=>zQ,λh=>zQ⟩))
  refine nc rfl rfl ?_ ?_
  ·intro cv L' H' hl hr hP F Q' hk;obtain⟨a49,H9,BA,yA,BB,DO,xG,AA,yB,k1,k8,J,dK,rfl,rfl,rfl,f8,f9,f11,g8,g9,g11⟩:=hP;obtain rfl:k1=true:=nu hr 0 zz rfl;obtain rfl:k8=false:=nW hr rfl;obtain rfl:J=false:=by cases J;(rfl);exact absurd (g9 rfl) zI
   refine S5 ?_;intro b_ w_ sZ pN iA xy yz;exact OJ.done (B7 ab5 (hk _ _ _ ⟨a49,H9,b_,w_,BB,DO,xG,AA,yB,true,true,false,dK,rfl,rfl,rfl,λ_=>⟨sZ,yz,iA⟩,λh=>zQ,f11,λ_=>rfl,λh=>zQ,g11⟩))
  refine nc rfl rfl ?_ ?_
  ·intro cv L' H' hl hr hP F Q' hk;obtain⟨a49,H9,BA,yA,BB,DO,xG,AA,yB,k1,k8,J,dK,rfl,rfl,rfl,f8,f9,f11,g8,g9,g11⟩:=hP;obtain rfl:k1=true:=nu hr 0 zz rfl;obtain rfl:k8=true:=nu hr 1 zz rfl;obtain rfl:J=false:=nW hr rfl;obtain⟨dU,fe,dL⟩:=f8 rfl;refine ny (α:=Option Addr×Nat) (v:=λq=>.slice q.1 1 q.2) (Φ:=λW q w1=>ai seA 35 w1.heap.size w1 q.1 [aN 4]/\∀p,q.1=some p->W.heap.size<=p.block) call15 rfl rfl rfl (λW hS=>Nc hZ (hg.old hS (cG _ (cG _ (cG _ A2))) zF zP) (hse.oldG hS (cG _ (cG _ (cG _ A2))) zF zP) (Ut rfl rfl (hS.old (cG _ (cG _ (td _ A0))) dU zH dL))) ?_;rintro W_ ⟨a_,c_⟩ w_ qM wo ⟨FP,c6⟩;have c4:=qM.lt (b4,_) A0;have db:=qM.lt (b3,_) A1;have c3:=qM.lt (b1,_) A2;dsimp only at c4 db c3;exact OJ.done (B7 H3 (hk _ _ _ ⟨a49,H9,BA,yA,a_,c_,w_,AA,yB,true,true,true,dK,rfl,rfl,rfl,f8,λ_=>⟨FP,eB (qM.links wm (cG _ (cG _ (cG _ A1)))).size wo.size,λp hp=>(by have h8:=c6 p hp;omega)⟩,f11,g8,λ_=>rfl,g11⟩))
  refine nc rfl rfl ?_ ?_
  ·intro cv L' H' hl hr hP F Q' hk;obtain⟨a49,H9,BA,yA,BB,DO,xG,AA,yB,k1,k8,J,dK,rfl,rfl,rfl,f8,f9,f11,g8,g9,g11⟩:=hP;obtain rfl:k1=true:=nu hr 0 zz rfl;obtain rfl:dK=false:=nW hr rfl;refine S5 ?_;intro b_ w_ sZ pN iA xy yz;exact OJ.done (B7 H4 (hk _ _ _ ⟨a49,H9,BA,yA,BB,DO,xG,b_,w_,true,k8,J,true,rfl,rfl,rfl,f8,f9,λ_=>⟨sZ,yz,iA⟩,g8,g9,λ_=>rfl⟩))
  exact nn
 intro cv L' H' hl hr hP;obtain⟨a49,H9,BA,yA,BB,DO,xG,AA,yB,k1,k8,J,dK,rfl,rfl,rfl,f8,f9,f11,g8,g9,g11⟩:=hP;obtain rfl:k1=true:=nY hr 0 rfl;obtain rfl:k8=true:=nY hr 1 rfl;obtain rfl:J=true:=nY hr 2 rfl;obtain rfl:dK=true:=nY hr 3 rfl;show OJ _ _ _ _ _ _ _ [yB,xG,yA,Nh,wm,w] [(b4,oC (seA (aN 4)) 35),(b3,oC (dg (aC Z c)) 33),(b1,oC (xv (⟨fa,[fo],fc,oa,[(0,pp)],oc,la,[c],lc,ga,[],gc,ia,[],ic,o5,o6,o7⟩:eF) gv sv mv) 79)];refine call (v:=.bool false) call10 rfl rfl rfl (λW hS=>Uo hZ (hg.old hS A5 zF zP) (hse.oldG hS A5 zF zP)) ?_;refine aF 6 bH ?_;refine aF 3 (ab 1) ?_;refine wX ?_;refine CJ.less (E':=[(0,_),(1,_),(2,_),(3,_),(4,_),(6,_),(7,_),(8,_),(9,_),(10,_),(11,_),(12,_),(13,_),(14,_),(15,_),(16,_),(17,_),(18,_),(19,_),(20,_),(21,_),(22,_),(23,_),(24,_),(25,_),(26,_),(27,_),(28,_),(29,_),(30,_),(31,_),(32,_),(33,_),(34,_),(35,_),(36,_),(37,_),(38,_),(39,_),(40,_),(41,_),(42,_),(43,_),(44,_),(45,_),(46,_),(47,_),(48,_),(49,_),(50,_),(51,_),(52,_),(53,_),(54,_),(55,_),(56,_),(57,_),(58,_),(59,_),(60,_),(61,_),(62,_),(63,_),(64,_),(65,_),(66,_),(67,_),(68,_),(69,_),(70,_),(71,_),(72,_),(73,_),(74,_),(75,_),(76,_),(77,_),(78,_),(79,_)]) zR ?_
 refine dN 19 [16,18] [[],[]] (λcv L' H'=>∃(JL:Option Addr) (PR:Nat) (Ia:World) (Ib:Nat) (JM:World) (eI kE:Bool),cv=[ob eI (.slice JL 1 PR),ob kE (.slice (ao Ib) 1 1)]/\L'=(if kE then[JM]else[])++((if eI then[Ia]else[])++[yB,xG,yA,Nh,wm,w])/\H'=[(b4,oC (seA (aN 4)) 35),(b3,oC (dg (aC Z c)) 33),(b1,oC (xv (⟨fa,[fo],fc,oa,[(0,pp)],oc,la,[c],lc,ga,[],gc,ia,[],ic,o5,o6,o7⟩:eF) gv sv mv) 79)]/\(eI=true->ai vz 32 Ia.heap.size Ia JL [dk (aC Z c)]/\wm.heap.size<=Ia.heap.size/\∀p,JL=some p->b4≠p.block/\b3≠p.block/\b1≠p.block)/\(kE=true->JM.heap[Ib]? =some (oC (vz (dk (aC Z c))) 33)/\JM.heap.size=Ib+1/\bN [(b4,oC (seA (aN 4)) 35),(b3,oC (dg (aC Z c)) 33),(b1,oC (xv (⟨fa,[fo],fc,oa,[(0,pp)],oc,la,[c],lc,ga,[],gc,ia,[],ic,o5,o6,o7⟩:eF) gv sv mv) 79)] Ib)) ⟨none,0,w,0,w,false,false,rfl,rfl,rfl,λh=>zQ,λh=>zQ⟩ (qn 3 (k:=by exact lH (λcv L' H' _ _ hP=>nf call16 rfl rfl (λW hS _=>L2 _ W) (λ_=>rfl)) (lH (λcv L' H' hl hd hP=>by obtain⟨JL,PR,Ia,Ib,JM,eI,kE,rfl,rfl,rfl,f16,f18⟩:=hP;exact nf call10 rfl rfl (λW hS _=>Uq (ch:=s9 pp vv) hZ (hg.old hS (cG _ (cG _ A5)) zF zP) (hse.oldG hS (cG _ (cG _ A5)) zF zP) rM (hS.links wm (cG _ (cG _ A4))).size (hrA.up (aj _) (hS.same (cG _ (cG _ A4)) (aj _) zF zP)) h1) (λ_=>rfl)) (qn 4 (k:=by exact lH (λcv L' H' _ _ hP=>nf call16 rfl rfl (λW hS _=>L2 _ W) (λ_=>rfl)) (lH (λcv L' H' hl hd hP=>by obtain⟨JL,PR,Ia,Ib,JM,eI,kE,rfl,rfl,rfl,f16,f18⟩:=hP;exact nf call10 rfl rfl (λW hS _=>Ur (ch:=s9 pp vv) hZ (hg.old hS (cG _ (cG _ A5)) zF zP) (hse.oldG hS (cG _ (cG _ A5)) zF zP) rM (hS.links wm (cG _ (cG _ A4))).size (hrA.up (aj _) (hS.same (cG _ (cG _ A4)) (aj _) zF zP)) h1 _) (λ_=>rfl)) LJ)))))) (sp:=[_,some (.agg (rdA (⟨fa,[fo],fc,oa,[(0,pp)],oc,la,[c],lc,ga,[],gc,ia,[],ic,o5,o6,o7⟩:eF))),some (.agg (dg (aC Z c))),_,some (cD),_,_,some (.agg (rdA (⟨fa,[fo],fc,oa,[(0,pp)],oc,la,[c],lc,ga,[],gc,ia,[],ic,o5,o6,o7⟩:eF))),some (.agg (dg (aC Z c))),_,some (bH),some cD,_,_,_,some (.agg (rdA (⟨fa,[fo],fc,oa,[(0,pp)],oc,la,[c],lc,ga,[],gc,ia,[],ic,o5,o6,o7⟩:eF))),_,some (.agg (dg (aC Z c))),_]) ?_ ?_
 ·refine nc rfl rfl ?_ ?_
  ·intro cv L' H' hl hr hP F Q' hk;obtain⟨JL,PR,Ia,Ib,JM,eI,kE,rfl,rfl,rfl,f16,f18⟩:=hP;obtain rfl:eI=false:=nW hr rfl;refine ny (α:=Option Addr×Nat) (v:=λq=>.slice q.1 1 q.2) (Φ:=λW q w1=>ai vz 32 w1.heap.size w1 q.1 [dk (aC Z c)]/\∀p,q.1=some p->W.heap.size<=p.block) call21 rfl rfl rfl (λW hS=>Us (ch:=s9 pp vv) hZ (hg.old hS (cG _ (cG _ A5)) zF zP) (hse.oldG hS (cG _ (cG _ A5)) zF zP) rM (hS.links wm (cG _ (cG _ A4))).size (hrA.up (aj _) (hS.same (cG _ (cG _ A4)) (aj _) zF zP)) h1) ?_;rintro W_ ⟨a_,c_⟩ w_ qM wo ⟨FP,c6⟩;have c4:=qM.lt (b4,_) A0;have db:=qM.lt (b3,_) A1;have c3:=qM.lt (b1,_) A2;dsimp only at c4 db c3;exact OJ.done (B7 H3 (hk _ _ _ ⟨a_,c_,w_,Ib,JM,true,kE,rfl,rfl,rfl,λ_=>⟨FP,eB (qM.links wm (cG _ (cG _ A4))).size wo.size,λp hp=>(by have h8:=c6 p hp;omega)⟩,f18⟩))
  refine nc rfl rfl ?_ ?_
  ·intro cv L' H' hl hr hP F Q' hk;obtain⟨JL,PR,Ia,Ib,JM,eI,kE,rfl,rfl,rfl,f16,f18⟩:=hP;obtain rfl:kE=false:=nW hr rfl;refine rJ underlying72 sizeOf33 zeroValue33 rfl rfl rfl rfl rfl rfl rfl ?_;intro b_ w_ sZ pN iA xy yz;exact OJ.done (B7 H4 (hk _ _ _ ⟨JL,PR,Ia,b_,w_,eI,true,rfl,rfl,rfl,f16,λ_=>⟨sZ,yz,iA⟩⟩))
  exact nn
 intro cv L' H' hl hr hP;obtain⟨JL,PR,Ia,Ib,JM,eI,kE,rfl,rfl,rfl,f16,f18⟩:=hP;obtain rfl:eI=true:=nY hr 0 rfl;obtain rfl:kE=true:=nY hr 1 rfl;show OJ _ _ _ _ _ _ _ [JM,Ia,yB,xG,yA,Nh,wm,w] [(b4,oC (seA (aN 4)) 35),(b3,oC (dg (aC Z c)) 33),(b1,oC (xv (⟨fa,[fo],fc,oa,[(0,pp)],oc,la,[c],lc,ga,[],gc,ia,[],ic,o5,o6,o7⟩:eF) gv sv mv) 79)];refine call (v:=.bool true) call24 rfl rfl rfl (λW hS=>by have h9:=nhp [dk (aC Z c)] [dk (aC Z c)] zI zI W.heap.size JL (ao Ib) PR 1 W (aj _) ((f16 rfl).1.toG hS A1 (aj _) (λb off e=>.inr λhb=>⟨λh=>h,by have h8:=(f16 rfl).2.2 _ e;dsimp only at h8;simp only[bN,dA,eh,ne_eq,and_true];omega⟩)) (nsk rfl (hS.old A0 (f18 rfl).1 zH (f18 rfl).2.2));rw[decide_eq_true rfl]at h9;exact h9) ?_;refine aF 3 (.agg (rdA (⟨fa,[fo],fc,oa,[(0,pp)],oc,la,[c],lc,ga,[],gc,ia,[],ic,o5,o6,o7⟩:eF))) ?_;refine ny (α:=Option Addr×Nat) (v:=λq=>.slice q.1 0 q.2) (Φ:=λ_ _ _=>True) call15 rfl rfl rfl (λW hS=>Ng (ch:=s9 pp vv) hZ (hg.old hS A7 zF zP) (hse.oldG hS A7 zF zP) rM (hS.links wm A6).size (hrA.up (aj _) (hS.same A6 (aj _) zF zP)) h1) ?_;rintro _ ⟨eP,en⟩ fg _ _ -;refine du (ab 0) ?_;refine VR ?_;refine cA (.inl rfl) results7 bD A8 zA ?_;rfl
structure ChI (x:Ch):Prop where
 kind:kK x.kind
 dev:kK x.dev
 pub:kK x.pub
 ver:kK x.ver
 cut:kK x.cut
structure BxI (x:Bx):Prop where
 node:kK x.node
 level:kK x.level
 u:kK x.w.u
structure WeI (x:We):Prop where
 dev:kK x.dev
 u:kK x.w.u
structure Ni (c:Cm):Prop where
 folder:kK c.folder
 epoch:kK c.epoch
 par:ey c.par
 author:kK c.author
 chs:∀x∈c.chs,ChI x
 path:∀x∈c.path,kK x
 bxs:∀x∈c.bxs,BxI x
 wes:∀x∈c.wes,WeI x
 conf:ey c.conf
 sr:kK c.sr
 ss:kK c.ss
 lim:Gx c
theorem nog(n:Nat)(hn:n<=100):∀ls:List (List V),(∀l∈ls,l.all v7=true/\l.length<=n/\V.fineL l)->V.fineL (ls.map V.list)/\V.depthL (ls.map V.list)<=1
 | [],_=>by simp[V.fineL,V.depthL]
 |l::ls,h=>by
  obtain⟨h1,h2⟩:=nog n hn ls (λx hx=>h x (.tail _ hx));obtain⟨g1,g2,g3⟩:=h l A0;obtain⟨_,g4⟩:=nvf l g1 g3;simp only[dP,V.fineL,V.fine,V.depthL,V.depth,g4];exact⟨⟨⟨by omega,by omega,g3⟩,h1⟩,by omega⟩
theorem nYl:∀l:List Int,(∀x∈l,kK x)->V.fineL (l.map V.int)/\V.depthL (l.map V.int)=0
 | [],_=>by simp[V.fineL,V.depthL]
 |y::l,h=>by
  obtain⟨h1,h2⟩:=nYl l (λx hx=>h x (.tail _ hx));simp only[dP,V.fineL,V.fine,V.depthL,V.depth,h2];exact⟨⟨h y A0,h1⟩,by omega⟩
theorem n7f{l:List V}(h:V.fineL l)(hl:l.length<=1000000000)(hd:V.depthL l<=1000000000):V.fine (.list l):=by simp only[V.fine];exact⟨hl,hd,h⟩
theorem Ic(h:tS c=true):(∀x∈c.bxs,x.w.body.length<=200)/\(∀x∈c.wes,x.w.body.length<=200)/\c.chs.length<=10/\c.path.length<=12/\c.bxs.length<=40/\c.wes.length<=10:=by
 simpa[tS,and_assoc]using h
theorem Nj(h:Ni c)(hf:tS c=true):bO c:=by
 obtain⟨f1,f2,f3,f4,f5,f6⟩:=Ic hf;refine⟨⟨h.par,h.conf,f3,f4,f5,f6,f1,f2⟩,?_⟩;have a1:=nog 100 zz (c.chs.map Cp) (λl hl=>by
  obtain⟨x,hx,rfl⟩:=bU.1 hl;have g:=h.chs x hx;refine⟨by simp[Cp,v7],by simp[Cp],?_⟩;simp only[Cp,V.fineL,V.fine];exact⟨g.kind,g.dev,g.pub,g.ver,g.cut,trivial⟩)
 have a2:=nYl c.path h.path;have a3:=nog 100 zz (c.bxs.map vk) (λl hl=>by
  obtain⟨x,hx,rfl⟩:=bU.1 hl;have g:=h.bxs x hx;have g2:=f1 x hx;refine⟨by simp[vk,v7],by simp[vk],?_⟩;simp only[vk,V.fineL,V.fine];exact⟨g.node,g.level,g.u,by rw[Ft];omega,trivial⟩)
 have a4:=nog 100 zz (c.wes.map vl) (λl hl=>by
  obtain⟨x,hx,rfl⟩:=bU.1 hl;have g:=h.wes x hx;have g2:=f2 x hx;refine⟨by simp[vl,v7],by simp[vl],?_⟩;simp only[vl,V.fineL,V.fine];exact⟨g.dev,g.u,by rw[Ft];omega,trivial⟩)
 simp only[oD,V.fineL];refine⟨by simp only[V.fine];exact h.folder,by simp only[V.fine];exact h.epoch,by simp only[V.fine];rw[Ft,nI];omega,by simp only[V.fine];exact h.author,n7f a1.1 (by simp only[eK];omega) aa,n7f a2.1 (by simp only[eK];omega) aa,n7f a3.1 (by simp only[eK];omega) aa,n7f a4.1 (by simp only[eK];omega) aa,by simp only[V.fine];rw[Ft,nI];omega,by simp only[V.fine];exact h.sr,by simp only[V.fine];exact h.ss,trivial⟩
structure Uu (x:Gr):Prop where
 bf:ey x.f
 bo:∀o∈x.olds,ey o.f
 i:kK x.folder/\kK x.by_/\kK x.device/\kK x.pub
 io:∀o∈x.olds,kK o.w.u
structure BC (r:eF):Prop where
 cm:∀c∈r.cs,Ni c
 gr:∀g∈r.gs,Uu g
 ir:∀x∈r.xs,ku x
theorem ace{r:eF}(h:xw r=true):r.fos.length<=3/\r.cs.length<=7/\(∀c∈r.cs,tS c=true)/\r.gs.length<=4/\r.xs.length<=4/\r.os.length<=20/\∀g∈r.gs,g.olds.length<=6:=by
 simpa[xw,CC,and_assoc,uD]using h
theorem BC.ok{r:eF}(h:BC r)(hf:xw r=true):fG r:=by
 obtain⟨h1,h2,h3,h4,h5,J,h7⟩:=ace hf;exact⟨by omega,by omega,by omega,λc hc=>Nj (h.cm c hc) (h3 c hc),by omega,λg hg=>⟨h7 g hg,(h.gr g hg).bf,(h.gr g hg).bo,(h.gr g hg).i,(h.gr g hg).io⟩,by omega,h.ir⟩
theorem n0n(Z:Fx)(cs:List Cm):∀(n:Nat) (J:List (Nat×Gp)),(sY Z cs n J).length<=n
 |0,_=>aj 0
 |_+1,[]=>cO _
 |n+1,q::J=>Nat.succ_le_succ (n0n Z cs n (J++yn Z cs q))
theorem Ie(Z:Fx)(cs:List Cm)(fo:Fo):(gJ Z cs fo).length<=cs.length+1:=by grind [gJ,n0n]
theorem Ig{cs:List Cm}{fos:List Fo}{p:Ap}(h:p∈eR Z cs fos):p.1∈cs:=by
 unfold eR at h;obtain⟨fo,_,h⟩:=uL.1 h;unfold Ao at h;have key:∀j,p∈mj cs (gJ Z cs fo) j->p.1∈cs:=by
  intro j;induction j with
  |zero=>intro h;simp[mj]at h
  |succ j ih=>
   intro h;unfold mj at h;split at h
   ·exact ih h
   rename_i q hq;rcases aY.1 h with h|h
   ·exact ih h
   simp only[fC]at h;subst h;obtain⟨g,c,hc,_⟩:=nrg q (cu hq);show iT cs q.1∈cs;unfold iT;rw[hc];exact cu hc
 exact key _ h
section
variable {C:Cx} {Q:bE} {E:Env} {D:List Deferred} {G:Gh} {L L':List World} {H:ad} {ops:Array Oper} {l:List Oper}
end
section
variable {Z:Fx} (hZ:FxOk Z) (r:eF) (hr:fG r) (N:Nat) (w:World) (hN:N<=w.heap.size) (hrA:fH N w r) (hg:Glb w)
include hZ hr hN hrA hg
end
theorem nQi{α:Type}{p:α->Bool}{xs:List α}{j:Nat}(h:gE p xs j)(hj:xs.length<=j){x:α}(hx:x∈xs):p x=false:=by
 obtain⟨i,hi⟩:=ju.1 hx;exact h i x (by have:=nq hi;omega) hi

def pY (p:Pl):Array Value:=(ab p.c.folder::ab p.c.epoch::lN p.c.par (ab p.c.author:: .slice p.c.ca p.c.chs.length p.c.cc:: .slice p.c.pa p.c.path.length p.c.pc:: .slice p.c.ba p.c.bxs.length p.c.bc:: .slice p.c.wa p.c.wes.length p.c.wc::lN p.c.conf (ab p.c.sr::ab p.c.ss:: .bool p.fst::ab p.x.g.folder::ab p.x.g.epoch::lN p.x.g.last [.slice p.x.ma p.x.g.ms.length p.x.mc,.slice p.x.na p.x.g.ns.length p.x.nc,.slice p.ta p.ns.length p.tc]))).toArray
def BD (p:Pl):List Value:=(pY p).toList
theorem nRj(p:Pl):(BD p).length=111:=rfl
theorem Nk(p:Pl):∀u∈BD p,u.oneCell'=true:=LD rfl
theorem Nl:prog.info? 63=some Tryz.t63:=by kernel_rfl
theorem Uv:jM prog 43 63 111:=⟨underlying43,Tryz.t63,_,Nl,rfl,rfl,rfl,by decide⟩
theorem Nn(cs:Array Value)(o n k m:Nat)(h:k+m<=n):cut (cut cs o n) k m=cut cs (o+k) m:=by
 unfold cut;simp only[List.drop_take,List.take_take,Wz];congr 2;omega
section
variable {α:Type}{enc:α->Array Value}{n off:Nat}{xs:List α}(h:∀i (h:i<xs.length),off+i*n+n<=cs.size/\cut cs (off+i*n) n=enc xs[i]){j:Nat}{x:α}(hj:xs[j]? =some x){i:Int}(hi:i=(j:Int))(k m:Nat)(hk:k+m<=n)
include α enc n off h j hj i hi k hk
theorem n1g:cut cs (off+i.toNat*n+k) m=cut (enc x) k m:=by
 rw[<-Nn cs _ n k m hk,dY h hj hi]
theorem nPf:off+i.toNat*n+k+m<=cs.size:=by
 have:=de h hj hi;omega
end
def ofV (o:Option Pl):Value:=.tuple #[.agg (pY (o.getD Bp)),.bool o.isSome]
theorem nCm(pls:List Pl)(gq:pls.length<=1000)(N:Nat)(a:Option Addr)(cp:Nat)(f:Nat->Int)(w:World)(hN:N<=w.heap.size)(aI:ai pY 111 N w a pls):Calls prog 38 #[.slice a pls.length cp,.agg (dg f)] w (aU w (ofV (gL pls f))):=by
 refine eN func38 ntmps38 ?_;refine cK 2 ?_;intro b3 w3 dE da gi eO fw;refine bM 1 ?_;intro b4 iW iX;refine B 10 ?_;refine CJ.lp (α:=Nat) [0,3,4] (λj=>[(6,ab (j:Int))]) (λj=>[(b4,oC (pY Bp) 63)]) (λj=>j<=pls.length/\gE (λp:Pl=>iD p.x.g.last f) pls j) (λj=>pls.length-j) 0 ⟨cO _,λi x hi=>absurd hi aa⟩ ?_;rintro j ⟨hj,dR⟩;refine aG 9 ?_ ?_
 ·intro av;refine B 5 ?_;obtain⟨bp,op,J,tp,fg,ez,AM,bX,aR⟩:=aI.get aa;obtain⟨x,hx⟩:=ng pls j aa;refine eA 7 (pb:=by exact zU 2 (k:=by exact aM (X.v (bC underlying43 sizeOf63 (congrArg (λq=>some (Value.slice q pls.length cp)) ez) rfl aa aa)) (zU 2 (k:=by exact aM (X.v (RV.re (v':=.agg (dg x.x.g.last)) (dt isAgg33 sizeOf33 rfl A1 bX zH zy (nPf aR hx rfl 76 32 zz)) (va (n1g aR hx rfl 76 32 zz)))) zT)))) (k:=?_);refine rr (.bool (iD x.x.g.last f)) (hQ nO zz nF rfl rfl rfl) ?_;refine aG 2 ?_ ?_
  ·intro aS;refine B 4 ?_;refine zwd ?_;refine du (.agg (pY x)) ?_;refine B 10 ?_;refine cA (.inl rfl) results38 bD A1 z0b ?_;rw[show gL pls f=(some x)from n2j dR hx cY];rfl
  intro aS;refine B 8 ?_;refine ag (j+1) ⟨by omega,dR.next hx (by simpa using cY)⟩
 intro av;refine aF 7 (.agg (pY Bp)) ?_;refine B 5 ?_;refine cA (.inl rfl) results38 bD A1 z0b ?_;rw[show gL pls f=none from nFk dR aa];rfl
end Px
