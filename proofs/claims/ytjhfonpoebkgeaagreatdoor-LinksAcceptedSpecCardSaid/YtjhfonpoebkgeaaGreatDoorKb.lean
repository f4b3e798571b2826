/- Contracts of functions of the program. No conditions. -/
import Derived.Test.YtjhfonpoebkgeaaGreatDoorKa
import Derived.Test.YtjhfonpoebkgeaaGreatDoorProg
import Derived.Lib.RowBridge
import Derived.Test.YtjhfonpoebkgeaaGreatDoorLa
set_option linter.unusedSimpArgs false
set_option linter.unusedVariables false
set_option linter.unusedSectionVars false
set_option maxRecDepth 20000
set_option maxHeartbeats 8000000
namespace Px
open Go Go.RowKit Go.Proofs Go.Proofs.Tryz
theorem nxg(l:Lk)(w:World):Calls prog 49 #[.agg (lkC l)] w (db w (λb:Nat=>.slice (aH b) 7 7) (λb w1=>w.heap.size<=b/\w1.heap[b]? =some (oC (nw (cV l)).toArray 139))):=by
 refine eN func49 ntmps49 ?_;refine aU 2 ?_;intro b1 w1 aW bJ eO dC fg;refine av 16 ?_ ?_
 ·intro ai;refine B 5 ?_;refine eA 25 (pb:=zYD) (k:=?_);refine cl call68 rfl (λW hS=>n5e _ W) ?_;refine z6e ?_;refine yV ?_;intro J a6 Qy Qz aq xM Yw;refine B 4 ?_;exact bH (.inl rfl) results49 aL (λW hS=>⟨J,rfl,hS.base A2 trivial,by omega,by rw[show cV l=J5 l 1 from by unfold cV;rw[if_pos ai]];exact hS.old A0 Qy Qz trivial⟩)
 intro ai;refine B 3 ?_;refine eA 25 (pb:=zYD) (k:=?_);refine cl call68 rfl (λW hS=>n5e _ W) ?_;refine z6e ?_;refine yV ?_;intro J a6 Qy Qz aq xM Yw;refine B 4 ?_;exact bH (.inl rfl) results49 aL (λW hS=>⟨J,rfl,hS.base A2 trivial,by omega,by rw[show cV l=J5 l 0 from by unfold cV;rw[if_neg (by rw[ai];decide)]];exact hS.old A0 Qy Qz trivial⟩)
theorem nCh(l:Lk)(w:World):Calls prog 80 #[.agg (lkC l)] w (db w (λb:Nat=>.slice (aH b) 7 7) (λb w1=>w.heap.size<=b/\w1.heap[b]? =some (oC (nw (cV l)).toArray 139))):=by
 refine eN func80 ntmps80 ?_;refine aU 2 ?_;intro b1 w1 aW bJ eO dC fg;refine B 4 ?_;refine eA 22 (pb:=by exact zU 2 (k:=by exact dh (X.cv call81 rfl (λW hS _=>Iu _ W)) (zU 2 (k:=by exact dh (X.cv call81 rfl (λW hS _=>Iu _ W)) (zU 2 (k:=by exact dh (X.cv call81 rfl (λW hS _=>Iu _ W)) (zU 2 (k:=by exact dh (X.cv call81 rfl (λW hS _=>Iu _ W)) (zU 2 (k:=by exact dh (X.cv call81 rfl (λW hS _=>Iu _ W)) (zU 2 (k:=by exact dh (X.cv call123 rfl (λW hS _=>DV _ W)) (dh (X.cv call81 rfl (λW hS _=>Iu _ W)) (zU 1 (k:=by exact qv (lL (h:=32) underlying34 sizeOf5 rfl rfl aa) (qv (J4 underlying50 underlying5 underlying9 rfl A0 aW bJ trivial rfl) (lK rfl))))))))))))))))) (k:=?_);refine cl call124 rfl (λW hS=>nph _ W) ?_;refine z6e ?_;refine yV ?_;intro fO aR aq J aD kD a6;refine B 4 ?_;exact bH (.inl rfl) results80 aL (λW hS=>⟨fO,rfl,hS.base A2 trivial,by omega,by skip;exact hS.old A0 aq J trivial⟩)
variable {Z:Fx} {H:ae} {d n:Int} {kv:List (Int×Int)} {Fin Pre:List Int->Prop} {cap sp:List Value} {L:List World} {N i j k:Nat} {RO:Nat->Prop} {a:Option Addr} {w:World}
section
variable (hZ:FxOk Z)(s:ByteArray)(hs0:s.size<1000)(l:List V)(cC:(V.list l).fine)(hd:(V.list l).depth<=16)(fF:(V.list l).enc.length<=800000000000)(N bl lc:Nat)(w:World)(hN:N<=w.heap.size)(kT:ef N w (.list l) (vL (aH bl) l.length lc))
include hZ s hs0 cC hd fF bl lc hN kT
theorem n9e(hg:Glb w):Calls prog 48 #[.string s,.slice (aH bl) l.length lc] w (ar w (.agg (dg (Z.tg s (V.list l).enc)))):=by
 have gP:=hg.lt;obtain⟨df,gJ⟩:∃df,Z.tg s (V.list l).enc=df:=⟨_,rfl⟩;refine eN func48 ntmps48 ?_;refine bD 3 ?_;intro b4 dL dP;refine B 6 ?_;refine zNf ?_;intro iK zC Cj J iS JX sf;replace J:=yb J;replace iS:=yd iS;refine B 11 ?_;refine zsf ?_;refine B 4 ?_;refine aS (.inl rfl) results48 aL A0 zH ?_;rw[gJ];rfl
theorem nCn:Calls prog 79 #[.string s,.slice (aH bl) l.length lc] w (ar w (.agg (dg (Z.tg s (V.list l).enc)))):=by
 obtain⟨df,gJ⟩:∃df,Z.tg s (V.list l).enc=df:=⟨_,rfl⟩;refine eN func79 ntmps79 ?_;refine bD 3 ?_;intro b4 dL dP;refine B 5 ?_;refine z2e ?_;intro iK zC Cj J iS JX sf;replace J:=yb J;replace iS:=yd iS;refine B 11 ?_;refine zKf ?_;refine B 4 ?_;refine aS (.inl rfl) results79 aL A0 zH ?_;rw[gJ];rfl
end
def eC (Z:Fx) (l:Lk):Nat->Int:=Z.tg (⟨#[108,105,110,107,32,115,105,103,110]⟩:ByteArray) (V.list (cV l)).enc
def qu (Z:Fx) (l:Lk):Nat->Int:=Z.tg (⟨#[108,105,110,107]⟩:ByteArray) (V.list (Bo l)).enc
theorem nNc(hZ:FxOk Z)(l:Lk)(hl:dm l)(w:World)(hg:Glb w):Calls prog 22 #[.agg (lkC l)] w (db w (λb:Nat=>.slice (aH b) 32 32) (λb w1=>w.heap.size<=b/\w1.heap[b]? =some (oC (dg (eC Z l)) 34))):=by
 have gP:=hg.lt;obtain⟨df,gJ⟩:∃df,eC Z l=df:=⟨_,rfl⟩;have jd:=Yu (cV l) (Yv l) (nCq l hl) (by simp[cV,J5]);refine eN func22 ntmps22 ?_;refine aU 2 ?_;intro b1 w1 aW bJ eO dC fg;refine B 6 ?_;refine ny (Φ:=λ(W:World) (b:Nat) (v1:World)=>W.heap.size<=b/\v1.heap[b]? =some (oC (nw (cV l)).toArray 139)) call49 rfl rfl rfl (λW hS=>nxg l W) ?_;rintro W5 b5 w5 vV Bp ⟨J6,gQ⟩;have pq:=(bO.1 gQ).1;have J:=vV.sizes;replace J:=yb J;have DW:=Bp.size;refine cl call48 rfl (λW hS=>by rw[<-gJ];exact n9e hZ (⟨#[108,105,110,107,32,115,105,103,110]⟩:ByteArray) zF (cV l) jd.1 jd.2.1 jd.2.2 w5.heap.size b5 7 W (hS.links _ A0).size (Qw (sp:=[]) (Yv l) pq (aC 7) (by rw[dG];exact hS.old A0 gQ zL trivial)) (hg.old hS A2 zO zJ)) (v:=.agg (dg df)) ?_;refine bD 1 ?_;intro b3 cP dt;refine Yx ?_;exact bH (.inl rfl) results22 aL (λW hS=>⟨b3,rfl,hS.base A2 zH,by omega,zY1⟩)
theorem nbg(hZ:FxOk Z)(l:Lk)(hl:dm l)(w:World):Calls prog 38 #[.agg (lkC l)] w (db w (λb:Nat=>.slice (aH b) 32 32) (λb w1=>w.heap.size<=b/\w1.heap[b]? =some (oC (dg (eC Z l)) 34))):=by
 obtain⟨df,gJ⟩:∃df,eC Z l=df:=⟨_,rfl⟩;have jd:=Yu (cV l) (Yv l) (nCq l hl) (by simp[cV,J5]);refine eN func38 ntmps38 ?_;refine aU 2 ?_;intro b1 w1 aW bJ eO dC fg;refine B 6 ?_;refine ny (Φ:=λ(W:World) (b:Nat) (v1:World)=>W.heap.size<=b/\v1.heap[b]? =some (oC (nw (cV l)).toArray 139)) call80 rfl rfl rfl (λW hS=>nCh l W) ?_;rintro W5 b5 w5 vV Bp ⟨J6,gQ⟩;have pq:=(bO.1 gQ).1;have J:=vV.sizes;replace J:=yb J;have DW:=Bp.size;refine cl call79 rfl (λW hS=>by rw[<-gJ];exact nCn hZ (⟨#[108,105,110,107,32,115,105,103,110]⟩:ByteArray) zF (cV l) jd.1 jd.2.1 jd.2.2 w5.heap.size b5 7 W (hS.links _ A0).size (Qw (sp:=[]) (Yv l) pq (aC 7) (by rw[dG];exact hS.old A0 gQ zL trivial))) (v:=.agg (dg df)) ?_;refine bD 1 ?_;intro b3 cP dt;refine Yx ?_;exact bH (.inl rfl) results38 aL (λW hS=>⟨b3,rfl,hS.base A2 zH,by omega,zY1⟩)
theorem nKq:prog.info? 139=some Tryz.t139:=by kernel_rfl
theorem n4q(l:List V):∀u∈nw l,u.oneCell'=true:=by
 intro u hu;obtain⟨x,_,hx⟩:=List.mem_flatMap.1 hu;cases x<;>simp only[Qv,ft,jc,or_false]at hx
 ·rcases hx with rfl|rfl|rfl|rfl<;>rfl
 rcases hx with rfl|rfl|rfl|rfl<;>rfl
theorem aic{C:Cx}{G:Gh}{J e' b c t:Nat}{l:List V}{fr:Nat×Nat}(hU:C.P.underlying J=some (.slice e'))(hf:l.all vk=true)(hi:H[i]? =some (b,.cells (nw l++sp).toArray t fr)):ib C G L H 4 J (.slice (aH b) l.length c) l.length (nw l):=
 ib.sl hU (Rd.own hi (by grind [Yt]) (by grind [Yt])) (Yt l hf) (n4q l)
abbrev Co (l:List V) (sp:List Value) (t:Nat):Obj:=oC (nw l++sp).toArray t
theorem nxk(a b:List V):nw (a++b)=nw a++nw b:=by simp[nw]
theorem n4j(l:Lk)(w:World):Calls prog 49 #[.agg (lkC l)] w (db w (λb:Nat=>.slice (aH b) 7 7) (λb w1=>w.heap.size<=b/\True/\w1.heap[b]? =some (oC (nw (cV l)++[]).toArray 139))):=
 (nxg l w).mono (by
  simp)
theorem nBm(l:Lk)(w:World):Calls prog 80 #[.agg (lkC l)] w (db w (λb:Nat=>.slice (aH b) 7 7) (λb w1=>w.heap.size<=b/\True/\w1.heap[b]? =some (oC (nw (cV l)++[]).toArray 139))):=
 (nCh l w).mono (by
  simp)
section
variable (hZ:FxOk Z)(l:Lk)(hl:dm l)(w:World)
include hZ hl
theorem DX(hg:Glb w):Calls prog 30 #[.agg (lkC l)] w (ar w (.agg (dg (qu Z l)))):=by
 have gP:=hg.lt;obtain⟨df,gJ⟩:∃df,qu Z l=df:=⟨_,rfl⟩;have jd:=Yu (Bo l) rfl (nAn l hl) (by simp[Bo,cV,J5]);refine eN func30 ntmps30 ?_;refine aU 2 ?_;intro b1 w1 aW bJ eO dC fg;refine bD 1 ?_;intro b2 cL cR;refine B 3 ?_;refine nE (E':=[(0,_),(1,_),(2,_)]) zR ?_;refine CJ.chn 11 [1] [some (.agg (lkC l)),none,_,_,_,some (ab l.sr),_,_,_,_,some (ab l.ss)] (λcv L' H'=>match cv with| []=>L'=[w1,w]/\H'=[(b2,oC zK 34)]| [v1]=>∃(b4:Nat),v1= .slice (aH b4) 7 7/\L'=[w1,w]/\H'=[(b4,Co (cV l) [] 139),(b2,oC zK 34)]/\w1.heap.size<=b4/\w.heap.size<=b4/\b2≠b4|_=>False) (pc U6 (pk (pc z1 (pc U7 (pc JT (pc U6 (pc (by exact λcv L' H' hd hP=>X.cv call69 rfl (λW hS _=>nW _ W)) (pc z1 (pc U7 (pc JT (pc U6 (pn)))))))))))) ?_ ?_
 ·refine ss rfl ?_ ?_
  ·intro cv L' H' hl hP F Q' hk;obtain rfl:=oJ hl;obtain⟨rfl,rfl⟩:=hP;refine UM (v:=λb:Nat=>.slice (aH b) 7 7) (bo:=λb:Nat=>(b,Co (cV l) [] 139)) (Φ:=λ_=>True) call49 rfl rfl rfl (λW hS=>n4j l W) ?_;intro b4 ha ho _;exact OJ.done (hk _ _ _ ⟨b4,rfl,rfl,rfl,ha.1,ha.2.1,ho.1⟩)
  exact nn
 intro cv L' H' hl hP;obtain⟨v1,rfl⟩:=gh hl;obtain⟨b4,rfl,rfl,rfl,dL,U8,dP⟩:=hP;refine cl call69 rfl (λW hS=>nW _ W) ?_;refine Ac ?_;refine yW ?_;intro gl jl Bh;refine zke ?_;intro gg J aq pL xz aR;replace pL:=yb pL;refine OJ.reH (H':=[(gl,Co [.int l.sr,.int l.ss] [] 139),(gg,Co (Bo l) aq 139),(b2,oC zK 34)]) (by simp only[Co,Bo,nxk];rfl) ?_;refine cl call48 rfl (λW hS=>by rw[<-gJ];exact n9e hZ (⟨#[108,105,110,107]⟩:ByteArray) zF (Bo l) jd.1 jd.2.1 jd.2.2 W.heap.size gg J W (aC _) (Qw rfl (hS.lt _ A1) xz (hS.own _ A1)) (hg.old hS A1 zO zJ)) (v:=.agg (dg df)) ?_;refine B 4 ?_;refine aS (.inl rfl) results30 aL A1 zH ?_;rw[gJ];rfl
theorem QA:Calls prog 39 #[.agg (lkC l)] w (ar w (.agg (dg (qu Z l)))):=by
 obtain⟨df,gJ⟩:∃df,qu Z l=df:=⟨_,rfl⟩;have jd:=Yu (Bo l) rfl (nAn l hl) (by simp[Bo,cV,J5]);refine eN func39 ntmps39 ?_;refine aU 2 ?_;intro b1 w1 aW bJ eO dC fg;refine bD 1 ?_;intro b2 cL cR;refine B 3 ?_;refine nE (E':=[(0,_),(1,_),(2,_)]) zR ?_;refine CJ.chn 9 [1] [some (.agg (lkC l)),none,_,_,some (ab l.sr),_,_,_,some (ab l.ss)] (λcv L' H'=>match cv with| []=>L'=[w1,w]/\H'=[(b2,oC zK 34)]| [v1]=>∃(b4:Nat),v1= .slice (aH b4) 7 7/\L'=[w1,w]/\H'=[(b4,Co (cV l) [] 139),(b2,oC zK 34)]/\w1.heap.size<=b4/\w.heap.size<=b4/\b2≠b4|_=>False) (pc U6 (pk (pc U7 (pc JT (pc U6 (pc Iv (pc U7 (pc JT (pc U6 (pn)))))))))) ?_ ?_
 ·refine ss rfl ?_ ?_
  ·intro cv L' H' hl hP F Q' hk;obtain rfl:=oJ hl;obtain⟨rfl,rfl⟩:=hP;refine UM (v:=λb:Nat=>.slice (aH b) 7 7) (bo:=λb:Nat=>(b,Co (cV l) [] 139)) (Φ:=λ_=>True) call80 rfl rfl rfl (λW hS=>nBm l W) ?_;intro b4 ha ho _;exact OJ.done (hk _ _ _ ⟨b4,rfl,rfl,rfl,ha.1,ha.2.1,ho.1⟩)
  exact nn
 intro cv L' H' hl hP;obtain⟨v1,rfl⟩:=gh hl;obtain⟨b4,rfl,rfl,rfl,dL,U8,dP⟩:=hP;refine cl call81 rfl (λW hS=>Iu _ W) ?_;refine Ac ?_;refine yW ?_;intro jO qK xP;refine zke ?_;intro US aq J QB lD a6;replace QB:=yb QB;refine OJ.reH (H':=[(jO,Co [.int l.sr,.int l.ss] [] 139),(US,Co (Bo l) J 139),(b2,oC zK 34)]) (by simp only[Co,Bo,nxk];rfl) ?_;refine cl call79 rfl (λW hS=>by rw[<-gJ];exact nCn hZ (⟨#[108,105,110,107]⟩:ByteArray) zF (Bo l) jd.1 jd.2.1 jd.2.2 W.heap.size US aq W (aC _) (Qw rfl (hS.lt _ A1) lD (hS.own _ A1))) (v:=.agg (dg df)) ?_;refine B 4 ?_;refine aS (.inl rfl) results39 aL A1 zH ?_;rw[gJ];rfl
theorem npj(hg:Glb w):Calls prog 12 #[.agg (lkC l)] w (ar w (.agg (dg (qu Z l)))):=by
 have J:=hg.lt;obtain⟨df,gJ⟩:∃df,qu Z l=df:=⟨_,rfl⟩;refine eN func12 ntmps12 ?_;refine aU 2 ?_;intro b1 w1 aW bJ eO dC fg;refine bD 1 ?_;intro b2 cL cR;refine B 6 ?_;refine cl call30 rfl (λW hS=>by rw[<-gJ];exact DX hZ l hl W (hg.old hS A1 zO zJ)) (v:=.agg (dg df)) ?_;refine B 4 ?_;refine aS (.inl rfl) results12 aL A1 zH ?_;rw[gJ];rfl
end
structure Fa where
 lnk:Nat->Int
 com:Nat->Int
 by_:Int
 n:Int
 sr:Int
 ss:Int
def vl (f:Fa):Array Value:=(th f.lnk (th f.com [ab f.by_,ab f.n,ab f.sr,ab f.ss])).toArray
def fV (f:Fa):List V:=[.text (dT f.lnk),.text (dT f.com),.int f.by_,.int f.n]
theorem J7(f:Fa)(h1:ig f.by_)(h2:ig f.n):V.fineL (fV f):=by
 grind [fV,V.fineL,V.fine,ncl]
def NO (Z:Fx) (f:Fa):Nat->Int:=Z.tg (⟨#[102,97,99,116,111,114,32,115,105,103,110]⟩:ByteArray) (V.list (fV f)).enc
theorem nDl(hZ:FxOk Z)(f:Fa)(h1:ig f.by_)(h2:ig f.n)(w:World)(hg:Glb w):Calls prog 27 #[.agg (vl f)] w (db w (λb:Nat=>.slice (aH b) 32 32) (λb w1=>w.heap.size<=b/\w1.heap[b]? =some (oC (dg (NO Z f)) 34))):=by
 have J:=hg.lt;obtain⟨df,gJ⟩:∃df,NO Z f=df:=⟨_,rfl⟩;have jd:=Yu (fV f) rfl (J7 f h1 h2) (by simp[fV]);refine eN func27 ntmps27 ?_;refine aU 2 ?_;intro b1 w1 aW bJ eO dC fg;refine B 4 ?_;refine nE (E':=[(0,_),(1,_),(2,_)]) zR ?_;refine dN 15 [12,14] [[],[]] (λcv L' H'=>match cv with| [none,none]=>L'=[w1,w]/\H'=[]| [none,some NS]=>∃(b3:Nat),NS=ptr b3 0/\L'=[w1,w]/\H'=[(b3,oC zK 34)]/\w1.heap.size<=b3/\w.heap.size<=b3| [some v12,none]=>∃(gg:Nat),v12= .slice (aH gg) 4 4/\L'=[w1,w]/\H'=[(gg,Co (fV f) [] 139)]/\w1.heap.size<=gg/\w.heap.size<=gg| [some v12,some NS]=>∃(gg:Nat) (b3:Nat),v12= .slice (aH gg) 4 4/\NS=ptr b3 0/\L'=[w1,w]/\H'=[(gg,Co (fV f) [] 139),(b3,oC zK 34)]/\w1.heap.size<=gg/\w.heap.size<=gg/\w1.heap.size<=b3/\w.heap.size<=b3|_=>False) ⟨rfl,rfl⟩ (Aa 1 (k:=by exact ph zcm (ph (λcv L' H' _ _ hP=>X.cv call68 rfl (λW hS _=>n5e _ W)) (Aa 1 (k:=by exact ph zcm (ph (λcv L' H' _ _ hP=>X.cv call68 rfl (λW hS _=>n5e _ W)) (Aa 1 (k:=by exact ph zcm (ph (λcv L' H' _ _ hP=>X.cv call69 rfl (λW hS _=>nW _ W)) (Aa 1 (k:=by exact ph zcm (ph (λcv L' H' _ _ hP=>X.cv call69 rfl (λW hS _=>nW _ W)) (Aa 1 (k:=by exact ph (λcv L' H' hl hd hP=>by obtain⟨vW,Bq,rfl⟩:=kY hl;(rcases vW with _|v12<;>rcases Bq with _|NS<;>try exact False.elim hP);exact(absurd (show false=true from hd) zF);exact(absurd (show false=true from hd) zF);(obtain⟨gg,rfl,rfl,rfl,pL,Br⟩:=hP;exact ne call48 rfl rfl (λW hS _=>zYQ) (λ_=>rfl));(obtain⟨gg,b3,rfl,rfl,rfl,rfl,pL,Br,cP,Yy⟩:=hP;exact ne call48 rfl rfl (λW hS _=>zYQ) (λ_=>rfl))) zTq)))))))))))))) (sp:=[_,some (.agg (dg f.lnk)),_,_,some (.agg (dg f.com)),_,_,some (ab f.by_),_,_,some (ab f.n),_,_,some (.agg (dg df)),_]) ?_ ?_
 ·refine nc rfl rfl ?_ ?_
  ·intro cv L' H' hl hr hP F Q' hk;obtain⟨vW,Bq,rfl⟩:=kY hl;rcases vW with _|v12<;>rcases Bq with _|NS
   ·obtain⟨rfl,rfl⟩:=hP;refine Ac ?_;intro gg ha ho;exact OJ.done (hk _ _ _ ⟨gg,rfl,rfl,rfl,ha.1,ha.2.1⟩)
   ·obtain⟨b3,rfl,rfl,rfl,cP,Yy⟩:=hP;refine Ac ?_;intro gg ha ho;exact OJ.done (hk _ _ _ ⟨gg,b3,rfl,rfl,rfl,rfl,ha.1,ha.2.1,cP,Yy⟩)
   ·exact fN
   exact fN
  refine nc rfl rfl ?_ ?_
  ·intro cv L' H' hl hr hP F Q' hk;obtain⟨vW,Bq,rfl⟩:=kY hl;rcases vW with _|v12<;>rcases Bq with _|NS
   ·obtain⟨rfl,rfl⟩:=hP;refine B 1 ?_;intro b3 ha ho;exact OJ.done (hk _ _ _ ⟨b3,rfl,rfl,rfl,ha.1,ha.2.1⟩)
   ·exact fN
   ·obtain⟨gg,rfl,rfl,rfl,pL,Br⟩:=hP;refine B 1 ?_;intro b3 ha ho;exact OJ.done (nHo (hk _ _ _ ⟨gg,b3,rfl,rfl,rfl,rfl,pL,Br,ha.1,ha.2.1⟩))
   exact fN
  exact nn
 intro cv L' H' hl hr hP;obtain⟨vW,Bq,rfl⟩:=kY hl;rcases vW with _|v12<;>rcases Bq with _|NS
 ·exact fN
 ·exact fN
 ·exact fN
 obtain⟨gg,b3,rfl,rfl,rfl,rfl,pL,Br,cP,Yy⟩:=hP;refine Yx ?_;exact bH (.inl rfl) results27 aL (λW hS=>⟨b3,rfl,hS.base A1 zH,by omega,by rw[gJ];exact hS.own (b3,_) A1⟩)
theorem wZ:J8 prog 2 34 (pQ 32 [.i]):=J8.array underlying34 sizeOf5 rfl (Bs.int underlying5 isAgg5)
theorem nT:prog.eqGuardType prog.depth 34=false:=by kernel_rfl
def gV (f g:Nat->Int):Bool:=tz (dg f).toList (dg g).toList
def np (l:Lk):Bool:=decide (0<=l.fo)&&decide (l.fo<16)&&decide (-1<=l.by_)&&decide (l.by_<512)&&decide (dr l.pub)&&decide (dr l.ver)&&decide (1<=l.exp)&&decide (l.exp<=1099511627776)&&(decide (l.by_= -1)||gV l.par (λ_=>0))
theorem Yz(a:Int):decide ((if dr a then(0:Int)else 40)=0)=decide (dr a):=by simp
theorem nR(l:Lk)(w:World):Calls prog 20 #[.agg (lkC l)] w (ar w (.bool (np l))):=by
 refine eN func20 ntmps20 ?_;refine aU 2 ?_;intro b1 w1 aW bJ eO dC fg;refine B 10 ?_;refine nf (t:=7) rfl (λai=>?_) (λai=>?_)
 ·replace ai:=ya ai;refine B 6 ?_;refine nf (t:=13) rfl (λax=>?_) (λax=>?_)
  ·replace ax:=ya ax;refine B 6 ?_;refine nf (t:=19) rfl (λbY=>?_) (λbY=>?_)
   ·replace bY:=ya bY;refine B 6 ?_;refine nf (t:=25) rfl (λJ=>?_) (λJ=>?_)
    ·replace J:=ya J;refine B 3 ?_;refine cl call43 rfl (λW hS=>nQ _ W) ?_;refine zXg ?_;refine B 2 ?_;refine nf (t:=32) rfl (λeB=>?_) (λeB=>?_)
     ·replace eB:=ya eB;refine B 3 ?_;refine cl call43 rfl (λW hS=>nQ _ W) ?_;refine zWg ?_;refine B 2 ?_;refine nf (t:=39) rfl (λgq=>?_) (λgq=>?_)
      ·replace gq:=ya gq;refine B 6 ?_;refine nf (t:=45) rfl (λfw=>?_) (λfw=>?_)
       ·replace fw:=ya fw;refine B 6 ?_;refine nf (t:=51) rfl (λja=>?_) (λja=>?_)
        ·replace ja:=ya ja;refine B 5 ?_;refine nf (t:=56) rfl (λjz=>?_) (λjz=>?_)
         ·replace jz:=ya jz;refine B 11 ?_;exact Iw
         replace jz:=ya jz;refine B 4 ?_;refine z7g ?_;refine B 6 ?_;exact Iw
        replace ja:=ya ja;refine B 16 ?_;exact Iw
       replace fw:=ya fw;refine B 22 ?_;exact Iw
      replace gq:=ya gq;refine B 28 ?_;exact Iw
     replace eB:=ya eB;refine B 35 ?_;exact Iw
    replace J:=ya J;refine B 42 ?_;exact Iw
   replace bY:=ya bY;refine B 48 ?_;exact Iw
  replace ax:=ya ax;refine B 54 ?_;exact Iw
 replace ai:=ya ai;refine B 60 ?_;exact Iw
theorem QC(l:Lk)(w:World):Calls prog 16 #[.agg (lkC l)] w (ar w (.bool (np l))):=by
 refine eN func16 ntmps16 ?_;refine aU 2 ?_;intro b1 w1 aW bJ eO dC fg;refine B 9 ?_;refine nf (t:=6) rfl (λai=>?_) (λai=>?_)
 ·replace ai:=ya ai;refine B 5 ?_;refine nf (t:=11) rfl (λax=>?_) (λax=>?_)
  ·replace ax:=ya ax;refine B 5 ?_;refine nf (t:=16) rfl (λbY=>?_) (λbY=>?_)
   ·replace bY:=ya bY;refine B 5 ?_;refine nf (t:=21) rfl (λJ=>?_) (λJ=>?_)
    ·replace J:=ya J;refine B 2 ?_;refine cl call35 rfl (λW hS=>nL _ W) ?_;refine zXg ?_;refine B 2 ?_;refine nf (t:=27) rfl (λeB=>?_) (λeB=>?_)
     ·replace eB:=ya eB;refine B 2 ?_;refine cl call35 rfl (λW hS=>nL _ W) ?_;refine zWg ?_;refine B 2 ?_;refine nf (t:=33) rfl (λgq=>?_) (λgq=>?_)
      ·replace gq:=ya gq;refine B 5 ?_;refine nf (t:=38) rfl (λfw=>?_) (λfw=>?_)
       ·replace fw:=ya fw;refine B 5 ?_;refine nf (t:=43) rfl (λja=>?_) (λja=>?_)
        ·replace ja:=ya ja;refine B 4 ?_;refine nf (t:=47) rfl (λjz=>?_) (λjz=>?_)
         ·replace jz:=ya jz;refine B 10 ?_;exact Ix
         replace jz:=ya jz;refine B 3 ?_;refine z7g ?_;refine B 6 ?_;exact Ix
        replace ja:=ya ja;refine B 14 ?_;exact Ix
       replace fw:=ya fw;refine B 19 ?_;exact Ix
      replace gq:=ya gq;refine B 24 ?_;exact Ix
     replace eB:=ya eB;refine B 30 ?_;exact Ix
    replace J:=ya J;refine B 36 ?_;exact Ix
   replace bY:=ya bY;refine B 41 ?_;exact Ix
  replace ax:=ya ax;refine B 46 ?_;exact Ix
 replace ai:=ya ai;refine B 51 ?_;exact Ix
theorem DY(hZ:FxOk Z)(x:Int)(f:Nat->Int)(hf:gY f)(b t:Nat)(fr:Nat×Nat)(w:World)(h:w.heap[b]? =some (.cells (dg f) t fr))(hg:Glb w):Calls prog 21 #[ab x,.slice (aH b) 32 32] w (ar w (vR Z x (dy f))):=by
 grind [nHr,nM,cD.dg]
theorem nfm(hZ:FxOk Z)(x:Int)(hx:lJ x)(f:Nat->Int)(hf:gY f)(r s:Int)(hr:oL Z x (dy f)=r)(hs:sj Z x (dy f)=s)(b t:Nat)(fr:Nat×Nat)(w:World)(h:w.heap[b]? =some (.cells (dg f) t fr))(hg:Glb w):Calls prog 21 #[ab x,.slice (aH b) 32 32] w (ar w (.tuple #[.agg #[ab r,ab s],ab 0])):=by
 have:=DY hZ x f hf b t fr w h hg
 grind [vR]
theorem nNs(hZ:FxOk Z)(x:Int)(hx:¬lJ x)(f:Nat->Int)(hf:gY f)(b t:Nat)(fr:Nat×Nat)(w:World)(h:w.heap[b]? =some (.cells (dg f) t fr))(hg:Glb w):Calls prog 21 #[ab x,.slice (aH b) 32 32] w (ar w (.tuple #[.agg #[ab 0,ab 0],ab 50])):=by
 have:=DY hZ x f hf b t fr w h hg
 grind [vR]
theorem nMq(hZ:FxOk Z)(x:Int)(hx:lJ x)(w:World):Calls prog 11 #[ab x] w (ar w (jZ ((Z.ge 4 x).1,0))):=by
 have h:=nSi x w
 grind [JY]
theorem nfl(x:Int)(hx:¬lJ x)(w:World):Calls prog 11 #[ab x] w (ar w (jZ (0,50))):=by
 have h:=nSi x w
 grind [C9]
theorem NU(hZ:FxOk Z)(l:Lk):gY (eC Z l):=hZ.byt _ _
theorem QD(hZ:FxOk Z)(f:Fa):gY (NO Z f):=hZ.byt _ _
def vX:Lk:=⟨0,0,0,0,0,false,λ_=>0,0,0⟩
def Cp (Z:Fx) (l:Lk) (x:Int):Value:=
 if np l then if lJ x then .tuple #[.agg (lkC {l with sr:=oL Z x (dy (eC Z l)),ss:=sj Z x (dy (eC Z l))}),ab 0]else .tuple #[.agg (lkC vX),ab 50]else .tuple #[.agg (lkC vX),ab 400]
theorem n1e(hZ:FxOk Z)(l:Lk)(hl:dm l)(h1:l.sr=0)(h2:l.ss=0)(x:Int)(w:World)(hg:Glb w):Calls prog 8 #[ab l.fo,ab l.by_,ab l.pub,ab l.ver,ab l.exp,.bool l.resh,.agg (dg l.par),ab x] w (ar w (Cp Z l x)):=by
 have gP:=hg.lt;have hB:=NU hZ l;obtain⟨J,DZ⟩:∃J,eC Z l=J:=⟨_,rfl⟩;rw[DZ]at hB;obtain⟨r,hr⟩:∃r,oL Z x (dy J)=r:=⟨_,rfl⟩;obtain⟨sg,og⟩:∃sg,sj Z x (dy J)=sg:=⟨_,rfl⟩;refine eN func8 ntmps8 ?_;refine aU 2 ?_;intro US cI c4 cz cy QB c0;refine bD 1 ?_;intro gg pL cO;refine B 12 ?_;refine rq (.agg (lkC l)) (jE underlying38 zeroValue38 (ec.c sizeOf3 (ec.c sizeOf3 (ec.c sizeOf3 (ec.c sizeOf3 (ec.c sizeOf3 (ec.c sizeOf4 (ec.c sizeOf34 (ec.c sizeOf36 (ec.n))))))))) rfl rfl) (by unfold lkC;rw[h1,h2];rfl) ?_;refine bX (.agg (lkC l)) ?_;refine bD 1 ?_;intro UT xQ JE;refine B 7 ?_;refine cl call20 rfl (λW hS=>nR l W) ?_;refine av 3 ?_ ?_
 ·intro ai;refine B 9 ?_;refine aS (.inl rfl) results8 aL A1 zH ?_;unfold Cp;rw[if_neg z2];rfl
 intro ai;refine B 6 ?_;refine ny (v:=λb:Nat=>.slice (aH b) 32 32) (Φ:=λ(W:World) (b:Nat) (v1:World)=>W.heap.size<=b/\v1.heap[b]? =some (oC (dg J) 34)) call22 rfl rfl rfl (λW hS=>by rw[<-DZ];exact nNc hZ l hl W (hg.old hS A1 zO zJ)) ?_;rintro bR QE cx YA aD ⟨cq,QF⟩;have b0:=(bO.1 QF).1;have YB:=YA.sizes;replace YB:=yb YB;have cQ:=aD.size;have aR:=YA.under;simp only[nD,eI,gB]at aR;by_cases hK:lJ x
 ·refine cl call21 rfl (λW hS=>nfm hZ x hK J hB r sg hr og QE _ _ W (hS.old A0 QF zL zD) (hg.old hS A2 zO zJ)) ?_;refine bD 4 ?_;intro bu bw bg;refine B 8 ?_;refine PD ?_;refine lG (i:=1) rfl sizeOf36 rfl rfl rfl rfl (fy rfl) rfl ?_;refine B 11 ?_;refine aS (.inl rfl) results8 aL A2 zH ?_;unfold Cp;rw[if_pos z2,if_pos hK,DZ,hr,og];rfl
 refine cl call21 rfl (λW hS=>nNs hZ x hK J hB QE _ _ W (hS.old A0 QF zL zD) (hg.old hS A2 zO zJ)) ?_;refine bD 4 ?_;intro bu bw bg;refine B 8 ?_;refine Bf ?_;refine aS (.inl rfl) results8 aL A2 zH ?_;unfold Cp;rw[if_pos z2,if_neg hK];rfl
structure Ek where
 com:Nat->Int
 sec:Nat->Int
def ekC (k:Ek):Array Value:=(th k.com (th k.sec [])).toArray
def QG:Fa:=⟨λ_=>0,λ_=>0,0,0,0,0⟩
def Bt (Z:Fx) (k:Ek) (sec:Int):Int:=(mz sec (rZ (NM Z k.sec (⟨#[108,105,110,107]⟩:ByteArray))).1).1
def xX (Z:Fx) (l:Lk) (k:Ek) (by_ sec:Int):Fa:=⟨qu Z l,k.com,by_,Bt Z k sec,0,0⟩
def sq (Z:Fx) (l:Lk) (k:Ek) (by_ x sec:Int):Value:=
 if np l=true/\ -1<=by_/\by_<512 then
  if lJ x then
   if lJ sec then
    if(Z.ge 4 sec).1=l.pub then .tuple #[.agg (vl {xX Z l k by_ sec with sr:=oL Z x (dy (NO Z (xX Z l k by_ sec))),ss:=sj Z x (dy (NO Z (xX Z l k by_ sec)))}),ab 0]
    else .tuple #[.agg (vl QG),ab 400]
   else .tuple #[.agg (vl QG),ab 50]
  else .tuple #[.agg (vl QG),ab 50]
 else .tuple #[.agg (vl QG),ab 400]
theorem D0(hZ:FxOk Z)(f:Nat->Int)(s:ByteArray):lJ (NM Z f s):=by
 have:=hZ.bd (⟨#[115,99,97,108,97,114]⟩:ByteArray) (dy (Bn Z f s))
 grind [NM]
theorem J9(Z:Fx)(k:Ek)(sec:Int):ig (Bt Z k sec):=by
 have:=nNp sec (rZ (NM Z k.sec (⟨#[108,105,110,107]⟩:ByteArray))).1
 grind [Bt]
theorem n9h(hZ:FxOk Z)(l:Lk)(hl:dm l)(k:Ek)(dd:gY k.com)(bw:gY k.sec)(b x sec:Int)(w:World)(aW:ig b)(hg:Glb w):Calls prog 10 #[.agg (lkC l),.agg (ekC k),ab b,ab x,ab sec] w (ar w (sq Z l k b x sec)):=by
 have gP:=hg.lt;have hbI:=aW;clear aW;obtain⟨J,hid⟩:∃J,qu Z l=J:=⟨_,rfl⟩;obtain⟨YC,aq⟩:∃YC,NM Z k.sec (⟨#[108,105,110,107]⟩:ByteArray)=YC:=⟨_,rfl⟩;have YD:=D0 hZ k.sec (⟨#[108,105,110,107]⟩:ByteArray);rw[aq]at YD;obtain⟨nn,a8⟩:∃nn,(mz sec (rZ YC).1).1=nn:=⟨_,rfl⟩;have qq:=J9 Z k sec;have hfn:Bt Z k sec=nn:=by unfold Bt;rw[aq];exact a8
 rw[hfn]at qq;have bx:xX Z l k b sec=⟨J,k.com,b,nn,0,0⟩:=by unfold xX;rw[hid,hfn]
 have hB:=QD hZ (⟨J,k.com,b,nn,0,0⟩:Fa);obtain⟨mf,DZ⟩:∃mf,NO Z (⟨J,k.com,b,nn,0,0⟩:Fa)=mf:=⟨_,rfl⟩;rw[DZ]at hB;obtain⟨r,hr⟩:∃r,oL Z x (dy mf)=r:=⟨_,rfl⟩;obtain⟨sg,og⟩:∃sg,sj Z x (dy mf)=sg:=⟨_,rfl⟩;refine eN func10 ntmps10 ?_;refine aU 2 ?_;intro b5 w5 gQ je pq fK gf;refine yX ?_;intro b6 w6 dt cI c0 jb od;refine bD 1 ?_;intro iK gC iS;refine aV 7 (.agg (lkC l)) ?_;refine cl call20 rfl (λW hS=>nR l W) ?_;refine B 2 ?_;refine nf (t:=20) rfl (λai=>?_) (λai=>?_)
 ·replace ai:=ya ai;refine B 19 ?_;exact zRk
 replace ai:=ya ai;refine B 4 ?_;refine nf (t:=24) rfl (λax=>?_) (λax=>?_)
 ·replace ax:=ya ax;refine B 15 ?_;exact zRk
 replace ax:=ya ax;refine av 5 ?_ ?_
 ·intro bY;refine B 9 ?_;exact zRk
 intro bY;refine B 6 ?_;by_cases QH:lJ x
 ·refine cl call11 rfl (λW hS=>nMq hZ x QH W) ?_;refine B 10 ?_;refine Je ?_;by_cases D1:lJ sec
  ·refine cl call11 rfl (λW hS=>nMq hZ sec D1 W) ?_;refine aV 11 aO ?_;refine av 14 ?_ ?_
   ·intro ez;refine B 9 ?_;refine zuf ?_;unfold sq;rw[if_pos (show np l=true/\ -1<=b/\b<512 from⟨by simp_all,by omega,by omega⟩),if_pos QH,if_pos D1,if_neg ew];rfl
   intro ez;refine B 3 ?_;refine eS 7 6 [] (pb:=by exact zU 1 (k:=by exact dh (ne call12 rfl rfl (λW hS _=>by rw[<-hid];exact npj hZ l hl W (hg.old hS A2 zO zJ)) (λ_=>rfl)) zT)) (sp:=[some (.agg (lkC l)),some (.agg (dg J)),_,some (.agg (dg k.com)),_,some (.agg (vl ⟨J,k.com,b,0,0,0⟩)),_]) (h:=?_);intro _ _ hk;refine B 1 ?_;intro gl ha ho;have jl:w6.heap.size<=gl:=ha.1;have c6:w5.heap.size<=gl:=ha.2.1;have c5:w.heap.size<=gl:=ha.2.2.1;have Bh:iK≠gl:=ho.1;refine zE ?_;refine B 8 ?_;refine cl call26 rfl (λW hS=>by rw[<-aq];exact nNm hZ k.sec bw W (hg.old hS A2 zO zJ)) (v:=ab YC) ?_;refine B 1 ?_;refine cl call25 rfl (λW hS=>by have:=n5n YC sec YD D1 W;rw[a8]at this;exact this) (v:=.tuple #[ab nn,ab 0]) ?_;refine B 4 ?_;refine zzf ?_;refine OJ.reH (H':=[(gl,oC (vl ⟨J,k.com,b,nn,0,0⟩) 54),(iK,oC (vl QG) 54)]) rfl ?_;refine B 6 ?_;refine PD ?_;refine ny (v:=λb:Nat=>.slice (aH b) 32 32) (Φ:=λ(W:World) (b:Nat) (v1:World)=>W.heap.size<=b/\v1.heap[b]? =some (oC (dg mf) 34)) call27 rfl rfl rfl (λW hS=>by rw[<-DZ];exact nDl hZ (⟨J,k.com,b,nn,0,0⟩:Fa) hbI qq W (hg.old hS A2 zO zJ)) ?_;rintro ea bu cz YE bz ⟨c4,YF⟩;have cO:=(bO.1 YF).1;have YG:=YE.sizes;replace YG:=yb YG;have dK:=bz.size;have bR:=YE.under
   simp only[nD,eI,gB]at bR;refine cl call21 rfl (λW hS=>nfm hZ x QH mf hB r sg hr og bu _ _ W (hS.old A0 YF zL zD) (hg.old hS A3 zO zJ)) ?_;refine B 4 ?_;refine lG (i:=0) rfl sizeOf36 rfl rfl rfl rfl (fy rfl) rfl ?_;refine aV 6 aO ?_;refine B 13 ?_;refine aS (.inl rfl) results10 aL A3 zH ?_;unfold sq;rw[if_pos (show np l=true/\ -1<=b/\b<512 from⟨by simp_all,by omega,by omega⟩),if_pos QH,if_pos D1,if_pos z2,bx,DZ,hr,og];rfl
  refine cl call11 rfl (λW hS=>nfl sec D1 W) ?_;refine B 11 ?_;refine Bf ?_;refine zuf ?_;unfold sq;rw[if_pos (show np l=true/\ -1<=b/\b<512 from⟨by simp_all,by omega,by omega⟩),if_pos QH,if_neg D1];rfl
 refine cl call11 rfl (λW hS=>nfl x QH W) ?_;refine B 10 ?_;refine Bf ?_;refine zuf ?_;unfold sq;rw[if_pos (show np l=true/\ -1<=b/\b<512 from⟨by simp_all,by omega,by omega⟩),if_neg QH];rfl

def NV:Array Value:=#[bS,bS,bS,bS,bS,bS,bS,bS,bS]
def YH:Array Value:=#[bS,bS,bS,bS,bS,bS,bS,bS]
section
variable {C:Cx} {fn:Func} {R:Ending->World->Prop} {E:Env} {G:Gh} {L:List World} {H:ae}
theorem D2{Dk t T b ct:Nat}{cs:Array Value}{fr:Nat×Nat}{v:Value}{e:Exit}(he:e= .ret\/e= .normal)(hr:fn.results=#[.cell t T])(hA:fp C.P T false)(hx:look E t=some (ptr b 0))(hm:(Dk,.deferred (some []))∈H)(hb:(b,.cells cs ct fr)∈H)(kq:b≠Dk)(hv:cs[0]? =some v)(h:∀W H',St G L H' W->H'.map (·.1)=H.map (·.1)->R (.returned v) W):PJ C (bodyPostM (FW none) 0 C.P fn R) e E [jo Dk] G L H:=
 Bu he hm λa W H' hF hS cB di=>by
  obtain⟨i,hi⟩:=iB.1 (cB _ hb kq);exact⟨v,(RS.w (C:=C) hi hA hx hv RS.n).res hr hF hS,h W H' hS di⟩
end
theorem nFi(J:Value)(w:World):Calls prog 102 #[bS,J] w (ar w (ab (-1))):=by
 refine cH 14 func102 ntmps102 ?_;refine CJ.lp (α:=Nat) [7,8] (λj=>[]) (λj=>[]) (λj=>True) (λj=>0) 0 True.intro ?_;rintro j _;refine B 2 ?_;refine XO ?_;refine ao results102 rfl A0 ?_;rfl
theorem n4m(J:Array Value)(kr:J.size=9)(n:Int)(w:World):Calls prog 53 #[.agg J,ab n] w (db w (λb:Nat×Nat=>.func (.func 101) #[] #[ptr b.1 0,ptr b.2 0]) (λb w1=>w.heap.size<=b.1/\w.heap.size<=b.2/\w1.heap[b.1]? =some (oC J 66)/\w1.heap[b.2]? =some (oC #[ab n] 3))):=by
 refine eN func53 ntmps53 ?_;refine aU 2 ?_;intro b2 w2 bV bj dz cL cR;refine yX ?_;intro b3 w3 bQ aZ dK cP dt;refine B 10 ?_;refine pe (b2,b3) results53 rfl A2 rfl ?_;exact λW hS=>⟨cL.1,cP.2.1,hS.old A1 bV bj trivial,hS.old A0 bQ aZ trivial⟩
theorem nFn(b c:Nat)(W:World)(aW:W.heap[b]? =some (oC NV 66)):Xl prog 101 [ptr b 0,ptr c 0] (λ_:Unit=>[aK]) ([]) (λ_=>False) (λk=>k=b) W:=by
 intro l M I X0 hM hI J hy h0;have bJ:¬M b:=λh=>(hM b h).2.2 rfl;refine nP (PM hM (hI [])) [] (vs:=[_,_,_]) func101 rfl ntmps101 rfl (Nv hM (hI []) h0) ?_;refine aV 4 bS ?_;refine B 1 ?_;refine cl call102 rfl (λW hS=>nFi _ W) ?_;refine B 7 ?_;refine NF ?_;exact C4 (.inl rfl) results101 A0 (λA hA=>.inl hA)
theorem nWr(l:Lk)(w:World):Calls prog 32 #[.agg NV,.agg (lkC l)] w (ar w (aO)):=by
 refine Im Gh.no [] (vs:=[_,_]) func32 rfl ntmps32 rfl (AX w) ?_;refine aU 2 ?_;intro b2 w2 bV bj dz cL cR;refine yX ?_;intro b3 w3 bQ aZ dK cP dt;refine bD 1 ?_;intro b4 dL dP;refine B 9 ?_;refine ny (α:=Nat×Nat) (v:=λb:Nat×Nat=>.func (.func 101) #[] #[ptr b.1 0,ptr b.2 0]) (Φ:=λ(W:World) (b:Nat×Nat) (w1:World)=>W.heap.size<=b.1/\W.heap.size<=b.2/\w1.heap[b.1]? =some (oC NV 66)/\w1.heap[b.2]? =some (oC #[ab l.fo] 3)) call53 rfl rfl rfl (λW hS=>n4m NV rfl _ W) ?_;rintro Wd ⟨bd,be⟩ wd vf Xb ⟨PI,J,rY,aq⟩;simp only at PI J rY aq;have Xc:=vf.under;simp only[nD,eI,gB]at Xc;have Nn:=vf.sizes;replace Nn:=yb Nn;have bw:=Xb.size;refine B 3 ?_;refine CJ.range (f:=101) (cap:=[ptr bd 0,ptr be 0]) (α:=Unit) (enc:=(λ_:Unit=>[aK])) (xs:=[]) (MI:=λ_=>False) (RO:=λk=>k=bd) rfl call101 (λW W2 hS hB=>nFn bd be W2 (by rw[hB.block bd zsc];exact hS.old A0 rY zL zD)) (λ_ _ _ hk=>hk.elim) (λW hS k hk=>zYb) (λ_=>rfl) (λ_ Hc=>Hc=[(b4,oC #[aO] 4)]) (λ_ _=>False) rfl (by rintro pre Hc rfl;rfl) (λ_ _ hk=>hk.elim) zF ?_ ?_ ?_
 ·exact λpre x _ _ _ _ _ _ _ hp=>absurd hp.length_le zP
 ·rintro l Dk rec Hc fM jA rfl;replace fM:=yb fM;refine B 8 ?_;refine D2 (b:=b4) (.inl rfl) results32 isAgg4 rfl Cf (cs:=#[aO]) (ct:=4) (fr:=(0,0)) (by exact .head _) aa rfl (λW H' hS di=>⟨?_,?_⟩)
  ·exact congrArg Ending.returned rfl
  refine(hS.links w A3).below λk hk hx=>?_;rw[di]at hx;simp[Gh.no,book]at hx;omega
 exact λ_ _ _ _ _ _ _ hk=>hk.elim
section
variable (l:Lk)(hE:np l=false\/l.by_≠ -1)(w:World)
include hE
theorem nci:Calls prog 15 #[.agg NV,.agg (lkC l),ab 256] w (ar w (aO)):=by
 refine QI ?_;refine yV ?_;intro b3 w3 bQ aZ dK cP dt;refine yX ?_;intro b4 w4 gI iA J dL dP;refine aV 6 (.agg (lkC l)) ?_;refine cl call20 rfl (λW hS=>nR l W) ?_;refine av 3 ?_ ?_
 ·intro ai;refine B 7 ?_;refine ao results15 rfl A2 ?_;rfl
 intro ai;refine B 8 ?_;refine rq aK (aN rfl rfl) (by rw[decide_eq_false (hE.resolve_left z2)];rfl) ?_;refine aV 5 (.agg NV) ?_;refine bX (.agg (lkC l)) ?_;refine cl call32 rfl (λW hS=>nWr l W) ?_;refine B 5 ?_;refine ao results15 rfl A2 ?_;rfl
theorem n5l:Calls prog 6 #[.agg YH,bS,.agg (lkC l)] w (ar w (aO)):=by
 refine eN func6 ntmps6 ?_;refine aU 2 ?_;intro b3 w3 bQ aZ J cP dt;refine yX ?_;intro b5 w5 gQ je pq fK gf;refine aV 7 (.agg NV) ?_;refine B 1 ?_;refine z9f ?_;refine B 4 ?_;refine ao results6 rfl A2 ?_;rfl
theorem QJ:Calls prog 13 #[.agg YH,bS,.agg (lkC l)] w (ar w (bS)):=by
 refine eN func13 ntmps13 ?_;refine aU 2 ?_;intro b3 w3 bQ aZ dK cP dt;refine yX ?_;intro b5 w5 gQ je pq fK gf;refine bD 1 ?_;intro b6 jb J;refine zdi ?_;refine yW ?_;intro b7 ie lu;refine zdi ?_;refine z9f ?_;refine B 11 ?_;refine aS (.inl rfl) results13 aL A2 zH ?_;rfl
end
def aiu:Array Value:=(ab 0::ab 0::r6 []).toArray
theorem YI(l:Lk)(hE:np l=false\/l.by_≠ -1)(it:Array Value)(w:World):Calls prog 9 #[.agg YH,bS,.agg (lkC l),.agg it] w (ar w (.tuple #[.agg aiu,ab 400])):=by
 refine eN func9 ntmps9 ?_;refine aU 2 ?_;intro b4 w4 gI iA oA dL dP;refine yX ?_;intro b6 w6 aq J aR jb od;refine yX ?_;intro b7 w7 UO UP aD ie lu;refine bD 1 ?_;intro b8 lI r4;refine bD 1 ?_;intro b9 oF xJ;refine zdi ?_;refine yW ?_;intro iK gC iS;refine zdi ?_;refine z9f ?_;refine B 13 ?_;refine aS (.inl rfl) results9 aL A3 zH ?_;rfl
theorem YJ(hZ:FxOk Z)(k:Int):0<=(Z.ge 4 k).1/\(Z.ge 4 k).1<4611686018427377339:=by
 rw[<-hZ.ge];unfold gExp;split
 ·(split<;>simp_all[PK])
 simp
theorem Ka(a b:Int):pf (um a b).1:=by
 grind [um]
theorem Kb(hZ:FxOk Z)(x:Int)(m:List UInt8):ig (oL Z x m):=by
 have:=YJ hZ (It Z x m)
 grind [oL]
theorem Kc(Z:Fx)(x:Int)(m:List UInt8):ig (sj Z x m):=by
 have:=Ka (It Z x m) (mz (Bk Z (oL Z x m) (Z.ge 4 x).1 m) x).1
 grind [sj]
def sl (e:Int) (r s:Int):Lk:=⟨0,0,4,4,e,false,λ_=>0,r,s⟩
def U9:Lk:=⟨0,0,4,4,1,false,λi=>if i=0 then 1 else 0,0,0⟩
theorem Va(e r s:Int)(he:ig e)(hr:ig r)(hs:ig s):dm (sl e r s):=⟨show ig 0 by decide,show ig 0 by decide,show ig 4 by decide,show ig 4 by decide,he,λ_=>show(0:Int)<=0/\(0:Int)<256 by decide,hr,hs⟩
theorem QK:dm U9:=⟨by decide,by decide,by decide,by decide,by decide,λi=>by grind [U9],by decide,by decide⟩
theorem aiv:np (sl 0 0 0)=false:=by decide +kernel
theorem QL:np (sl 1 0 0)=true:=by decide +kernel
theorem sl1(r s:Int):np (sl 1 r s)=true:=QL
theorem aiw:np U9=false:=by decide +kernel
theorem YK:np vX=false:=by rfl
theorem aix:¬lJ 0:=by decide
theorem YL:lJ 1:=by decide
theorem aiy:lJ 2:=by decide
theorem ge1(hZ:FxOk Z):(Z.ge 4 1).1=4:=by rw[<-hZ.ge,Da YL];rfl
theorem ge2(hZ:FxOk Z):(Z.ge 4 2).1≠4:=by rw[<-hZ.ge];decide +kernel
def Iy:Ek:=⟨λ_=>0,λ_=>0⟩
theorem aiz(Z:Fx):Cp Z (sl 0 0 0) 1= .tuple #[.agg (lkC vX),ab 400]:=by grind [Cp,aiv]
theorem aiA(Z:Fx):Cp Z (sl 1 0 0) 0= .tuple #[.agg (lkC vX),ab 50]:=by simp_all[Cp,QL]
theorem aiB(Z:Fx):Cp Z U9 1= .tuple #[.agg (lkC vX),ab 400]:=by grind [Cp,aiw]
theorem aiC(hZ:FxOk Z):∃r s,ig r/\ig s/\Cp Z (sl 1 0 0) 1= .tuple #[.agg (lkC (sl 1 r s)),ab 0]:=by
 refine⟨_,_,Kb hZ 1 (dy (eC Z (sl 1 0 0))),Kc Z 1 (dy (eC Z (sl 1 0 0))),?_⟩;unfold Cp;rw[if_pos QL];rfl
theorem aiD(hZ:FxOk Z)(r s:Int):sq Z (sl 1 r s) Iy 0 1 2= .tuple #[.agg (vl QG),ab 400]:=by
 unfold sq;simp_all[sl1,YL,aiy,sl,ge2,np,lJ,Fx.ge,Lk.pub,vl]
theorem aiE(hZ:FxOk Z)(r s:Int):∃n J s2,sq Z (sl 1 r s) Iy 0 1 1= .tuple #[.agg (vl ⟨qu Z (sl 1 r s),λ_=>0,0,n,J,s2⟩),ab 0]:=by
 refine⟨Bt Z Iy 1,oL Z 1 (dy (NO Z (xX Z (sl 1 r s) Iy 0 1))),sj Z 1 (dy (NO Z (xX Z (sl 1 r s) Iy 0 1))),?_⟩;unfold sq;rw[if_pos ⟨sl1 r s,by decide,by decide⟩,if_pos (show(Z.ge 4 1).1=(sl 1 r s).pub from ge1 hZ)];rfl
theorem NW:gY Iy.com:=λ_=>show(0:Int)<=0/\(0:Int)<256 by decide
theorem NY:gY Iy.sec:=λ_=>show(0:Int)<=0/\(0:Int)<256 by decide
theorem D3(f:Nat->Int):gV f f=true:=nZm (ks:=pQ 32 [.i]) (ys:=(dg f).toList) rfl
def NZ:Array Value:=(ab 0::r6 (ab 0::ab 0::ab 0::ab 0::ab 0::ab 0::r6 [bS,ab 0,ab 0])).toArray
theorem nFk(hZ:FxOk Z)(w:World)(hg:Glb w):Calls prog 4 #[] w (ar w (aK)):=by
 have gP:=hg.lt;obtain⟨r,sg,hr,hs,a6⟩:=aiC hZ;obtain⟨Ad,hid⟩:∃f,qu Z (sl 1 r sg)=f:=⟨_,rfl⟩;obtain⟨fn,aR,aD,J⟩:=aiE hZ r sg;rw[hid]at J;refine enter (vs:=[]) func4 rfl ntmps4 rfl ?_;refine B 2 ?_;refine zm ?_;refine rr (.agg (dg (sl 0 0 0).par)) (uB underlying34 zeroValue34 sizeOf5 rfl rfl) ?_;refine cl call8 rfl (λW hS=>by have:=n1e hZ (sl 0 0 0) (Va 0 0 0 zF zF zF) rfl rfl 1 W (hg.old hS zP zO zJ);rw[aiz]at this;exact this) (v:=.tuple #[.agg (lkC vX),ab 400]) ?_;refine zzg ?_;refine yW ?_;intro b1 dC fg;refine zLf ?_;refine zm ?_;refine zOg ?_;refine cl call8 rfl (λW hS=>by have:=n1e hZ (sl 1 0 0) (Va 1 0 0 zF zF zF) rfl rfl 0 W (hg.old hS zP zO zJ);rw[aiA]at this;exact this) (v:=.tuple #[.agg (lkC vX),ab 50]) ?_;refine zzg ?_;refine yW ?_;intro b3 cP dt;refine zLf ?_;refine zm ?_;refine zOg ?_;refine cl call8 rfl (λW hS=>by have:=n1e hZ (sl 1 0 0) (Va 1 0 0 zF zF zF) rfl rfl 1 W (hg.old hS zP zO zJ);rw[a6]at this;exact this) (v:=.tuple #[.agg (lkC (sl 1 r sg)),ab 0]) ?_;refine zzg ?_;refine yW ?_;intro b5 fK gf;refine zLf ?_;refine zm ?_;refine rr (.agg (dg U9.par)) (uB underlying34 zeroValue34 sizeOf5 rfl rfl) ?_;refine cl call8 rfl (λW hS=>by have:=n1e hZ U9 QK rfl rfl 1 W (hg.old hS zP zO zJ);rw[aiB]at this;exact this) (v:=.tuple #[.agg (lkC vX),ab 400]) ?_
 refine zzg ?_;refine yW ?_;intro b7 ie lu;refine zLf ?_;refine zm ?_;refine rr (.agg YH) (jE underlying31 zeroValue31 (ec.c sizeOf22 (ec.c sizeOf23 (ec.c sizeOf24 (ec.c sizeOf25 (ec.c sizeOf26 (ec.c sizeOf27 (ec.c sizeOf28 (ec.c sizeOf29 (ec.n))))))))) rfl rfl) ?_;refine rr (.agg (lkC vX)) (jE underlying38 zeroValue38 (ec.c sizeOf3 (ec.c sizeOf3 (ec.c sizeOf3 (ec.c sizeOf3 (ec.c sizeOf3 (ec.c sizeOf4 (ec.c sizeOf34 (ec.c sizeOf36 (ec.n))))))))) rfl rfl) ?_;refine rr (.agg NZ) (jE underlying52 zeroValue52 (ec.c sizeOf3 (ec.c sizeOf34 (ec.c sizeOf3 (ec.c sizeOf3 (ec.c sizeOf3 (ec.c sizeOf3 (ec.c sizeOf47 (ec.c sizeOf50 (ec.c sizeOf36 (ec.n)))))))))) rfl rfl) ?_;refine cl call9 rfl (λW hS=>YI vX (.inl YK) NZ W) ?_;refine YM ?_;refine Bv zeroValue47 rfl rfl ?_;refine yW ?_;intro b9 oF xJ;refine fE (i:=0) rfl sizeOf47 rfl rfl rfl rfl rfl rfl ?_;refine zm ?_;refine rr (.agg (lkC (sl 1 r sg))) (eZ (i:=2) rfl isAgg38 sizeOf38 rfl rfl) ?_;refine zjg ?_;refine cl call10 rfl (λW hS=>by have:=n9h hZ (sl 1 r sg) (Va 1 r sg zF hr hs) Iy NW NY 0 1 2 W zF (hg.old hS zP zO zJ);rw[aiD hZ]at this;exact this) (v:=.tuple #[.agg (vl QG),ab 400]) ?_;refine YM ?_;refine Bv zeroValue54 rfl rfl ?_;refine yW ?_;intro jk lN vH;refine fE (i:=0) rfl sizeOf54 rfl rfl rfl rfl rfl rfl ?_;refine zm ?_
 refine rr (.agg (lkC (sl 1 r sg))) (eZ (i:=3) rfl isAgg38 sizeOf38 rfl rfl) ?_;refine zjg ?_;refine cl call10 rfl (λW hS=>by have:=n9h hZ (sl 1 r sg) (Va 1 r sg zF hr hs) Iy NW NY 0 1 1 W zF (hg.old hS zP zO zJ);rw[J]at this;exact this) (v:=.tuple #[.agg (vl ⟨Ad,λ_=>0,0,fn,aR,aD⟩),ab 0]) ?_;refine YM ?_;refine Bv zeroValue54 rfl rfl ?_;refine yW ?_;intro jO qK xP;refine fE (i:=0) rfl sizeOf54 rfl rfl rfl rfl rfl rfl ?_;refine zm ?_;refine cl call11 rfl (λW hS=>nfl 0 aix W) ?_;refine YM ?_;refine Nx ?_;refine Nx ?_;refine B 3 ?_;refine nE (E':=[(0,_),(1,_),(2,_),(3,_),(4,_),(5,_),(6,_),(7,_),(8,_),(9,_),(10,_),(11,_),(12,_),(13,_),(14,_),(16,_),(17,_),(18,_),(19,_),(20,_),(21,_),(22,_),(23,_),(24,_),(25,_),(26,_),(27,_),(28,_),(29,_),(30,_),(31,_),(32,_),(33,_),(34,_),(35,_),(36,_),(37,_),(38,_),(39,_),(40,_),(41,_),(42,_),(43,_),(44,_),(45,_),(46,_),(47,_),(48,_),(49,_),(50,_),(51,_),(52,_),(53,_),(54,_),(55,_),(56,_),(57,_),(58,_),(59,_)]) zR ?_;refine CJ.drwD 58 ((_)::(_)::(_)::(_)::(_)::(_)::(_)::(_)::(_)::(_)::(_)::(_)::(_)::(_)::(_)::(_)::(_)::(_)::(_)::(_)::(_)::(_)::(_)::(_)::(_)::(_)::(_)::(_)::(_)::(_)::(_)::(_)::(_)::(_)::(_)::(some (.agg (dg Ad)))::(_)::(_)::(_)::(_)::(_)::(_)::(_)::(_)::(_)::(_)::(_)::(_)::(_)::(_)::(_)::(_)::(_)::(_)::(_)::(_)::(_)::(_)::[]) (xc su (xc N0 (xc su (xc su (xc su (xc N0 (xc D4 (xc su (xc su (xc (by exact λkE=>X.v (RV.re (v':=aK) (aN rfl rfl) rfl)) (xc D4 (xc su (xc su (xc N0 (xc D4 (xc su (xc su (xc N0 (xc D4 (xc su (xc su (xc N0 (xc D4 (xc su (xc su (xc N0 (xc D4 (xc su (xc su (xc N0 (xc D4 (xc su (xc (by exact λkE=>X.v (du underlying54 rfl sizeOf34 rfl)) (xc (by exact λkE=>X.v (RV.re (v':=.agg (dg Ad)) (eh (i:=0) rfl isAgg34 sizeOf34 rfl (fy rfl)) (rfl))) (xc zUb (xc (by exact λkE=>ne call12 rfl rfl (λW hS _=>by rw[<-hid];exact npj hZ (sl 1 r sg) (Va 1 r sg zF hr hs) W (hg.old hS zP zO zJ)) (λ_=>rfl)) (xc (by exact λkE=>X.v (RV.re (v':=aK) (lR wZ zF nT rfl rfl rfl) (congrArg Value.bool (D3 Ad)))) (xc D4 (xc su (xc (by exact λkE=>X.v (du underlying38 rfl sizeOf3 rfl)) (xc (by exact λkE=>X.v (aX (i:=4) rfl isAgg3 rfl rfl)) (xc N0 (xc D4 (xc su (xc zsb (xc zUb (xc (by exact λkE=>X.cv call6 rfl (λW hS _=>n5l (sl 1 r sg) (.inr (show(0:Int)≠ -1 by decide)) W)) (xc (zYBm) (xc D4 (xc su (xc zsb (xc (by exact λkE=>X.v (RV.re (v':=.agg (lkC vX)) (jE underlying38 zeroValue38 (ec.c sizeOf3 (ec.c sizeOf3 (ec.c sizeOf3 (ec.c sizeOf3 (ec.c sizeOf3 (ec.c sizeOf4 (ec.c sizeOf34 (ec.c sizeOf36 (ec.n))))))))) rfl rfl) (rfl))) (xc (by exact λkE=>X.cv call6 rfl (λW hS _=>n5l vX (.inl YK) W)) (xc (zYBm) (xc D4 (xc su (xc zsb (xc zUb (pn))))))))))))))))))))))))))))))))))))))))))))))))))))))))))) (λkE=>?_)
 refine cl call13 rfl (λW hS=>QJ (sl 1 r sg) (.inr (show(0:Int)≠ -1 by decide)) W) ?_;refine rx (lQ underlying62 rfl) ?_;refine rr aK (iU rfl rfl) ?_;refine rx (Ae rfl rfl) ?_;refine Nx ?_;refine B 3 ?_;refine aS (.inl rfl) results4 (RS.t rfl (RS.n)) A0 zH ?_;rfl

def sw (a b:Int):Int×Int:=if dr a/\dr b then(a*b%4611686018427377339,0)else(0,40)
theorem nYc{a b:Int}(h:¬(dr a/\dr b)):sw a b=(0,40):=by grind [sw]
theorem naf{a b:Int}(ha:dr a)(hb:dr b):sw a b=(a*b%4611686018427377339,0):=by grind [sw]
theorem nH{x:Int}(h:¬(if dr x then(0:Int)else 40)=0):¬dr x:=λg=>h (if_pos g)
theorem N1{x:Int}(h:(if dr x then(0:Int)else 40)=0):dr x:=by grind
def D5 (a b:Int) (j:Nat):Int:=match j with|0=>a|_=>b
theorem D6(a b:Int)(j:Nat)(h:j<2):(#[ab a,ab b]:Array Value)[j]? =some (ab (D5 a b j)):=by
 grind [D5]
theorem nIr(a b:Int)(w:World):Calls prog 115 #[ab a,ab b] w (ar w (jZ (sw a b))):=by
 refine cH 11 func115 ntmps115 ?_;refine rx (oH underlying255 zeroValue255 sizeOf3 rfl rfl rfl rfl) ?_;refine B 4 ?_;refine CJ.lp (α:=Nat) [0,1,11] (λj=>[(12,ab (j:Int))]) (λj=>[]) (λj=>j<=2/\(1<=j->dr a)/\(2<=j->dr b)) (λj=>2-j) 0 ⟨by omega,λh=>absurd h aa,λh=>absurd h aa⟩ ?_;rintro j ⟨hj,J,aq⟩;refine av 6 ?_ ?_
 ·intro ai;refine B 6 ?_;refine rq (ab (D5 a b j)) (uj underlying255 isAgg3 sizeOf3 rfl rfl aa aa (by rw[Bd];exact D6 a b _ aa)) (congrArg (λk=>ab (D5 a b k)) aa) ?_;refine B 6 ?_;obtain⟨e,he⟩:∃e,(if dr (D5 a b j)then(0:Int)else 40)=e:=⟨_,rfl⟩;refine zTe ?_;refine av 9 ?_ ?_
  ·intro ax;refine B 13 ?_;refine nK results115 rfl rfl A0 ?_ ?_
   ·exact congrArg ab (by rw[nYc (λg=>by match j,he with|0,he=>exact nH (x:=D5 a b 0) Bw g.1|j+1,he=>exact nH (x:=D5 a b (j+1)) Bw g.2)])
   exact congrArg ab (by rw[nYc (λg=>by match j,he with|0,he=>exact nH (x:=D5 a b 0) Bw g.1|j+1,he=>exact nH (x:=D5 a b (j+1)) Bw g.2),<-he];exact if_neg (nH Bw))
  intro ax;refine B 7 ?_;refine ag (j+1) ⟨by omega,λ_=>by match j,J,he with|0,_,he=>exact N1 (x:=D5 a b 0) Bw|j+1,J,_=>exact J aa,λh=>by match j,hj,he with|0,_,_=>exact absurd h aa|1,_,he=>exact N1 (x:=D5 a b 1) Bw|j+2,hj,_=>exact absurd ai aa⟩
 intro ai;refine B 6 ?_;have aD:j=2:=by omega
 have Iz:=J aa;have Db:=aq aa;have dC:=Iz.1;have cL:=Iz.2.1;have aW:=Db.1;have bV:=Db.2.1;have qo:=Int.emod_nonneg (a*b) (b:=4611686018427377339) zF;have bJ:=Int.emod_lt_of_pos (a*b) (b:=4611686018427377339) zF;refine B 5 ?_;refine cl call132 rfl (λW hS=>ncg a b aa aa aa aa W) ?_;refine B 6 ?_;refine nK results115 rfl rfl A0 ?_ ?_
 ·exact congrArg ab (by rw[naf Iz Db])
 exact congrArg ab (by rw[naf Iz Db])
theorem Ke(a b:Int)(w:World):Calls prog 88 #[ab a,ab b] w (ar w (jZ (sw a b))):=by
 obtain⟨e1,lS⟩:∃e,(if dr a then(0:Int)else 40)=e:=⟨_,rfl⟩;obtain⟨e2,pR⟩:∃e,(if dr b then(0:Int)else 40)=e:=⟨_,rfl⟩;refine cH 9 func88 ntmps88 ?_;refine cl call35 rfl (λW hS=>by rw[<-lS];exact nL a W) (v:=ab e1) ?_;refine av 10 ?_ ?_
 ·intro ai;refine B 2 ?_;refine cl call35 rfl (λW hS=>by rw[<-pR];exact nL b W) (v:=ab e2) ?_;refine av 10 ?_ ?_
  ·intro ax;refine B 9 ?_;exact zVi
  intro ax;exact z1k
 intro ai;refine av 9 ?_ ?_
 ·intro bY;refine B 9 ?_;exact zVi
 intro bY;exact z1k
def YN:List TK:=pQ 3 [.i]
theorem eqA187:J8 prog 2 187 YN:=J8.array underlying187 sizeOf42 rfl ((Bs.int underlying42 isAgg42).up zF:Bs prog 1 42 [.i])
theorem QM:prog.eqGuardType prog.depth 187=false:=by kernel_rfl
def jF (Z:Fx) (p:Int) (msg:List UInt8) (r s:Int):Bool:=decide (dr p/\dr r/\pf s/\(Z.ge 4 s).1=(sw r (Z.ge p (Bk Z r p msg)).1).1)
theorem nBi{x e:Int}(h:(if dr x then(0:Int)else 40)=e):e=0↔dr x:=⟨λg=>N1 (h.trans g),λg=>by grind⟩
theorem D7{x e:Int}(h:(if lH x then(1:Int)else 0)=e):e=0↔pf x:=by
 (intros;grind [ngi])
theorem nkd{p r s e1 e2 J:Int}{msg:List UInt8}(h1:e1=0↔dr p)(h2:e2=0↔dr r)(h3:J=0↔pf s)(h:¬(e1=0/\e2=0/\J=0)):aO= .bool (jF Z p msg r s):=by
 (simp[jF,dr,pf];omega)
theorem nof{p r s e1 e2 J e:Int}{msg:List UInt8}{m:Int×Int}(h1:e1=0↔dr p)(h2:e2=0↔dr r)(h3:J=0↔pf s)(h:e1=0/\e2=0/\J=0)(he:Bk Z r p msg=e)(hm:sw r (Z.ge p e).1=m):Value.bool (decide ((Z.ge 4 s).1=m.1))= .bool (jF Z p msg r s):=by
 (congr;grind)
theorem aiL(hZ:FxOk Z)(a k:Int)(w:World):Calls prog 64 #[ab a,ab k] w (ar w (jZ (Z.ge a k))):=by
 rw[<-hZ.ge];exact n3l a k w
theorem aiM(hZ:FxOk Z)(a k:Int)(w:World):Calls prog 86 #[ab a,ab k] w (ar w (jZ (Z.ge a k))):=by
 rw[<-hZ.ge];exact nNq a k w
theorem eq3(a b c:Int):(!tz [ab a,ab b,ab c] [ab 0,ab 0,ab 0])=decide (¬(a=0/\b=0/\c=0)):=by grind [tz,Vb]
section
variable (hZ:FxOk Z)(p r s:Int)(msg:List UInt8)(bm om cm:Nat)(pO:msg.length<=100000000000)(w:World)(jm:cD w bm om msg)
include hZ p r s msg bm om cm pO jm
theorem YO(hg:Glb w):Calls prog 76 #[ab p,.slice (some ⟨bm,om,none⟩) msg.length cm,.agg #[ab r,ab s]] w (ar w (.bool (jF Z p msg r s))):=by
 have JP:=jm.lt;obtain⟨e1,lS⟩:∃e,(if dr p then(0:Int)else 40)=e:=⟨_,rfl⟩;obtain⟨e2,pR⟩:∃e,(if dr r then(0:Int)else 40)=e:=⟨_,rfl⟩;obtain⟨e,he⟩:∃e,Bk Z r p msg=e:=⟨_,rfl⟩;obtain⟨m,hm⟩:∃m,sw r (Z.ge p e).1=m:=⟨_,rfl⟩;have Af:=nBi lS;have N2:=nBi pR;have gP:=hg.lt;obtain⟨e3,J⟩:∃e,(if lH s then(1:Int)else 0)=e:=⟨_,rfl⟩;have Vc:=D7 J;refine eN func76 ntmps76 ?_;refine aU 2 ?_;intro b5 w5 gQ je pq fK gf;refine B 4 ?_;refine eS 10 9 [] (pb:=by exact zU 1 (k:=by exact dh (ne call43 rfl rfl (λW hS _=>by rw[<-lS];exact nQ p W) (λ_=>rfl)) (zU 2 (k:=by exact dh (ne call43 rfl rfl (λW hS _=>by rw[<-pR];exact nQ r W) (λ_=>rfl)) (zU 2 (k:=by exact dh (ne call114 rfl rfl (λW hS _=>by rw[<-J];exact nUo s W) (λ_=>rfl)) (qv (RV.re (oH underlying187 zeroValue187 sizeOf42 rfl rfl rfl rfl) rfl) zT))))))) (sp:=[_,some (ab e1),_,some (ab r),some (ab e2),_,some (ab s),some (ab e3),some (.agg #[ab e1,ab e2,ab e3]),_]) (h:=?_);intro _ _ hk;refine B 1 ?_;intro b7 ha ho;have ie:(w5.heap.size<=b7/\w.heap.size<=b7):=⟨ha.1,ha.2.1⟩;refine zE ?_;refine B 8 ?_;refine rq (.bool (decide (¬(e1=0/\e2=0/\e3=0)))) (iV eqA187 zF QM rfl rfl rfl) (vb (eq3 e1 e2 e3)) ?_;refine av 2 ?_ ?_
 ·intro ai;refine B 7 ?_;refine aS (.inl rfl) results76 aL A1 zH ?_;exact nkd Af N2 Vc (by simpa using ai)
 intro ai;refine B 6 ?_;refine cl call45 rfl (λW hS=>NH hZ _ W) ?_;refine B 14 ?_;refine Jp ?_;refine yV ?_;intro a6 bu aR aD a8 bg bw;refine cl call44 rfl (λW hS=>nrk hZ r p e msg he pO bm om cm a6 _ _ _ W (jm.old hS A2 zL zD) (hS.old A0 aR aD zD) (hg.old hS A2 zO zJ)) ?_;refine cl call64 rfl (λW hS=>aiL hZ p e W) ?_;refine B 12 ?_;refine cl call115 rfl (λW hS=>by rw[<-hm];exact nIr _ _ W) (v:=jZ m) ?_;refine B 16 ?_;refine aS (.inl rfl) results76 aL A2 zH ?_;exact nof Af N2 Vc (by simpa using ai) he hm
theorem YP:Calls prog 42 #[ab p,.slice (some ⟨bm,om,none⟩) msg.length cm,.agg #[ab r,ab s]] w (ar w (.bool (jF Z p msg r s))):=by
 have JP:=jm.lt;obtain⟨e1,lS⟩:∃e,(if dr p then(0:Int)else 40)=e:=⟨_,rfl⟩;obtain⟨e2,pR⟩:∃e,(if dr r then(0:Int)else 40)=e:=⟨_,rfl⟩;obtain⟨e,he⟩:∃e,Bk Z r p msg=e:=⟨_,rfl⟩;obtain⟨m,hm⟩:∃m,sw r (Z.ge p e).1=m:=⟨_,rfl⟩;have Af:=nBi lS;have N2:=nBi pR;obtain⟨sb,J⟩:∃b,decide (pf s)=b:=⟨_,rfl⟩;have Vc:(if sb then(0:Int)else 1)=0↔pf s:=by
  subst J;by_cases g:pf s
  ·rw[decide_eq_true g];exact⟨λ_=>g,λ_=>rfl⟩
  rw[decide_eq_false g];exact⟨λh=>absurd h zF,λh=>absurd h g⟩
 refine eN func42 ntmps42 ?_;refine aU 2 ?_;intro b5 w5 gQ je pq fK gf;refine B 7 ?_;refine cl call35 rfl (λW hS=>by rw[<-lS];exact nL p W) (v:=ab e1) ?_;refine B 2 ?_;refine nf (t:=16) rfl (λai=>?_) (λai=>?_)
 ·replace ai:=ya ai;refine B 21 ?_;exact zTi
 replace ai:=ya ai;refine B 2 ?_;refine cl call35 rfl (λW hS=>by rw[<-pR];exact nL r W) (v:=ab e2) ?_;refine B 3 ?_;refine nf (t:=22) rfl (λax=>?_) (λax=>?_)
 ·replace ax:=ya ax;refine B 15 ?_;exact zTi
 replace ax:=ya ax;refine B 2 ?_;refine cl call84 rfl (λW hS=>by rw[<-J];exact nkr s W) (v:=.bool sb) ?_;refine av 4 ?_ ?_
 ·intro bY;refine B 7 ?_;exact zTi
 intro bY;refine B 6 ?_;refine cl call85 rfl (λW hS=>X9 hZ _ W) ?_;refine B 14 ?_;refine cl call87 rfl (λW hS=>njl hZ p r e msg he bm om cm pO W (jm.old hS A1 zL zD)) ?_;refine cl call86 rfl (λW hS=>aiM hZ p e W) ?_;refine B 12 ?_;refine cl call88 rfl (λW hS=>by rw[<-hm];exact Ke _ _ W) (v:=jZ m) ?_;refine B 16 ?_;exact zTi
end
def ke (n:Nat):List Nat:=if h:1<n then n::ke (n/2)else[]
termination_by n
decreasing_by omega
theorem Ag{n:Nat}(h:1<n):ke n=n::ke (n/2):=by rw[ke,dif_pos h]
theorem Kf{n:Nat}(h:¬1<n):ke n=[]:=by rw[ke,dif_neg h]
theorem n0k(n:Nat):(ke n).length<=n:=by induction n using Nat.strongRecOn<;>grind [Ag,Kf]
theorem Vd{n:Nat}:∀x∈ke n,1<x/\x<=n:=by induction n using Nat.strongRecOn<;>grind [Ag,Kf]
def mC (n:Nat):Nat:=n/2
def gD (n:Nat):Nat:=n^^^1
theorem Kg(n:Nat)(h:n<4611686018427387904):IntKind.i64.wrap ((BitVec.ofInt 64 (n:Int)^^^BitVec.ofInt 64 1).toNat:Int)=((gD n:Nat):Int):=by
 have h1:n^^^1<2^62:=Nat.xor_lt_two_pow aa zF;have e1:(BitVec.ofInt 64 (n:Int))=BitVec.ofNat 64 n:=by simp
 have e2:(BitVec.ofInt 64 1)=BitVec.ofNat 64 1:=rfl;rw[e1,e2,BitVec.toNat_xor,BitVec.toNat_ofNat,Nat.mod_eq_of_lt (a:=n) aa];show IntKind.i64.wrap ((n^^^1:Nat):Int)=((n^^^1:Nat):Int)
 grind [IntKind.wrap,IntKind.bits]
abbrev bM (d:Int):Prop:=0<=d/\d<512
theorem YQ:prog.info? 3=some Tryz.t3:=by kernel_rfl
theorem vY:mD prog 96 3 1:=⟨underlying96,Tryz.t3,ab 0,YQ,rfl,rfl,rfl,by decide⟩
theorem nTq(d:Int)(h:bM d)(w:World):Calls prog 407 #[ab d] w (ar w (.tuple #[ab (512+d),ab 0])):=by
 have h1:=h.1;have h2:=h.2;refine cH 10 func407 ntmps407 ?_;refine Ve ?_;refine XO ?_;refine nK results407 rfl rfl A0 ?_ ?_;all_goals rfl
theorem nXi(n:Nat)(h:n<4611686018427387904)(w:World):Calls prog 389 #[ab (n:Int)] w (ar w (ab ((mC n:Nat):Int))):=by
 refine cH 8 func389 ntmps389 ?_;refine XH ?_;refine B 4 ?_;refine ao results389 rfl A0 ?_;exact congrArg ab (by unfold mC;omega)
theorem nqn(n:Nat)(h:n<4611686018427387904)(w:World):Calls prog 390 #[ab (n:Int)] w (ar w (ab ((gD n:Nat):Int))):=by
 refine cH 8 func390 ntmps390 ?_;refine rq (ab ((gD n:Nat):Int)) (xN rfl rfl) (congrArg ab (Kg n h)) ?_;refine B 4 ?_;refine ao results390 rfl A0 ?_;rfl
theorem D8(n:Nat)(w:World):Calls prog 408 #[ab (n:Int)] w (db w (λb:Nat=>.func (.func 415) #[] #[ptr b 0]) (λb w1=>w.heap.size<=b/\True/\w1.heap[b]? =some (oC #[ab (n:Int)] 429))):=by
 refine eN func408 ntmps408 ?_;refine aU 2 ?_;intro b1 w1 aW bJ eO dC fg;refine B 10 ?_;refine pe b1 results408 rfl A1 rfl ?_;exact λW hS=>⟨dC.1,True.intro,hS.old A0 aW bJ trivial⟩
theorem Kh(n:Nat)(hn:n<4611686018427387904)(b:Nat)(W:World)(aW:W.heap[b]? =some (oC #[ab (n:Int)] 429)):zj prog 415 [ptr b 0] (λm:Nat=>[ab (m:Int)]) (zk (ke n)) (Is (ke n)) (λk=>k=b) (λ_=>False) W:=by
 intro l M I X0 hM hI J hy h0;refine nP (dI hM (λ_=>False) (hI [] _)) [(b,oC #[ab (n:Int)] 429)] (vs:=[_,_]) func415 rfl ntmps415 rfl (Nl hM (hI [] _) h0 (by intro p hp;simp at hp;subst hp;exact aW) (Yj _) zP) ?_;refine B 1 ?_;refine CJ.loop (α:=(List Nat×Nat)×aJ) (λp=>[(0,yv l),(1,ptr b 0)]) (λp=>[(b,oC #[ab (p.1.2:Int)] 429)]) (λp=>[W]) (λp=>dI hM p.2 (hI p.1.1 p.2)) (λp=>p.1.1++ke p.1.2=ke n/\p.1.2<=n/\∀k,p.2 k->W.heap.size<=k) (λp=>p.1.2) (([],n),λ_=>False) ⟨rfl,aC _,λ_ h=>h.elim⟩ ⟨rfl,rfl,trivial⟩ rfl rfl zP ?_;rintro⟨⟨pre,m⟩,V⟩ ⟨tA,YR,hV⟩;dsimp only at tA YR hV ⊢;refine B 6 ?_;refine nf (t:=5) rfl (λai=>?_) (λai=>?_)
 ·replace ai:=ya ai;refine B 2 ?_;refine CY (λV=>hI (pre++[m]) V) J hV zP rfl rfl rfl rfl (λW1 vD mY=>hy (pre) (m) V W1 ⟨ke (m/2),by rw[lP,<-tA,Ag (n:=m) aa];rfl⟩ vD mY) ?_ ?_
  ·intro V hV;refine B 13 ?_;refine cl call389 rfl (λW hS=>nXi m aa W) ?_;refine lG (i:=0) rfl sizeOf429 rfl rfl rfl rfl (fy rfl) rfl ?_;refine B 1 ?_;refine PJ.again ((pre++[m],mC m),V) ⟨by dsimp only;rw[<-tA,Ag (n:=m) aa,lP];rfl,by dsimp only[mC];omega,hV⟩ (by dsimp only[mC];omega) ⟨rfl,rfl,trivial⟩ rfl rfl zP
  intro V hV;refine B 8 ?_;exact CZ (.inr rfl) results415 A0 hV zP (λA hA=>.inr hA)
 replace ai:=ya ai;refine B 11 ?_;exact CZ (.inr rfl) results415 A0 hV zP (λA hA=>.inl ⟨pre,by rw[<-tA,Kf aa,dG],hA⟩)
theorem nns(fo:Nat->Nat)(pre:List Nat)(x:Nat):(pre++[x]).map (λn=>((fo n:Nat):Int))=pre.map (λn=>((fo n:Nat):Int))++[((fo x:Nat):Int)]:=by simp
theorem nNi(fo:Nat->Nat)(g:Nat)(aF:fh prog g)(YS:∀(n:Nat) (w:World),n<4611686018427387904->Calls prog g #[ab (n:Int)] w (ar w (ab ((fo n:Nat):Int))))(d:Int)(kk:Nat)(D9:512+d=(kk:Int))(hd:bM d)(w:World):Calls prog 388 #[ab d,.func (.func g) #[] #[]] w (nv w ak 1 3 (List.map (λn=>((fo n:Nat):Int)) (ke kk)) (λs=>.tuple #[s,ab 0])):=by
 have c4:=hd.1;have vZ:=hd.2;have cz:=n0k kk;refine Im Gh.no [] (vs:=[_,_]) func388 rfl ntmps388 rfl (AX w) ?_;refine aU 2 ?_;intro b3 w3 bQ aZ dK cP dt;refine bD 1 ?_;intro b4 dL dP;refine B 6 ?_;refine cl call407 rfl (λW hS=>by rw[<-D9];exact nTq d hd W) (v:=.tuple #[ab (kk:Int),ab 0]) ?_;refine B 11 ?_;refine Ce ?_;refine UM (α:=Nat) (v:=λb=>.func (.func 415) #[] #[ptr b 0]) (bo:=λb=>(b,oC #[ab (kk:Int)] 429)) (Φ:=λ_=>True) call408 rfl rfl rfl (λW hS=>D8 kk W) ?_;intro bu lT xb _;dsimp only at lT xb ⊢;replace lT:=yb lT;simp only[cu,and_true]at xb;refine B 3 ?_;refine nvr (f:=415) (cap:=[ptr bu 0]) (α:=Nat) (enc:=(λm:Nat=>[ab (m:Int)])) (Pre:=zk (ke kk)) (Fin:=Is (ke kk)) (RO:=λ_=>False) (i:=0) (b:=bu) (o:=oC #[ab (kk:Int)] 429) (H:=[(b4,oC #[bS] 96)]) rfl rfl zI zL rfl call415 (λW W2 hS dW hB=>Kh kk aa bu W2 (by rw[hB.block bu (bO.1 dW).1];exact dW)) (λ_ _ _ hk=>hk.elim) (λ_=>rfl) (λpre G' Hc=>G'=Gh.no/\∃r:Rw,r.Fr Gh.no [w3,w]/\r.Fit 1 (List.map (λn=>((fo n:Nat):Int)) pre)/\Hc=[(b4,oC #[r.val (List.map (λn=>((fo n:Nat):Int)) pre).length] 96)]++(r.hp ak 3 (List.map (λn=>((fo n:Nat):Int)) pre)++[])) (λ_ _ _=>False) ⟨rfl,.nil,True.intro,rfl,rfl⟩ zF ?_ ?_ ?_
 ·rintro pre x G' Hc l Dk rec W1 M V Wy pJ ui gX ⟨rfl,r,aB,af,rfl⟩ J jA Np vE cI Io;simp only[ah]at J vE;have bW:r.ge w3.heap.size:=Rw.ge_of aB A0;have aZ:=cI.z (k:=b3) aa zL mZ zL;have dd:=Vd x (gX.subset zP);have hpl:=gX.length_le;simp only[eU,kb,oe]at hpl;have YT:∀p∈r.hp ak 3 (List.map (λn=>((fo n:Nat):Int)) pre),M p.1\/V p.1:=λp hp=>cI.loc.h p zVc;refine UE ?_;refine B 1 ?_;refine eS 5 4 [] (pb:=by exact zU 3 (k:=by exact dh (nUp (first:=[]) (cap:=[]) rfl aF rfl rfl (λW hS _=>YS x W aa) (λ_=>rfl)) zT)) (h:=?_);intro _ _ hk;refine Jp ?_;intro zV cy Qk ha Qo Ql hz;refine zE ?_;refine jf (r:=r) (xs:=(List.map (λn=>((fo n:Nat):Int)) pre)) (zs:=[((fo x:Nat):Int)]) (enc:=ak) (m:=1) (H0:=[(b4,oC #[r.val (List.map (λn=>((fo n:Nat):Int)) pre).length] 96)]) (H1:=(l,.loop {rec with state:=.busy})::eV Dk) IA vY nh rfl rfl rfl rfl (bN.one (z:=((fo x:Nat):Int)) nh v7 underlying96 (bL.old A0 Qk Ql Qo)) af (Rw.Fr_ext YT) zP Cq ?_;intro Ki QN QO Kj QP;replace Kj:=yb Kj;refine B 3 ?_;refine PJ.fewL (L':=[Wy,w3,w]) zP ?_;refine Jk (G2:=Gh.no) (Hc2:=[(b4,oC #[(Rw.row Ki QN QO).val ((List.map (λn=>((fo n:Nat):Int)) pre)++[((fo x:Nat):Int)]).length] 96)]++((Rw.row Ki QN QO).hp ak 3 ((List.map (λn=>((fo n:Nat):Int)) pre)++[((fo x:Nat):Int)])++[])) cI jA ⟨λ_ h=>h,λ_ h=>.inl h,λ_ h=>.inl h,(nej rfl (Kj.imp id (λh=>h.2.1))),zpd⟩ (Jl pJ ui) ?_
  rw[nns];exact⟨rfl,.row Ki QN QO,Kj.elim (λh=>Rw.Fr_at aB h) (λh=>.inr h.2.2),QP,rfl⟩
 ·rintro lF l Dk rec G' Hc rfl J jA ⟨rfl,r,aB,af,rfl⟩;replace J:=yb J;have bW:r.ge w3.heap.size:=Rw.ge_of aB A0;refine YU λWd vf=>?_;have pj:=Vf vf;refine B 5 ?_;refine fE (i:=0) rfl sizeOf96 rfl rfl rfl (Rw.val_size _ _) rfl (Rw.val_one _ _) ?_;refine B 4 ?_;have hq:=λ(k:Nat)=>Rw.mem_ge (enc:=ak) (t:=3) (xs:=(List.map (λn=>((fo n:Nat):Int)) (ke kk))) (k:=k) bW;refine PJ.reH (H':=(b4,oC #[r.val (List.map (λn=>((fo n:Nat):Int)) (ke kk)).length] 96)::(r.hp ak 3 (List.map (λn=>((fo n:Nat):Int)) (ke kk))++(l,.loop rec)::eV Dk)) (zYBb) ?_;refine Ea (b:=b4) (r:=r) (xs:=(List.map (λn=>((fo n:Nat):Int)) (ke kk))) (.inl rfl) results388 isAgg96 rfl rfl zP A0 (pj _ A0).1 rfl af (λp hp=>⟨.tail _ (dQ.2 (.inl hp)),(pj p (dQ.2 (.inr (dQ.2 (.inl hp))))).1⟩) (Rw.ge_of aB A1) (λW H' hS di=>(hS.links w A1).below λk hk hx=>?_);exact zqj
 exact Xe
def da (d:Int):List Int:=(ke (512+d).toNat).map λn=>((mC n:Nat):Int)
def gu (d:Int):List Int:=(ke (512+d).toNat).map λn=>((gD n:Nat):Int)
theorem QQ:fh prog 389:=call389
theorem QR:fh prog 390:=call390
theorem n4g(d:Int)(hd:bM d)(w:World):Calls prog 358 #[ab d] w (nv w ak 1 3 (da d) (λs=>.tuple #[s,ab 0])):=by
 obtain⟨kk,J⟩:∃kk:Nat,512+d=(kk:Int):=⟨(512+d).toNat,by have:=hd.1;omega⟩;have e:da d=(List.map (λn=>((mC n:Nat):Int)) (ke kk)):=by unfold da;rw[J,QS]
 rw[e];refine cH 9 func358 ntmps358 ?_;refine IB (enc:=ak) (m:=1) (t:=3) (xs:=(List.map (λn=>((mC n:Nat):Int)) (ke kk))) (v:=λs=>.tuple #[s,ab 0]) (first:=[]) (cap:=[]) rfl call388 rfl rfl rfl (λW hS=>nNi mC 389 QQ (λn w h=>nXi n h w) d kk J hd W) ?_;intro r aB af;refine B 7 ?_;exact nB (H0:=[]) (H1:=[]) (r:=r) (.inl rfl) results358 aL A0 YV rfl af (Rw.ge_of aB A0) zP
theorem nvn(d:Int)(hd:bM d)(w:World):Calls prog 361 #[ab d] w (nv w ak 1 3 (gu d) (λs=>.tuple #[s,ab 0])):=by
 obtain⟨kk,J⟩:∃kk:Nat,512+d=(kk:Int):=⟨(512+d).toNat,by have:=hd.1;omega⟩;have e:gu d=(List.map (λn=>((gD n:Nat):Int)) (ke kk)):=by unfold gu;rw[J,QS]
 rw[e];refine cH 9 func361 ntmps361 ?_;refine IB (enc:=ak) (m:=1) (t:=3) (xs:=(List.map (λn=>((gD n:Nat):Int)) (ke kk))) (v:=λs=>.tuple #[s,ab 0]) (first:=[]) (cap:=[]) rfl call388 rfl rfl rfl (λW hS=>nNi gD 390 QR (λn w h=>nqn n h w) d kk J hd W) ?_;intro r aB af;refine B 7 ?_;exact nB (H0:=[]) (H1:=[]) (r:=r) (.inl rfl) results361 aL A0 YV rfl af (Rw.ge_of aB A0) zP
def eR (xs:List Int):List Int:=xs.mergeSort λx y=>decide (x<=y)
theorem Kk(xs:List Int):(eR xs).length=xs.length:=List.length_mergeSort _
theorem YW{xs:List Int}(hl:xs.length<=1000000){b cap t:Nat}{W:World}(cQ:(Rw.row b cap sp).Fit 1 xs)(h:W.heap[b]? =some (cT ak t xs sp)):Calls prog 99 #[.slice (aH b) xs.length cap] W (λe w'=>∃J,e= .returned ((λ_=>.tuple #[]) (Rw.row b cap J))/\aQ (· =b) W w'/\(Rw.row b cap J).Fit 1 (eR xs)/\w'.heap[b]? =some (cT ak t (eR xs) J)):=by
 have hc:=Any.slices_Sort_int Tryz.laySort b 0 cap xs W (Eb h) (bO.1 h).1 aa;change Calls prog 99 _ _ _ at hc;refine hc.mono ?_;rintro e w' ⟨rfl,n,os,rfl⟩;obtain⟨h1,h2⟩:=YX (n:=n) (os:=os) h (Kk xs);exact⟨sp,rfl,h1,by simp only[Rw.Fit,Kk];exact cQ,h2⟩
theorem Ec(W:World):Calls prog 99 #[bS] W (λe w'=>e= .returned (.tuple #[])/\Below W.heap.size W w'):=by
 have hc:=Any.slices_Sort_int_none Tryz.laySort none 0 W;change Calls prog 99 _ _ _ at hc;refine hc.mono ?_;rintro e w' ⟨rfl,h⟩;refine⟨rfl,?_⟩;first
  |(obtain⟨n,rfl⟩:=h;exact IC W _)
  |(subst h;exact Below.refl _ _)
theorem YY{xs:List Int}(hl:xs.length<=1000000){b cap t:Nat}{W:World}(cQ:(Rw.row b cap sp).Fit 1 xs)(h:W.heap[b]? =some (cT ak t xs sp)):Calls prog 100 #[.slice (aH b) xs.length cap] W (λe w'=>∃J,e= .returned ((λr=>r.val (Go.Lib.compact xs).length) (Rw.row b cap J))/\aQ (· =b) W w'/\(Rw.row b cap J).Fit 1 (Go.Lib.compact xs)/\w'.heap[b]? =some (cT ak t (Go.Lib.compact xs) J)):=by
 obtain⟨f1,f2⟩:=cQ;have hc:=Any.slices_Compact_int Tryz.layCompact b 0 cap xs W (Eb h) aa f1;change Calls prog 100 _ _ _ at hc;refine hc.mono ?_;rintro e w' ⟨rfl,q,rfl⟩;have hle:=Go.Lib.compact_length_le xs;obtain⟨h1,h2⟩:=YX (n:=q) (os:=#[]) (ys:=Go.Lib.compact xs++List.replicate (xs.length-(Go.Lib.compact xs).length) 0) h mZ;rw[Go.Sort.grow_empty]at h1 h2;refine⟨gL ak (List.replicate (xs.length-(Go.Lib.compact xs).length) 0)++sp,rfl,h1,⟨by omega,?_⟩,?_⟩
 ·rw[eU,vm nh,List.length_replicate,f2];omega
 rw[h2];simp only[cT,Vg,lP]
theorem njq{xs:List Int}(h:Rw.nil.Fit 1 xs)(W:World):Calls prog 99 #[Rw.nil.val xs.length] W (λe w'=>e= .returned ((λ_=>.tuple #[]) Rw.nil)/\eR xs=[]/\Below W.heap.size W w'):=
 (Ec W).mono λe w' ⟨h1,h2⟩=>⟨h1,by have:xs=[]:=h;simp_all[eR],h2⟩
theorem n9r(W:World):Calls prog 100 #[bS] W (λe w'=>e= .returned (bS)/\Below W.heap.size W w'):=by
 have hc:=Any.slices_Compact_int_empty Tryz.layCompact none 0 W;change Calls prog 100 _ _ _ at hc;refine hc.mono ?_;rintro e w' ⟨rfl,rfl⟩;exact⟨rfl,Below.refl _ _⟩
theorem Kl{xs:List Int}(h:Rw.nil.Fit 1 xs)(W:World):Calls prog 100 #[Rw.nil.val xs.length] W (λe w'=>e= .returned ((λr=>r.val (Go.Lib.compact xs).length) Rw.nil)/\Go.Lib.compact xs=[]/\Below W.heap.size W w'):=
 (n9r W).mono λe w' ⟨h1,h2⟩=>⟨h1,by have:xs=[]:=h;subst this;rfl,h2⟩
structure Nd where
 at_:Int
 pub:Int
def dD (n:Nd):List Value:=[ab n.at_,ab n.pub]
def dJ (n:Nd):Array Value:=#[ab n.at_,ab n.pub]
theorem tB(n:Nd):(dD n).length=2:=rfl
theorem Vh(n:Nd):∀u∈dD n,u.oneCell'=true:=by intro u hu;simp[dD]at hu;rcases hu with rfl|rfl<;>rfl
def oM (ns:List Nd):List Int:=(ns.filter λn=>decide (512<=n.at_/\n.at_<=1023)).map λn=>n.at_-512
variable {ns:List Nd} {x:Nd}
theorem n4k(hx:ns[j]? =some x)(h1:512<=x.at_)(h2:x.at_<=1023):oM (ns.take (j+1))=oM (ns.take j)++[x.at_-512]:=by
 simp_all[nk,oM]
theorem nzg(hx:ns[j]? =some x)(h:¬(512<=x.at_/\x.at_<=1023)):oM (ns.take (j+1))=oM (ns.take j):=by simp_all[nk,oM]
theorem n5k(ns:List Nd)(j:Nat):(oM (ns.take j)).length<=j:=by grind [oM]
theorem Km(ns:List Nd)(j:Nat)(h:¬j<ns.length):oM (ns.take j)=oM ns:=by grind [List.take_of_length_le]
def dX (ns:List Nd):List Int:=Go.Lib.compact (eR (oM ns))
theorem nlo(ns:List Nd):(dX ns).length<=ns.length:=by
 grind [Go.Lib.compact_length_le,n5k,Kk,dX,List.take_length]
theorem Ed:prog.info? 325=some Tryz.t325:=by kernel_rfl
theorem ncc(ns:List Nd)(hn:ns.length<=100000)(N:Nat)(a:Option Addr)(cp:Nat)(w:World)(hN:N<=w.heap.size)(aA:aj dJ 2 N w a ns):Calls prog 330 #[.agg #[.slice a ns.length cp]] w (nv w ak 1 3 (dX ns) id):=by
 have J:=n5k ns ns.length;rw[Ko]at J;refine eN func330 ntmps330 ?_;refine aU 2 ?_;intro b1 w1 aW bJ eO dC fg;refine B 7 ?_;refine zEf ?_;refine B 5 ?_;refine CJ.loop (α:=Rw×Nat) (λp=>[(1,ptr b1 0),(2,p.1.val (oM (ns.take p.2)).length),(6,.slice a ns.length cp),(7,ab (ns.length:Int)),(8,ab (p.2:Int))]) (λp=>p.1.hp ak 3 (oM (ns.take p.2))++[]) (λp=>[w1,w]) (λp=>Gh.no) (λp=>p.2<=ns.length/\p.1.Fr Gh.no [w1,w]/\p.1.Fit 1 (oM (ns.take p.2))) (λp=>ns.length-p.2) (.nil,0) ⟨cd _,True.intro,rfl⟩ zR rfl rfl zP ?_;rintro⟨r,j⟩ ⟨hj,aB,af⟩;dsimp only at hj aB af ⊢;have bW:r.ge w1.heap.size:=Rw.ge_of aB A0;have Bb:=n5k ns j;refine av 6 ?_ ?_
 ·intro ai;refine B 5 ?_;obtain⟨bo,oo,cs0,to,dR,rfl,dW,hcs,ay⟩:=aA.get aa;obtain⟨x,hx⟩:=ng ns j aa;refine B 2 ?_;refine zxi ?_;refine yW ?_;intro b4 dL dP;refine B 9 ?_;refine nf (t:=15) rfl (λax=>?_) (λax=>?_)
  ·replace ax:=ya ax;refine av 6 ?_ ?_
   ·intro bY;refine B 5 ?_;refine uC ?_;refine yW ?_;intro Ki YZ Y0;refine jf (r:=r) (xs:=(oM (ns.take j))) (zs:=[(x.at_-512)]) (enc:=ak) (m:=1) (H0:=[(Ki,oC #[ab (x.at_-512)] 3),(b4,oC (dJ x) 325)]) (H1:=[]) IA vY nh rfl rfl rfl rfl (bN.one (z:=x.at_-512) nh v7 underlying96 (bL.own (i:=0) rfl)) af aB zP vn ?_;intro xd sx sy pS lU;replace pS:=yb pS;refine B 8 ?_;refine vo ?_;refine PJ.again (Rw.row xd sx sy,j+1) ⟨by dsimp only;omega,pS.elim (λh=>Rw.Fr_at aB h) (λh=>.inr h),by rw[n4k hx aa aa];exact lU⟩ zZ ⟨rfl,by rw[n4k hx aa aa];rfl,rfl,rfl,rfl,trivial⟩ (by rw[n4k hx aa aa];rfl) rfl zP
   intro bY;refine xY ?_;exact zVj
  replace ax:=ya ax;refine B 14 ?_;refine lx ?_;exact zVj
 intro ai;refine B 6 ?_;have cN:=Km ns j aa;rw[cN]at af ⊢;refine B 2 ?_;refine ID (r:=r) (enc:=ak) (m:=1) (t:=3) (xs:=oM ns) (ys:=eR (oM ns)) (H0:=[]) (H1:=[]) (v:=λ_=>.tuple #[]) rfl call99 rfl rfl rfl (λhr W _=>by subst hr;exact njq af W) (λb cap sp hr W _ h=>by subst hr;exact YW aa af h) ?_;intro r2 dE uz pT pr;have ei:=uz aB;have eX:=pT _ bW;refine B 5 ?_;refine ID (r:=r2) (enc:=ak) (m:=1) (t:=3) (xs:=eR (oM ns)) (ys:=dX ns) (H0:=[]) (H1:=[]) (v:=λr=>r.val (dX ns).length) rfl call100 rfl rfl rfl (λhr W _=>by have e:=pr (oM ns).length;rw[<-e];subst hr;rw[<-Kk (oM ns)];exact Kl dE W) (λb cap sp hr W _ h=>by have e:=pr (oM ns).length;rw[<-e];subst hr;rw[<-Kk (oM ns)];exact YY (by rw[Kk];omega) dE h) ?_;intro r3 pv Ee Ef Ah;have Eg:=Ee ei;have Ai:=Ef _ eX;refine B 4 ?_;exact nB (H0:=[]) (H1:=[]) (r:=r3) (.inl rfl) results330 aL A1 (by rw[dG];exact Rw.over (Rw.ge_of Eg A1)) rfl pv (Rw.ge_of Eg A1) zP
def By (kv:List (Int×Int)) (n:Nd):List (Int×Int):=if(al kv n.at_).isSome then kv else cJ kv n.at_ n.pub
def bh (ns:List Nd):List (Int×Int):=ns.foldl By []
theorem nch(hx:ns[j]? =some x):bh (ns.take (j+1))=By (bh (ns.take j)) x:=by
 simp_all[nk,bh]
theorem nnq(hx:ns[j]? =some x)(h:(al (bh (ns.take j)) x.at_).isSome=false):bh (ns.take (j+1))=cJ (bh (ns.take j)) x.at_ x.pub:=by
 simp_all[nch,By]
theorem Eh(hx:ns[j]? =some x)(h:(al (bh (ns.take j)) x.at_).isSome=true):bh (ns.take (j+1))=bh (ns.take j):=by
 simp_all[nch,By]
theorem Kp(ns:List Nd)(j:Nat)(h:¬j<ns.length):bh (ns.take j)=bh ns:=by grind [List.take_of_length_le]
theorem Vi{β:Type}(l:List (Int×β))(k:Int)(v:β):(cJ l k v).length<=l.length+1:=by
 grind [cJ]
theorem Vj(ns:List Nd):(bh ns).length<=ns.length:=by
 have key:∀(l:List Nd) (kv:List (Int×Int)),(l.foldl By kv).length<=kv.length+l.length:=by
  intro l;induction l with
  |nil=>simp
  |cons n l ih=>
   grind [By,Vi]
 grind [bh]
theorem Ej(ns:List Nd):((bh ns).map (·.1)).Nodup:=by
 have key:∀(l:List Nd) (kv:List (Int×Int)),(kv.map (·.1)).Nodup->((l.foldl By kv).map (·.1)).Nodup:=by
  intro l;induction l with
  |nil=>simp
  |cons n l ih=>
   grind [By,QT]
 grind [bh,By]
theorem nUg(ns:List Nd)(hn:ns.length<=100000)(N:Nat)(a:Option Addr)(cp:Nat)(w:World)(hN:N<=w.heap.size)(aA:aj dJ 2 N w a ns):Calls prog 366 #[.agg #[.slice a ns.length cp]] w (Aj w ab (bh ns) id):=by
 refine eN func366 ntmps366 ?_;refine aU 2 ?_;intro b1 w1 aW bJ eO dC fg;refine B 5 ?_;refine Kq ab rfl rfl ?_;refine yW ?_;intro b8 lI J;refine B 7 ?_;refine zEf ?_;refine B 5 ?_;refine CJ.lp (α:=Mp×Nat) [1,3,10,11] (λp=>[(12,ab (p.2:Int))]) (λp=>[(b8,p.1.obj ab (bh (ns.take p.2)))]) (λp=>p.2<=ns.length/\p.1.Ok (bh (ns.take p.2))) (λp=>ns.length-p.2) (⟨[],0⟩,0) ⟨cd _,Mp.nil⟩ ?_;rintro⟨m,j⟩ ⟨hj,hm⟩;dsimp only at hj hm ⊢;refine av 6 ?_ ?_
 ·intro ai;refine B 5 ?_;obtain⟨bo,oo,cs0,to,dR,rfl,dW,hcs,ay⟩:=aA.get aa;obtain⟨x,hx⟩:=ng ns j aa;refine B 2 ?_;refine zxi ?_;refine yW ?_;intro b5 fK gf;refine B 8 ?_;refine rx (kU (ev:=ab) underlying399 underlying3 zeroValue3 hm (bL.own (i:=1) rfl) rfl rfl) ?_;refine av 13 ?_ ?_
  ·intro ax;refine B 6 ?_;refine N3 (i:=1) (ev:=ab) (v:=x.pub) rfl hm underlying399 underlying3 rfl rfl rfl rfl ?_;intro m2 bj;refine xY ?_;refine PJ.again (m2,j+1) ⟨by dsimp only;omega,by rw[nnq hx ew];exact bj⟩ zZ zR (by rw[nnq hx ew];rfl) rfl zP
  intro ax;refine xY ?_;refine PJ.again (m,j+1) ⟨by dsimp only;omega,by rw[Eh hx ew];exact hm⟩ zZ zR (by rw[Eh hx ew];rfl) rfl zP
 intro ai;refine B 6 ?_;have cN:=Kp ns j aa;rw[cN]at hm ⊢;refine B 6 ?_;exact N4 (i:=0) (.inl rfl) results366 aL A1 vF rfl hm rfl
theorem nhj:∀(n:Nat) (js:List Nat),js.Nodup->(∀j∈js,j<n)->js.length<=n
 |0,js,_,h=>by
  (induction js<;>simp_all)
 |n+1,js,hd,h=>by
  have h1:=nhj n (js.erase n) (hd.erase n) (λj hj=>by
   grind)
  grind
def IE {β:Type} (kv:List (Int×β)) (j:Nat):Int:=((kv[j]?).map (·.1)).getD 0
theorem nbr{β:Type}{kv:List (Int×β)}{p:Int×β}(hp:kv[j]? =some p)(js:List Nat):(js++[j]).map (IE kv)=js.map (IE kv)++[p.1]:=by simp[IE,hp]
theorem nsr{β:Type}{kv:List (Int×β)}{js:List Nat}(hd:js.Nodup)(hl:∀j∈js,j<kv.length)(cN:∀j,j<kv.length->j∈js):(js.map (IE kv)).Perm (kv.map (·.1)):=by
 have h1:js.Perm (List.range kv.length):=(List.perm_ext_iff_of_nodup hd List.nodup_range).2 λa=>⟨λh=>xe.2 (hl a h),λh=>cN a (xe.1 h)⟩;have h2:(List.range kv.length).map (IE kv)=kv.map (·.1):=by
  apply List.ext_getElem zP;intro i h3 h4;simp only[jg,List.length_range]at h3;simp[IE,h3]
 grind
theorem nMr{p q:List Int}(h:p.Perm q):eR p=eR q:=by
 grind [eR,List.pairwise_mergeSort,List.Perm.eq_of_pairwise,List.mergeSort_perm]
theorem N5{β:Type}{kv:List (Int×β)}{js:List Nat}{J:Nat}{pn:Int×β}(hnd:js.Nodup)(uD:∀j∈js,j<kv.length)(uE:kv[J]? =some pn)(uF:J∉js):(js++[J]).Nodup/\(∀j∈js++[J],j<kv.length)/\js.length+1<=kv.length:=by
 have h1:(js++[J]).Nodup:=by rw[List.nodup_append];exact⟨hnd,by simp,by grind⟩
 have h2:∀j∈js++[J],j<kv.length:=by
  intro j hj;rcases dQ.1 hj with hj|hj
  ·grind
  grind
 exact⟨h1,h2,by simpa using nhj _ _ h1 h2⟩
theorem nBe(b:Nat)(m:Mp)(hm:m.Ok kv)(k:Int)(w:World)(hb:w.heap[b]? =some (m.obj ab kv)):Calls prog 367 #[.map (some b),ab k] w (λe w'=>∃m':Mp,e= .returned (.tuple #[])/\aQ (· =b) w w'/\m'.Ok (gR kv k)/\w'.heap[b]? =some (m'.obj ab (gR kv k))):=by
 refine nP (Gh.lent (· =b)) [(b,m.obj ab kv)] (vs:=[_,_]) func367 rfl ntmps367 rfl (Dm hb) ?_;refine B 3 ?_;refine Y1 (i:=0) (ev:=ab) rfl rfl hm underlying399 underlying3 rfl rfl rfl ?_;intro m2 bj;refine B 1 ?_;exact bH (.inr rfl) (rs:=[]) results367 aL λW hS=>⟨m2,rfl,hS.baseX A0 IF,bj,hS.own _ A0⟩
theorem nnm(mp:Option Nat)(w:World):Calls prog 369 #[.map mp] w (db w (λb:Nat=>.func (.func 400) #[] #[ptr b 0]) (λb w1=>w.heap.size<=b/\w1.heap[b]? =some (oC #[.map mp] 399))):=by
 refine eN func369 ntmps369 ?_;refine aU 2 ?_;intro b1 w1 aW bJ eO dC fg;refine B 10 ?_;refine pe b1 results369 rfl A1 rfl ?_;exact zVk
theorem nds(mb bx:Nat)(m:Mp)(hm:m.Ok kv)(W:World)(aW:W.heap[bx]? =some (oC #[.map (some mb)] 399))(kF:W.heap[mb]? =some (m.obj ab kv)):zj prog 400 [ptr bx 0] ak (λp=>p.length<=kv.length) (λxs=>xs.Perm (kv.map (·.1))) (λ_=>False) (λk=>k=bx\/k=mb) W:=by
 intro l M I X0 hM hI hX hy h0;have bJ:¬(dI hM (λ_=>False) (hI [] _)).X bx:=by rintro(h|h);exact(hM _ h).2.2 (.inl rfl);exact h.elim
 have J:¬(dI hM (λ_=>False) (hI [] _)).X mb:=by rintro(h|h);exact(hM _ h).2.2 (.inr rfl);exact h.elim
 have xZ:=(bO.1 kF).1;refine zxg ?_;refine B 3 ?_;refine Y2 (ev:=ab) underlying399 (bL.old A0 kF J trivial) rfl rfl rfl ?_;intro rb we Y3;replace we:=yb we;refine B 3 ?_;refine CJ.loop (α:=List Nat×aJ) (λp=>[(0,yv l),(5,ptr rb 0)]) (λp=>[(rb,m.it mb p.1)]) (λp=>[W]) (λp=>dI hM p.2 (hI (p.1.map (IE kv)) p.2)) (λp=>p.1.Nodup/\(∀j∈p.1,j<kv.length)/\∀k,p.2 k->W.heap.size<=k) (λp=>kv.length-p.1.length) ([],λ_=>False) ⟨List.nodup_nil,by simp,λ_ h=>h.elim⟩ ⟨rfl,rfl,trivial⟩ rfl rfl zP ?_;rintro⟨js,V⟩ ⟨hnd,uD,hV⟩;dsimp only at hnd uD hV ⊢;have J:¬(dI hM V (hI (js.map (IE kv)) V)).X mb:=by rintro(h|h);exact(hM _ h).2.2 (.inr rfl);have:=hV _ h;omega
 have a8:=nhj kv.length js hnd uD;refine B 2 ?_;refine N6 (ev:=ab) (i:=0) rfl hm (bL.old A0 kF J zD) uD rfl rfl rfl (λcN=>?_) (λjn pn uE uF=>?_)
 ·refine B 9 ?_;exact CZ (.inr rfl) results400 A0 hV (zYBO) (λA hA=>.inl ⟨_,nsr hnd uD cN,hA⟩)
 refine B 10 ?_;refine rx (Em (ev:=ab) (i:=0) rfl hm (bL.old A0 kF J zD) uE rfl) ?_;refine B 8 ?_;refine CY (λV=>hI (js.map (IE kv)++[pn.1]) V) hX hV zP rfl rfl rfl rfl (λW1 vD mY=>hy (js.map (IE kv)) (pn.1) V W1 (by have h9:=(N5 hnd uD uE uF).2.2;simp only[eU,jg,kb,oe];omega) vD mY) ?_ ?_
 ·intro V hV;refine B 6 ?_;refine PJ.again (js++[jn],V) ⟨(N5 hnd uD uE uF).1,(N5 hnd uD uE uF).2.1,hV⟩ zDc ⟨rfl,rfl,trivial⟩ rfl (by dsimp only;rw[nbr uE]) zP
 intro V hV;refine B 8 ?_;exact CZ (.inl rfl) results400 A0 hV (zYBO) (λA hA=>.inr hA)
section
variable {f:Nat}(aF:fh prog f)(w:World)(rP:∀k,RO k->k<w.heap.size)(hlen:∀p,Pre p->p.length<=100000)(sA:∀W2,Below w.heap.size w W2->zj prog f cap ak Pre Fin (λ_=>False) RO W2)
include f aF rP hlen sA
theorem n1o:Calls prog 152 #[bS,.func (.func f) #[] cap.toArray] w (λe w'=>∃xs,Fin xs/\nv w ak 1 3 xs id e w'):=by
 refine Im Gh.no [] (vs:=[_,_]) func152 rfl ntmps152 rfl (AX w) ?_;refine B 2 ?_;refine P4 rfl rfl rfl ?_;refine yW ?_;intro b2 cL cR;refine B 10 ?_;refine Xd (f:=f) (cap:=cap) (α:=Int) (enc:=ak) (Pre:=Pre) (Fin:=Fin) (RO:=RO) (MI:=λ_=>False) rfl aF (λW W2 hS hB=>sA W2 ((hS.links w A0).below (by simp only[jv,kS,ft,jc,or_false,Gh.no,false_or];omega) |>.trans (hB.mono (hS.links w A0).size))) (λ_ _ _ hk=>hk.elim) (λW hS k hk=>by have h1:=rP k hk;have h2:=(hS.links w A0).size;exact⟨by omega,by simp only[jv,kS,ft,jc,or_false];omega,λh=>h⟩) (λ_=>rfl) (λpre G' Hc=>G'=Gh.no/\∃r:Rw,r.Fr Gh.no [w]/\r.Fit 1 pre/\Hc=[(b2,oC #[r.val pre.length] 96)]++(r.hp ak 3 pre++[])) (λ_ _ _=>False) ⟨rfl,.nil,True.intro,rfl,rfl⟩ zF ?_ ?_ ?_
 ·rintro pre x G' Hc l Dk rec W1 M V Wy pJ ui gX ⟨rfl,r,aB,af,rfl⟩ fM jA Np vE cI Io;simp only[ah]at fM vE;have bW:r.ge w.heap.size:=Rw.ge_of aB A0;have hpl:=hlen _ gX;simp only[eU,kb,oe]at hpl;have YT:∀p∈r.hp ak 3 pre,M p.1\/V p.1:=λp hp=>cI.loc.h p zVc;refine UE ?_;refine B 4 ?_;refine uC ?_;refine yW ?_;intro iK gC iS;refine jf (r:=r) (xs:=pre) (zs:=[x]) (enc:=ak) (m:=1) (H0:=[(iK,oC #[ab x] 3),(b2,oC #[r.val pre.length] 96)]) (H1:=(l,.loop {rec with state:=.busy})::eV Dk) IA vY nh rfl rfl rfl rfl (bN.one (z:=x) nh v7 underlying96 (bL.own (i:=0) rfl)) af (Rw.Fr_ext YT) zP vn ?_;intro jk QU Dl sd yh;replace sd:=yb sd;refine B 3 ?_;refine lx ?_;refine Jk (G2:=Gh.no) (Hc2:=[(b2,oC #[(Rw.row jk QU Dl).val (pre++[x]).length] 96)]++((Rw.row jk QU Dl).hp ak 3 (pre++[x])++[])) cI jA ⟨λ_ h=>h,λ_ h=>.inl h,λ_ h=>.inl h,(nej rfl (sd.imp id (λh=>h.1))),zpd⟩ (Jl pJ ui) ?_;exact⟨rfl,.row jk QU Dl,sd.elim (λh=>Rw.Fr_at aB h) (λh=>.inr h.2),yh,rfl⟩
 ·rintro J l Dk rec G' Hc cC fM jA ⟨rfl,r,aB,af,rfl⟩;replace fM:=yb fM;have bW:r.ge w.heap.size:=Rw.ge_of aB A0;refine YU λWd vf=>?_;have pj:=Vf vf;refine B 9 ?_;have hq:=λ(k:Nat)=>Rw.mem_ge (enc:=ak) (t:=3) (xs:=J) (k:=k) bW;refine PJ.reH (H':=(b2,oC #[r.val J.length] 96)::(r.hp ak 3 J++(l,.loop rec)::eV Dk)) (zYBb) ?_;refine Bu (.inl rfl) zP λa W H' hF hS cB di=>?_;refine⟨_,by rw[results_tmp results152];exact congrArg (λu=>Result.ok u W) (hF 4 _ rfl),J,cC,r,rfl,?_,bW,af,?_⟩
  ·refine(hS.links w A0).below λk hk hx=>?_;exact zqj
  cases r with
  |nil=>trivial
  |row b cap sp=>exact hS.own _ (cB (b,cT ak 3 J sp) qw (pj _ qw).1)
 exact Xe
theorem n1f:Calls prog 111 #[.func (.func f) #[] cap.toArray] w (λe w'=>∃xs,Fin xs/\nv w ak 1 3 xs id e w'):=by
 refine cH 8 func111 ntmps111 ?_;refine Y4 (enc:=ak) (m:=1) (t:=3) (Fin:=Fin) (v:=id) call152 rfl rfl rfl (λW hS=>n1o aF W (λk hk=>oh (rP k hk) (hS.links w A0).size) hlen (λW2 hB=>sA W2 (((hS.links w A0).below Vk).trans (hB.mono (hS.links w A0).size)))) ?_;intro xs r cC aB af;refine B 4 ?_;exact bH (.inl rfl) results111 aL λW hS=>⟨xs,cC,r,rfl,hS.base A0 YV,Rw.ge_of aB A0,af,by cases r with|nil=>exact True.intro|row b cap sp=>exact hS.own _ A0⟩
theorem nzn(ys:List Int)(Cn:∀xs,Fin xs->eR xs=ys/\xs.length<=100000):Calls prog 368 #[.func (.func f) #[] cap.toArray] w (nv w ak 1 3 ys id):=by
 refine cH 8 func368 ntmps368 ?_;refine Y4 (enc:=ak) (m:=1) (t:=3) (Fin:=Fin) (v:=id) call111 rfl rfl rfl (λW hS=>n1f aF W (λk hk=>oh (rP k hk) (hS.links w A0).size) hlen (λW2 hB=>sA W2 (((hS.links w A0).below Vk).trans (hB.mono (hS.links w A0).size)))) ?_;intro xs r cC aB af;obtain⟨J,de⟩:=Cn xs cC;have bW:=Rw.ge_of aB A0;refine B 6 ?_;refine ID (r:=r) (enc:=ak) (m:=1) (t:=3) (xs:=xs) (ys:=eR xs) (H0:=[]) (H1:=[]) (v:=λ_=>.tuple #[]) rfl call99 rfl rfl rfl (λhr W _=>by subst hr;exact njq af W) (λb cap sp hr W _ h=>by subst hr;exact YW aa af h) ?_;intro r2 dE uz pT pr;have ei:=uz aB;have eX:=pT _ bW;refine B 9 ?_;subst J;exact nB (H0:=[]) (H1:=[]) (r:=r2) (.inl rfl) results368 aL A0 (by rw[dG];exact Rw.over (Rw.ge_of ei A0)) (by show r.val _=r2.val _;rw[<-pr,Kk]) dE (Rw.ge_of ei A0) zP
end
theorem ntm(J:Nat)(W:World)(aW:W.heap[J]? =some (oC #[.map none] 399)):zj prog 400 [ptr J 0] ak (λp=>p.length<=0) (λxs=>xs=[]) (λ_=>False) (λk=>k=J) W:=by
 intro l M I X0 hM hI hX hy h0;have bJ:¬(dI hM (λ_=>False) (hI [] _)).X J:=by rintro(h|h);exact(hM _ h).2.2 rfl;exact h.elim
 refine zxg ?_;refine B 3 ?_;refine Y5 underlying399 rfl rfl rfl ?_;intro rb we Y3;replace we:=yb we;refine B 3 ?_;refine CJ.lp (α:=Nat) [0,5] (λp=>[]) (λp=>[(rb,.mapIter none 0 #[] 0)]) (λp=>True) (λp=>0) 0 True.intro ?_;rintro p _;refine B 2 ?_;refine QV (i:=0) rfl rfl rfl rfl ?_;refine B 9 ?_;exact CZ (.inr rfl) results400 A0 (λ_ h=>h.elim) z9b (λA hA=>.inl ⟨[],rfl,hA⟩)
def lb (kv:List (Int×Int)):List Nd:=(eR (kv.map (·.1))).map λk=>⟨k,(al kv k).getD 0⟩
theorem Vl:mD prog 82 325 2:=⟨underlying82,Tryz.t325,.agg #[ab 0,ab 0],Ed,rfl,rfl,rfl,by decide⟩
theorem Rw.val_one2(n:Nat)(r:Rw):rK [r.val n]=true:=by cases r<;>rfl
theorem niq{β:Type}(f:Int->β){xs:List Int}{x:Int}(hx:xs[j]? =some x):(xs.take (j+1)).map f=(xs.take j).map f++[f x]:=by rw[nk hx];simp
theorem QW(o:Option Int):(o.map ab).getD (ab 0)=ab (o.getD 0):=by simp
theorem nkh(lf:kv.length<=100000)(mb:Nat)(m:Mp)(hm:m.Ok kv)(w:World)(kF:w.heap[mb]? =some (m.obj ab kv)):Calls prog 345 #[.map (some mb)] w (nv w dD 2 325 (lb kv) (λs=>.agg #[s])):=by
 have xZ:=(bO.1 kF).1;have cq:(eR (kv.map (·.1))).length=kv.length:=by rw[Kk,jg]
 refine eN func345 ntmps345 ?_;refine bD 3 ?_;intro b2 cL cR;refine B 6 ?_;refine ny (α:=Nat) (v:=λb:Nat=>.func (.func 400) #[] #[ptr b 0]) (Φ:=λ(W:World) (b:Nat) (w1:World)=>W.heap.size<=b/\w1.heap[b]? =some (oC #[.map (some mb)] 399)) call369 rfl rfl rfl (λW hS=>nnm (some mb) W) ?_;rintro Wk bk wk Ak Kr ⟨QX,yi⟩;try dsimp only at QX yi
 have Y6:=Ak.under;replace Y6:=yf Y6;have bR:=(bO.1 yi).1;have Y7:=Ak.sizes;replace Y7:=yb Y7;have cx:=Kr.size;refine nN (enc:=ak) (m:=1) (t:=3) (xs:=eR (kv.map (·.1))) (v:=id) (first:=[]) (cap:=[]) rfl call368 rfl rfl rfl nh (λW hS=>nzn (f:=400) (cap:=[ptr bk 0]) (Pre:=λp=>p.length<=kv.length) (Fin:=λxs=>xs.Perm (kv.map (·.1))) (RO:=λk=>k=bk\/k=mb) call400 W ?_ ?_ ?_ _ ?_) ?_
 ·intro k hk;have h1:=(hS.links wk A0).size;rcases hk with rfl|rfl<;>omega
 ·intro p hp;have:p.length<=kv.length:=hp;omega
 ·intro W2 hB;exact nds mb bk m hm W2 (zY0) (by rw[hB.block mb (by have:=(hS.links w A1).size;omega)];exact hS.old A1 kF zL zD)
 ·intro xs hx;exact⟨nMr hx,by rw[hx.length_eq,jg];exact lf⟩
 intro Ws a7 QY ws Y8 aR gv jP;have Y9:=Y8.sizes;replace Y9:=yb Y9;have IG:=aR.size;have Za:=Y8.under;replace Za:=yf Za;refine B 5 ?_;refine CJ.lp (α:=Rw×Nat) [0,2,7,8] (λp=>[(9,ab (p.2:Int))]) (λp=>[(b2,oC #[p.1.val (((eR (kv.map (·.1))).take p.2).map (λk=>(⟨k,(al kv k).getD 0⟩:Nd))).length] 84)]++(p.1.hp dD 325 (((eR (kv.map (·.1))).take p.2).map (λk=>(⟨k,(al kv k).getD 0⟩:Nd)))++[])) (λp=>p.2<=(eR (kv.map (·.1))).length/\p.1.Fr Gh.no [ws,wk,w]/\p.1.Fit 2 (((eR (kv.map (·.1))).take p.2).map (λk=>(⟨k,(al kv k).getD 0⟩:Nd)))) (λp=>(eR (kv.map (·.1))).length-p.2) (.nil,0) ⟨cd _,True.intro,rfl⟩ ?_;rintro⟨r,j⟩ ⟨hj,aB,af⟩;dsimp only at hj aB af ⊢;have bW:r.ge ws.heap.size:=Rw.ge_of aB A0;refine av 6 ?_ ?_
 ·intro ai;refine B 5 ?_;obtain⟨bo,oo,cs0,to,dR,rfl,dW,hcs,ay⟩:=gv.get aa;obtain⟨x,hx⟩:=ng (eR (kv.map (·.1))) j aa;have aD:=jP _ rfl;dsimp only at aD;refine B 2 ?_;refine rx (ad (v:=ab x) isAgg3 rfl A0 hcs zL zD (by have:=nI (enc:=λx=>(ak x).toArray) (n:=1) ay hx rfl zF;simpa[ak]using this)) ?_;refine B 9 ?_;refine rq (ab ((al kv x).getD 0)) (uG (ev:=ab) underlying399 underlying3 zeroValue3 hm (bL.old A2 kF zL zD) rfl rfl) (QW _) ?_;refine B 1 ?_;refine zlg ?_;refine yW ?_;intro lg sC b0;refine jf (r:=r) (xs:=(((eR (kv.map (·.1))).take j).map (λk=>(⟨k,(al kv k).getD 0⟩:Nd)))) (zs:=[(⟨x,(al kv x).getD 0⟩:Nd)]) (enc:=dD) (m:=2) (H0:=[(lg,oC #[ab x,ab ((al kv x).getD 0)] 325),(b2,oC #[r.val (((eR (kv.map (·.1))).take j).map (λk=>(⟨k,(al kv k).getD 0⟩:Nd))).length] 84)]) (H1:=[]) IA Vl tB rfl rfl rfl rfl (bN.one (z:=(⟨x,(al kv x).getD 0⟩:Nd)) tB Vh underlying82 (bL.own (i:=0) rfl)) af aB zP (by simp only[jg,oK,kb,oe];omega) ?_;intro qp yj yk J qO;replace J:=yb J;refine B 1 ?_;refine lG (i:=1) rfl sizeOf82 rfl rfl rfl rfl (fy rfl) rfl ?_;refine xY ?_;refine PJ.again (Rw.row qp yj yk,j+1) ⟨by dsimp only;omega,J.elim (λh=>Rw.Fr_at aB h) (λh=>.inr h),by rw[niq (λk=>(⟨k,(al kv k).getD 0⟩:Nd)) hx];exact qO⟩ zZ zR (by rw[niq (λk=>(⟨k,(al kv k).getD 0⟩:Nd)) hx];rfl) rfl zP
 intro ai;refine B 6 ?_;have cN:(eR (kv.map (·.1))).take j=eR (kv.map (·.1)):=lE aa;rw[cN]at af ⊢;refine B 2 ?_;refine Vm ?_;refine B 3 ?_;exact nB (H0:=[(b2,oC #[r.val ((eR (kv.map (·.1))).map (λk=>(⟨k,(al kv k).getD 0⟩:Nd))).length] 84)]) (H1:=[]) (r:=r) (.inl rfl) results345 aL A2 (by simp only[dG,gU,fP,eI,Over];exact⟨by omega,Rw.over (Rw.ge_of aB A2)⟩) rfl af (Rw.ge_of aB A2) (by simp[Value.cells,lb])
theorem nhg(w:World):Calls prog 345 #[.map none] w (nv w dD 2 325 [] (λs=>.agg #[s])):=by
 refine eN func345 ntmps345 ?_;refine bD 3 ?_;intro b2 cL cR;refine B 6 ?_;refine ny (α:=Nat) (v:=λb:Nat=>.func (.func 400) #[] #[ptr b 0]) (Φ:=λ(W:World) (b:Nat) (w1:World)=>W.heap.size<=b/\w1.heap[b]? =some (oC #[.map none] 399)) call369 rfl rfl rfl (λW hS=>nnm none W) ?_;rintro Wk bk wk Ak Kr ⟨QX,yi⟩;try dsimp only at QX yi
 have Y6:=Ak.under;replace Y6:=yf Y6;have bx:=(bO.1 yi).1;have Y7:=Ak.sizes;replace Y7:=yb Y7;have bu:=Kr.size;refine nN (enc:=ak) (m:=1) (t:=3) (xs:=[]) (v:=id) (first:=[]) (cap:=[]) rfl call368 rfl rfl rfl nh (λW hS=>nzn (f:=400) (cap:=[ptr bk 0]) (Pre:=λp=>p.length<=0) (Fin:=λxs=>xs=[]) (RO:=λk=>k=bk) call400 W ?_ ?_ ?_ [] ?_) ?_
 ·intro k hk;have h1:=(hS.links wk A0).size;subst hk;omega
 ·intro p hp;omega
 ·intro W2 hB;exact ntm bk W2 (zY0)
 ·intro xs hx;exact(by subst hx;exact⟨by simp[eR],by simp⟩)
 intro Ws a7 QY ws Y8 J gv jP;have Y9:=Y8.sizes;replace Y9:=yb Y9;have IG:=J.size;have Za:=Y8.under;replace Za:=yf Za;refine B 5 ?_;refine CJ.lp (α:=Nat) [2,8,9] (λp=>[]) (λp=>[(b2,oC #[bS] 84)]) (λp=>True) (λp=>0) 0 True.intro ?_;rintro p _;refine aV 2 aO ?_;refine B 16 ?_;exact nB (H0:=[(b2,oC #[bS] 84)]) (H1:=[]) (r:=.nil) (.inl rfl) results345 aL A2 zRc rfl rfl True.intro rfl
def En (kv:List (Int×Bool)) (n:Int):List (Int×Bool):=cJ kv n true
def Zb (kv:List (Int×Bool)) (d:Int):List (Int×Bool):=(da d).foldl En (cJ kv (512+d) true)
def vq (ds:List Int):List (Int×Bool):=ds.foldl Zb []
theorem n9n{ds:List Int}(hx:ds[j]? =some d):vq (ds.take (j+1))=Zb (vq (ds.take j)) d:=by simp_all[nk,vq]
theorem nLn{l:List Int}(hx:l[i]? =some n)(kv:List (Int×Bool)):(l.take (i+1)).foldl En kv=cJ ((l.take i).foldl En kv) n true:=by simp_all[nk,En]
theorem Ks(l:List Int)(i:Nat)(h:¬i<l.length)(kv:List (Int×Bool)):(l.take i).foldl En kv=l.foldl En kv:=by grind [List.take_of_length_le]
theorem Kt(l:List Int)(i:Nat)(h:¬i<l.length):vq (l.take i)=vq l:=by grind [List.take_of_length_le]
def BA (ns:List Nd) (i:Nat) (x:Nd):Prop:=1<=x.at_/\x.at_<=1023/\(∀y,0<i->ns[i-1]? =some y->y.at_<x.at_)/\dr x.pub/\al (vq (dX ns)) x.at_=some true
def mE (ns:List Nd):Prop:=∀i x,ns[i]? =some x->BA ns i x
def yl (ns:List Nd) (j:Nat):Prop:=∀i x,i<j->ns[i]? =some x->BA ns i x
open Classical in
noncomputable def fX (ns:List Nd):Int:=if mE ns then 0 else 210
theorem QZ(h:mE ns):fX ns=0:=by grind [fX]
theorem BB:fX ns=0↔mE ns:=by grind [fX]
theorem nti(ns:List Nd):fX ns=0\/fX ns=210:=by grind [fX]
theorem nOd(h:yl ns j)(hj:¬j<ns.length):0=fX ns:=by
 rw[QZ]
 grind [mE,yl]
theorem nX(hx:ns[j]? =some x)(h:¬BA ns j x):210=fX ns:=by
 unfold fX;grind [mE,BA]
theorem yl.next(h:yl ns j)(hx:ns[j]? =some x)(hk:BA ns j x):yl ns (j+1):=by
 grind [yl,BA]
theorem nKi{zs:List Int}{x:Int}(h:x∈Go.Lib.compact zs):x∈zs:=by
 grind [Go.Lib.compact,Go.Lib.compactUpTo]
theorem Ku(h:d∈dX ns):bM d:=by
 have h1:=nKi h;have h2:=(List.mergeSort_perm (oM ns) _).mem_iff.1 h1;obtain⟨n,hn,rfl⟩:=dO.1 h2
 grind
theorem n6n(d:Int):(da d).length<=(512+d).toNat:=by grind [da,n0k]
theorem nxl(o:Option Bool):(o.map Value.bool).getD (aO)= .bool (o.getD false):=by simp
theorem nnd(o:Option Bool):o.getD false=true↔o=some true:=by cases o<;>simp
theorem nYb(ns:List Nd)(hn:ns.length<=100000)(N:Nat)(a:Option Addr)(cp:Nat)(w:World)(hN:N<=w.heap.size)(aA:aj dJ 2 N w a ns):Calls prog 326 #[.agg #[.slice a ns.length cp]] w (ar w (ab (fX ns))):=by
 have pO:=nlo ns;refine eN func326 ntmps326 ?_;refine aU 2 ?_;intro b1 w1 aW bJ eO dC fg;refine B 5 ?_;refine Kq Value.bool rfl rfl ?_;refine yW ?_;intro jw qM Bg;refine Vn ?_;refine nN (enc:=ak) (m:=1) (t:=3) (xs:=dX ns) (v:=id) (first:=[]) (cap:=[]) rfl call330 rfl rfl rfl nh (λW hS=>ncc ns hn N a cp W aT (aA.us hS.sm)) ?_;intro Wm am bw wm wh Q0 qP Zc;have Zd:=wh.sizes;replace Zd:=yb Zd;have hzm:=Q0.size;have Ze:=wh.under;replace Ze:=yf Ze;refine B 5 ?_;refine CJ.lp (α:=Mp×Nat) [1,3,14,15] (λp=>[(16,ab (p.2:Int))]) (λp=>[(jw,p.1.obj Value.bool (vq ((dX ns).take p.2)))]) (λp=>p.2<=(dX ns).length/\p.1.Ok (vq ((dX ns).take p.2))) (λp=>(dX ns).length-p.2) (⟨[],0⟩,0) ⟨cd _,Mp.nil⟩ ?_;rintro⟨m,j⟩ ⟨hj,hm⟩;dsimp only at hj hm ⊢;refine av 6 ?_ ?_
 ·intro ai;refine B 5 ?_;obtain⟨bm,om,bR,tm,bx,rfl,jQ,aq,J⟩:=qP.get aa;have pj:=Zc _ rfl;dsimp only at pj;obtain⟨d,hx⟩:=ng (dX ns) j aa;have hd:=Ku (cF hx);have bz:=hd.1;have vZ:=hd.2;have hpl:=n6n d;refine B 2 ?_;refine rx (ad (v:=ab d) isAgg3 rfl A0 aq zL zD (by have:=nI (enc:=λx=>(ak x).toArray) (n:=1) J hx rfl zF;simpa[ak]using this)) ?_;refine B 6 ?_;refine zle ?_;intro Wp ap qQ wp BC Q1 oN tC;have wj:=BC.sizes;replace wj:=yb wj;have bu:=Q1.size;have wo:=BC.under;replace wo:=yf wo;refine B 12 ?_;refine N3 (i:=0) (ev:=Value.bool) (v:=true) rfl hm underlying409 underlying3 rfl rfl rfl rfl ?_;intro m2 bj;refine B 10 ?_;refine CJ.lp (α:=Mp×Nat) [1,3,14,15,16,28,29] (λp=>[(30,ab (p.2:Int))]) (λp=>[(jw,p.1.obj Value.bool (((da d).take p.2).foldl En (cJ (vq ((dX ns).take j)) (512+d) true)))]) (λp=>p.2<=(da d).length/\p.1.Ok (((da d).take p.2).foldl En (cJ (vq ((dX ns).take j)) (512+d) true))) (λp=>(da d).length-p.2) (m2,0) ⟨cd _,bj⟩ ?_;rintro⟨mi,i⟩ ⟨hi,ym⟩;dsimp only at hi ym ⊢;refine av 6 ?_ ?_
  ·intro ax;refine B 5 ?_;obtain⟨bq,oq,Q2,tq,Q3,rfl,hbq,pU,pV⟩:=oN.get aa;have Eo:=tC _ rfl;dsimp only at Eo;obtain⟨n,hy⟩:=ng (da d) i aa;refine B 2 ?_;refine zif ?_;refine B 6 ?_;refine N3 (i:=0) (ev:=Value.bool) (v:=true) rfl ym underlying409 underlying3 rfl rfl rfl rfl ?_;intro m3 aZ;refine B 7 ?_;refine PJ.again (m3,i+1) ⟨by dsimp only;omega,by rw[nLn hy];exact aZ⟩ zZ zR (by rw[nLn hy];rfl) rfl zP
  intro ax;refine B 6 ?_;have eD:((da d).take i).foldl En (cJ (vq ((dX ns).take j)) (512+d) true)=Zb (vq ((dX ns).take j)) d:=by rw[Ks _ _ aa];rfl
  rw[eD]at ym ⊢;refine B 4 ?_;refine PJ.again (mi,j+1) ⟨by dsimp only;omega,by rw[n9n hx];exact ym⟩ zZ zR (by rw[n9n hx]) rfl zP
 intro ai;refine B 7 ?_;have cN:=Kt (dX ns) j aa;rw[cN]at hm ⊢;refine B 2 ?_;refine zEf ?_;refine B 5 ?_;refine CJ.lp (α:=Nat) [1,3,39,40] (λj=>[(41,ab (j:Int))]) (λj=>[(jw,m.obj Value.bool (vq (dX ns)))]) (λj=>j<=ns.length/\yl ns j) (λj=>ns.length-j) 0 ⟨cd _,λi x hi=>absurd hi aa⟩ ?_;rintro j ⟨hj,bT⟩;refine av 6 ?_ ?_
 ·intro bY;refine B 5 ?_;obtain⟨bo,oo,cs0,to,dR,rfl,dW,hcs,ay⟩:=aA.get aa;obtain⟨x,hx⟩:=ng ns j aa;refine B 3 ?_;refine zxi ?_;refine yW ?_;intro jk lN vH;refine B 5 ?_;by_cases h1:x.at_<1
  ·refine eA 34 (sp:=(_::_::(some aK)::_)) (k:=?_);exact Zg
  by_cases h2:1023<x.at_
  ·refine eA 34 (sp:=(_::_::(some aO)::_::_::_::(some aK)::_)) (k:=?_);exact Zg
  obtain⟨e,he⟩:∃e,(if dr x.pub then(0:Int)else 40)=e:=⟨_,rfl⟩;by_cases h3:j=0/\¬e=0
  ·refine eA 34 (pb:=by exact zU 27 (k:=zYl)) (sp:=(_::_::(some aO)::_::_::_::(some aO)::_::_::_::(some aO)::_)) (k:=?_);exact Zg
  by_cases h4:j=0
  ·refine eA 34 (pb:=by exact zU 27 (k:=zYm)) (sp:=(_::_::(some aO)::_::_::_::(some aO)::_::_::_::(some aO)::_)) (k:=?_);refine zkf ?_;refine av 4 ?_ ?_
   ·intro ez;refine B 11 ?_;exact zFi
   intro ez;exact zIj
  obtain⟨y,hy⟩:=ng ns (j-1) aa;by_cases h5:x.at_<=y.at_
  ·refine eA 34 (pb:=by exact zU 20 (k:=by exact qv (ad (v:=ab y.at_) isAgg3 rfl A2 hcs zL zD Vo) zT)) (sp:=[_,_,some aO,_,_,_,some aO,_,_,_,some aK,_,_,_,_,some (.slice (some ⟨bo,oo,none⟩) ns.length cp),_,_,_,_,_,some aK,_,_,_,_,_,_,_,_,_,_,_,_]) (k:=?_);exact Zg
  by_cases h6:¬e=0
  ·refine eA 34 (pb:=by exact zU 20 (k:=by exact qv (ad (v:=ab y.at_) isAgg3 rfl A2 hcs zL zD Vo) (zU 6 (k:=zYl)))) (sp:=[_,_,some aO,_,_,_,some aO,_,_,_,some aK,_,_,_,_,some (.slice (some ⟨bo,oo,none⟩) ns.length cp),_,_,_,_,_,some aO,_,_,_,_,_,_,_,_,_,_,_,_]) (k:=?_);exact Zg
  refine eA 34 (pb:=by exact zU 20 (k:=by exact qv (ad (v:=ab y.at_) isAgg3 rfl A2 hcs zL zD Vo) (zU 6 (k:=zYm)))) (sp:=[_,_,some aO,_,_,_,some aO,_,_,_,some aK,_,_,_,_,some (.slice (some ⟨bo,oo,none⟩) ns.length cp),_,_,_,_,_,some aO,_,_,_,_,_,_,_,_,_,_,_,_]) (k:=?_);refine zkf ?_;refine av 4 ?_ ?_
  ·intro eB;refine B 11 ?_;exact zFi
  intro eB;exact zIj
 intro bY;refine B 11 ?_;exact zFi
def ik (kv:List (Int×Int)) (n:Int):List (Int×Int):=gR kv n
def mF (kv:List (Int×Int)) (d:Int):List (Int×Int):=(da d).foldl ik (ik kv (512+d))
theorem n9g{l:List Int}(hx:l[i]? =some n)(kv:List (Int×Int)):(l.take (i+1)).foldl ik kv=gR ((l.take i).foldl ik kv) n:=by simp_all[nk,ik]
theorem n8p{l:List Int}(h:¬i<l.length)(kv:List (Int×Int)):(l.take i).foldl ik kv=l.foldl ik kv:=by grind [List.take_of_length_le]
theorem Zh(kv:List (Int×Int))(d:Int):(mF kv d).length<=kv.length:=by
 have key:∀(l:List Int) (kv:List (Int×Int)),(l.foldl ik kv).length<=kv.length:=by
  intro l;induction l with
  |nil=>simp
  |cons n l ih=>grind [ndj,ik]
 grind [ndj,mF,ik]
theorem nji(kv:List (Int×Int)):(lb kv).length=kv.length:=by grind [lb,Kk]
section
variable (ns:List Nd)(hn:ns.length<=100000)(N:Nat)(a:Option Addr)(cp:Nat)(w:World)(hN:N<=w.heap.size)(aA:aj dJ 2 N w a ns)
include hn cp hN aA
theorem n3g(fe:fX ns=210)(d:Int)(mem:Bool):Calls prog 343 #[.agg #[.slice a ns.length cp],ab d,.bool mem] w (ar w (.tuple #[.map none,bS,ab 210])):=by
 refine eN func343 ntmps343 ?_;refine aU 2 ?_;intro b3 w3 bQ aZ J cP dt;refine B 8 ?_;refine zpg ?_;refine B 6 ?_;refine Bf ?_;exact aS (.inl rfl) results343 aL A1 trivial rfl
theorem n9l(fe:fX ns=0)(d:Int)(hd:bM d)(iL:al (bh ns) (512+d)=none):Calls prog 343 #[.agg #[.slice a ns.length cp],ab d,aK] w (ar w (.tuple #[.map none,bS,ab 200])):=by
 have aq:=hd.1;have vZ:=hd.2;refine eN func343 ntmps343 ?_;refine aU 2 ?_;intro b3 w3 bQ aZ dK cP dt;refine B 8 ?_;refine zXh ?_;refine xf ?_;refine Al ?_;refine zYe ?_;intro bf m J YS hm;replace J:=yb J;refine zcg ?_;refine Ve ?_;refine bX aO ?_;refine B 5 ?_;refine rq aK (ij rfl) (by rw[iL];rfl) ?_;refine B 14 ?_;exact aS (.inl rfl) results343 aL A1 vF rfl
theorem n3f(fe:fX ns=0)(d:Int)(hd:bM d)(mem:Bool)(mG:mem=true->(al (bh ns) (512+d)).isSome=true):Calls prog 343 #[.agg #[.slice a ns.length cp],ab d,.bool mem] w (N7 w ab (mF (bh ns) d) ak 1 (da d) (λmp s=>.tuple #[mp,s,ab 0])):=by
 have a8:=hd.1;have vZ:=hd.2;have hpl:=n6n d;refine eN func343 ntmps343 ?_;refine aU 2 ?_;intro b3 w3 bQ aZ dK cP dt;refine B 8 ?_;refine zXh ?_;refine xf ?_;refine Al ?_;refine zYe ?_;intro bf m Ep YS hm;replace Ep:=yb Ep;refine zcg ?_;refine Ve ?_;refine Cr ?_;refine nf (t:=37) rfl (λai=>?_) (λai=>?_)
 ·replace ai:=ya ai;refine B 1 ?_;refine rq aO (ij rfl) (vb (by rw[mG ew];rfl)) ?_;refine B 10 ?_;refine zle ?_;intro Wp ap qQ wp BC Q1 oN tC;have wj:=BC.sizes;replace wj:=yb wj;have aR:=Q1.size;have J:=BC.under;replace J:=yf J;refine B 9 ?_;refine Xt ?_;refine B 8 ?_;refine zDe ?_;intro m1 bJ;refine B 11 ?_;refine zie ?_;rintro⟨mi,i⟩ ⟨hi,ym⟩;dsimp only at hi ym ⊢;refine av 6 ?_ ?_
  ·intro ax;exact zaj
  intro ax;exact z5i
 replace ai:=ya ai;refine B 12 ?_;refine zle ?_;intro Wp ap qQ wp BC Q1 oN tC;have wj:=BC.sizes;replace wj:=yb wj;have aR:=Q1.size;have J:=BC.under;replace J:=yf J;refine B 9 ?_;refine Xt ?_;refine B 8 ?_;refine zDe ?_;intro m1 bJ;refine B 11 ?_;refine zie ?_;rintro⟨mi,i⟩ ⟨hi,ym⟩;dsimp only at hi ym ⊢;refine av 6 ?_ ?_
 ·intro bY;exact zaj
 intro bY;exact z5i
theorem Kv(fe:fX ns=210)(d p:Int):Calls prog 347 #[.agg #[.slice a ns.length cp],ab d,ab p] w (nv w dD 2 325 [] (λs=>.tuple #[.agg #[s],ab 210])):=by
 refine eN func347 ntmps347 ?_;refine aU 2 ?_;intro b3 w3 bQ aZ dK cP dt;refine bD 1 ?_;intro b6 jb J;refine N8 ?_;refine cl call343 rfl (λW hS=>n3g ns hn N a cp W aT (aA.us hS.sm) fe d false) ?_;refine B 13 ?_;refine Bf ?_;exact nB (enc:=dD) (m:=2) (t:=325) (xs:=[]) (H0:=_) (H1:=[]) (r:=.nil) (.inl rfl) results347 aL A1 zKc rfl rfl True.intro (dG _).symm
theorem Kx(fe:fX ns=0)(d p:Int)(hd:bM d)(J:(if dr p then(0:Int)else 40)=40):Calls prog 347 #[.agg #[.slice a ns.length cp],ab d,ab p] w (nv w dD 2 325 [] (λs=>.tuple #[.agg #[s],ab 50])):=by
 have bu:=hd.1;have vZ:=hd.2;refine eN func347 ntmps347 ?_;refine aU 2 ?_;intro b3 w3 bQ aZ dK cP dt;refine bD 1 ?_;intro b6 jb od;refine N8 ?_;refine zXe ?_;intro bm m a8 Er Wc wc Am IH Q4 yn qR yo hm pW BD;replace qR:=yb qR;simp only[cu,and_true]at yo;have wu:=IH.size;have Es:=Am.sizes;replace Es:=yb Es;have Et:=Am.under;replace Et:=yf Et;refine B 13 ?_;refine Ce ?_;refine cl call43 rfl (λW hS=>by rw[<-J];exact nQ p W) (v:=ab 40) ?_;refine DM ?_;exact nB (enc:=dD) (m:=2) (t:=325) (xs:=[]) (H0:=_) (H1:=[]) (r:=.nil) (.inl rfl) results347 aL A2 zKc rfl rfl True.intro (dG _).symm
theorem Q5(fe:fX ns=0)(d p:Int)(hd:bM d)(xG:ns.length<100000)(J:(if dr p then(0:Int)else 40)=0):Calls prog 347 #[.agg #[.slice a ns.length cp],ab d,ab p] w (nv w dD 2 325 (lb (cJ (mF (bh ns) d) (512+d) p)) (λs=>.tuple #[.agg #[s],ab 0])):=by
 have bu:=hd.1;have vZ:=hd.2;refine eN func347 ntmps347 ?_;refine aU 2 ?_;intro b3 w3 bQ aZ dK cP dt;refine bD 1 ?_;intro b6 jb od;refine N8 ?_;refine zXe ?_;intro bm m a8 Er Wc wc Am IH Q4 yn qR yo hm pW BD;replace qR:=yb qR;simp only[cu,and_true]at yo;have wu:=IH.size;have Es:=Am.sizes;replace Es:=yb Es;have Et:=Am.under;replace Et:=yf Et;refine B 13 ?_;refine Ce ?_;refine cl call43 rfl (λW hS=>by rw[<-J];exact nQ p W) (v:=ab 0) ?_;refine U1 ?_;refine N3 (i:=0) (ev:=ab) (v:=p) rfl hm underlying399 underlying3 rfl rfl rfl rfl ?_;intro m2 bj;refine B 5 ?_;refine xg (enc:=dD) (m:=2) (t:=325) (xs:=lb (cJ (mF (bh ns) d) (512+d) p)) (v:=λs=>.agg #[s]) (first:=[]) (cap:=[]) rfl call345 rfl rfl rfl (λW hS=>nkh (by have h1:=Vi (mF (bh ns) d) (512+d) p;have h2:=Zh (bh ns) d;have h3:=Vj ns;omega) bm m2 bj W (hS.own _ A0)) ?_;intro r aB af;refine Vp ?_;refine B 4 ?_;exact nB (enc:=dD) (m:=2) (t:=325) (xs:=lb (cJ (mF (bh ns) d) (512+d) p)) (H0:=[(bm,m2.obj ab (cJ (mF (bh ns) d) (512+d) p)),(b6,oC #[r.val (lb (cJ (mF (bh ns) d) (512+d) p)).length] 84)]) (H1:=[]) (r:=r) (.inl rfl) results347 aL A2 zbc rfl af (Rw.ge_of aB A2) zyc
theorem nSq(fe:fX ns=210)(d:Int):Calls prog 346 #[.agg #[.slice a ns.length cp],ab d] w (nv w dD 2 325 [] (λs=>.tuple #[.agg #[s],ab 210])):=by
 refine eN func346 ntmps346 ?_;refine aU 2 ?_;intro b2 w2 bV bj dz cL cR;refine bD 1 ?_;intro b4 dL dP;refine zKh ?_;exact zuj
theorem n4r(fe:fX ns=0)(d:Int)(hd:bM d)(iL:al (bh ns) (512+d)=none):Calls prog 346 #[.agg #[.slice a ns.length cp],ab d] w (nv w dD 2 325 [] (λs=>.tuple #[.agg #[s],ab 200])):=by
 refine eN func346 ntmps346 ?_;refine aU 2 ?_;intro b2 w2 bV bj dz cL cR;refine bD 1 ?_;intro b4 dL dP;refine zzh ?_;exact zuj
theorem njs(fe:fX ns=0)(d:Int)(hd:bM d)(mG:(al (bh ns) (512+d)).isSome=true):Calls prog 346 #[.agg #[.slice a ns.length cp],ab d] w (nv w dD 2 325 (lb (mF (bh ns) d)) (λs=>.tuple #[.agg #[s],ab 0])):=by
 have a6:=hd.1;have vZ:=hd.2;refine eN func346 ntmps346 ?_;refine aU 2 ?_;intro b2 w2 bV bj dz cL cR;refine bD 1 ?_;intro b4 dL dP;refine N8 ?_;refine zZe ?_;intro bm m a8 Er Wc wc J IH Q4 yn qR yo hm pW BD;replace qR:=yb qR;simp only[cu,and_true]at yo;have wu:=IH.size;have Es:=J.sizes;replace Es:=yb Es;have Et:=J.under;replace Et:=yf Et;refine B 12 ?_;refine xg (enc:=dD) (m:=2) (t:=325) (xs:=lb (mF (bh ns) d)) (v:=λs=>.agg #[s]) (first:=[]) (cap:=[]) rfl call345 rfl rfl rfl (λW hS=>nkh (by have h2:=Zh (bh ns) d;have h3:=Vj ns;omega) bm m hm W (hS.own _ A0)) ?_;intro r aB af;refine B 1 ?_;refine Vp ?_;refine B 4 ?_;exact nB (enc:=dD) (m:=2) (t:=325) (xs:=lb (mF (bh ns) d)) (H0:=[(bm,m.obj ab (mF (bh ns) d)),(b4,oC #[r.val (lb (mF (bh ns) d)).length] 84)]) (H1:=[]) (r:=r) (.inl rfl) results346 aL A2 zbc rfl af (Rw.ge_of aB A2) zyc
end
theorem Q6(x:Int)(hx:dr x)(w:World):Calls prog 344 #[ab x] w (ar w (aO)):=by
 refine cH 8 func344 ntmps344 ?_;refine cl call43 rfl (λW hS=>by have:=nQ x W;rw[if_pos hx]at this;exact this) ?_;refine Cr ?_;refine ao results344 rfl A0 ?_;rfl
section
variable (w:World)(l:List Int)(kG:∀y∈l,dr y)(hl:l.length<=1000)(NP:Nat)(ap:Option Addr)(qQ:Nat)(lV:aj encI 1 NP w ap l)(Eu:NP<=w.heap.size)
include kG hl NP ap qQ lV Eu
theorem nWk:Calls prog 187 #[.slice ap l.length qQ,.func (.func 344) #[] #[]] w (ar w (ab (-1))):=by
 refine cH 14 func187 ntmps187 ?_;refine CJ.lp (α:=Nat) [0,1,7] (λj=>[(8,ab (j:Int))]) (λj=>[]) (λj=>j<=l.length) (λj=>l.length-j) 0 (cd _) ?_;rintro j hj;refine av 6 ?_ ?_
 ·intro ai;refine B 11 ?_;obtain⟨b0,Zi,cs0,t0,dR,rfl,J,fY,ay⟩:=lV.get aa;obtain⟨x,hx⟩:=ng l j aa;refine B 5 ?_;refine rx (ad (v:=ab x) isAgg3 rfl A0 fY zL trivial (nI ay hx rfl zF)) ?_;refine nU (f:=344) (cap:=[]) rfl call344 rfl rfl rfl (λW hS=>Q6 x (kG x (cF hx)) W) ?_;refine B 10 ?_;exact AY
 intro ai;refine B 11 ?_;refine ao results187 rfl A0 ?_;rfl
theorem nIi:Calls prog 134 #[.slice ap l.length qQ,.func (.func 344) #[] #[]] w (ar w (aO)):=by
 refine cH 9 func134 ntmps134 ?_;refine cl call187 rfl (λW hS=>nWk W l kG hl NP ap qQ (lV.us (hS.same A0 Eu zO trivial)) (dS Eu (hS.links w A0).size)) ?_;refine Cr ?_;refine ao results134 rfl A0 ?_;rfl
end
theorem nOp:∀(k n:Nat),2^k<=n->n<2^(k+1)->(ke n).length=k:=
 by intro x;induction x<;>(grind [Kf,Ag])
theorem nYl(hd:bM d):(da d).length=9:=by
 unfold da;rw[jg];exact nOp 9 _ aa aa
theorem npm(hd:bM d):(gu d).length=9:=by
 unfold gu;rw[jg];exact nOp 9 _ aa aa
def mH (kv:List (Int×Int)) (p:Int×Int):List (Int×Int):=cJ kv p.1 p.2
def pX (kv:List (Int×Int)) (d:Int) (l:List Int):List (Int×Int):=((da d).zip (l.drop 1)).foldl mH (cJ (mF kv d) (512+d) ((l[0]?).getD 0))
theorem nLl{z:List (Int×Int)}{v:Int}(hz:z[i]? =some (n,v))(kv:List (Int×Int)):(z.take (i+1)).foldl mH kv=cJ ((z.take i).foldl mH kv) n v:=by simp_all[nk,mH]
theorem Ev(z:List (Int×Int)):∀kv:List (Int×Int),(z.foldl mH kv).length<=kv.length+z.length:=by induction z<;>grind [mH,Vi]
theorem nDo(hd:bM d)(l:List Int):(pX kv d l).length<=kv.length+10:=by grind [pX,Ev,Vi,Zh,nYl]
theorem Q7{A B:List Int}{v:Int}(h1:A[i]? =some n)(h2:B[i+1]? =some v):(A.zip (B.drop 1))[i]? =some (n,v):=by grind
section
variable (ns:List Nd)(hn:ns.length<=100000)(N:Nat)(a:Option Addr)(cp:Nat)(w:World)(hN:N<=w.heap.size)(aA:aj dJ 2 N w a ns)
include hn cp hN aA
theorem nxs(fe:fX ns=210)(d:Int)(l:List Int)(kG:∀y∈l,dr y)(hl:l.length<=1000)(NP:Nat)(ap:Option Addr)(qQ:Nat)(lV:aj encI 1 NP w ap l)(Eu:NP<=w.heap.size):Calls prog 303 #[.agg #[.slice a ns.length cp],ab d,.slice ap l.length qQ] w (nv w dD 2 325 [] (λs=>.tuple #[.agg #[s],ab 210])):=by
 refine eN func303 ntmps303 ?_;refine aU 2 ?_;intro b3 w3 bQ aZ dK cP dt;refine bD 1 ?_;intro b6 jb J;refine zKh ?_;exact zZj
theorem Ew(fe:fX ns=0)(d:Int)(hd:bM d)(iL:al (bh ns) (512+d)=none)(l:List Int)(kG:∀y∈l,dr y)(hl:l.length<=1000)(NP:Nat)(ap:Option Addr)(qQ:Nat)(lV:aj encI 1 NP w ap l)(Eu:NP<=w.heap.size):Calls prog 303 #[.agg #[.slice a ns.length cp],ab d,.slice ap l.length qQ] w (nv w dD 2 325 [] (λs=>.tuple #[.agg #[s],ab 200])):=by
 refine eN func303 ntmps303 ?_;refine aU 2 ?_;intro b3 w3 bQ aZ dK cP dt;refine bD 1 ?_;intro b6 jb J;refine zzh ?_;exact zZj
theorem Ey(fe:fX ns=0)(d:Int)(hd:bM d)(mG:(al (bh ns) (512+d)).isSome=true)(l:List Int)(kG:∀y∈l,dr y)(hl:l.length<=1000)(NP:Nat)(ap:Option Addr)(qQ:Nat)(lV:aj encI 1 NP w ap l)(Eu:NP<=w.heap.size)(Zj:l.length=10)(xG:ns.length<90000):Calls prog 303 #[.agg #[.slice a ns.length cp],ab d,.slice ap l.length qQ] w (nv w dD 2 325 (lb (pX (bh ns) d l)) (λs=>.tuple #[.agg #[s],ab 0])):=by
 have bz:=hd.1;have vZ:=hd.2;have h9:=nYl hd;obtain⟨b0,Zi,cs0,t0,dR,rfl,cx,fY,ay⟩:=lV.get aa;obtain⟨x0,mI⟩:=ng l 0 aa;refine eN func303 ntmps303 ?_;refine aU 2 ?_;intro b3 w3 bQ aZ dK cP dt;refine bD 1 ?_;intro b6 jb od;refine N8 ?_;refine zZe ?_;intro bm m a8 Er Wc wc Am IH Q4 yn J yo hm pW BD;replace J:=yb J;simp only[cu,and_true]at yo;have wu:=IH.size;have Es:=Am.sizes;replace Es:=yb Es;have Et:=Am.under;replace Et:=yf Et;refine B 13 ?_;refine PD ?_;refine rq aO (aN rfl rfl) (by rw[Zj];rfl) ?_;refine B 2 ?_;refine cl call134 rfl (λW hS=>nIi W l kG hl NP _ qQ (lV.us (hS.same A2 Eu zO vF)) (dS Eu (hS.links w A2).size)) ?_;refine B 13 ?_;refine rx (ad (v:=ab x0) isAgg3 rfl A2 fY zL zD (nI ay mI rfl zF)) ?_;refine N3 (i:=0) (ev:=ab) (v:=x0) rfl hm underlying399 underlying3 rfl rfl rfl rfl ?_;intro m2 bj;refine B 11 ?_;refine CJ.loop (α:=Mp×Nat) (λp=>[(2,.slice (some ⟨b0,Zi,none⟩) l.length qQ),(6,ptr b6 0),(8,.map (some bm)),(37,.slice a8 (da d).length Er),(38,ab ((da d).length:Int)),(39,ab (p.2:Int))]) (λp=>[(bm,p.1.obj ab ((((da d).zip (l.drop 1)).take p.2).foldl mH (cJ (mF (bh ns) d) (512+d) ((l[0]?).getD 0)))),(b6,oC #[bS] 84)]) (λp=>[wc,w3,w]) (λp=>Gh.no) (λp=>p.2<=(da d).length/\p.1.Ok ((((da d).zip (l.drop 1)).take p.2).foldl mH (cJ (mF (bh ns) d) (512+d) ((l[0]?).getD 0)))) (λp=>(da d).length-p.2) (m2,0) ⟨cd _,by simpa[mI]using bj⟩ zR (by simp[mI,Value.cells]) rfl zP ?_
 rintro⟨mi,i⟩ ⟨hi,ym⟩;dsimp only at hi ym ⊢;refine av 6 ?_ ?_
 ·intro ai;refine B 5 ?_;obtain⟨bq,oq,Q2,tq,Q3,rfl,hbq,pU,pV⟩:=pW.get aa;have Eo:=BD _ rfl;dsimp only at Eo;obtain⟨n,hy⟩:=ng (da d) i aa;obtain⟨x,hx⟩:=ng l (i+1) aa;have hz:=Q7 hy hx;refine B 3 ?_;refine zif ?_;refine B 11 ?_;refine rx (ad (v:=ab x) isAgg3 rfl A2 fY zL zD (nI ay hx aa zF)) ?_;refine N3 (i:=0) (ev:=ab) (v:=x) rfl ym underlying399 underlying3 rfl rfl rfl rfl ?_;intro m3 aZ;refine B 7 ?_;refine PJ.again (m3,i+1) ⟨by dsimp only;omega,by rw[nLl hz];exact aZ⟩ zZ zR (by rw[nLl hz];rfl) rfl zP
 intro ai;refine B 6 ?_;have Vq:((da d).zip (l.drop 1)).length=9:=by rw[List.length_zip,yp];omega
 have cN:((((da d).zip (l.drop 1)).take i).foldl mH (cJ (mF (bh ns) d) (512+d) ((l[0]?).getD 0)))=pX (bh ns) d l:=by rw[lE aa];rfl
 rw[cN]at ym ⊢
 rename Mp=>m4
 rename Mp.Ok (pX (bh ns) d l) m4=>iA
 refine B 2 ?_;refine xg (enc:=dD) (m:=2) (t:=325) (xs:=lb (pX (bh ns) d l)) (v:=λs=>.agg #[s]) (first:=[]) (cap:=[]) rfl call345 rfl rfl rfl (λW hS=>nkh (by have h2:=nDo (kv:=bh ns) hd l;have h3:=Vj ns;omega) bm m4 iA W (hS.own _ A0)) ?_;intro r aB af;refine Vp ?_;refine B 4 ?_;exact nB (enc:=dD) (m:=2) (t:=325) (xs:=lb (pX (bh ns) d l)) (H0:=[(bm,m4.obj ab (pX (bh ns) d l)),(b6,oC #[r.val (lb (pX (bh ns) d l)).length] 84)]) (H1:=[]) (r:=r) (.inl rfl) results303 aL A2 zbc rfl af (Rw.ge_of aB A2) zyc
end
def dB (kv:List (Int×Int)):Nat->Int->List Int
 |0,_=>[]
 |k+1,n=>if(al kv n).isSome=true then[n]else if 512<=n then[]else dB kv k (2*n)++dB kv k (2*n+1)
theorem nsj(h:(al kv n).isSome=true):dB kv (k+1) n=[n]:=by simp[dB,h]
theorem nMl(h:¬(al kv n).isSome=true)(h2:512<=n):dB kv (k+1) n=[]:=by grind [dB]
theorem nDh(h:¬(al kv n).isSome=true)(h2:¬512<=n):dB kv (k+1) n=dB kv k (2*n)++dB kv k (2*n+1):=by grind [dB]
def uH (kv:List (Int×Int)) (k:Nat) (n:Int) (i:Nat):List Int:=(List.range i).flatMap λ(j:Nat)=>dB kv k (2*n+(j:Int))
theorem nln(kv:List (Int×Int))(k:Nat)(n:Int)(i:Nat):uH kv k n (i+1)=uH kv k n i++dB kv k (2*n+(i:Int)):=by simp[uH,List.range_succ]
theorem naq(kv:List (Int×Int))(k:Nat)(n:Int):uH kv k n 2=dB kv k (2*n)++dB kv k (2*n+1):=by simp[uH,List.range_succ]
theorem Ky{p:List Int}(hi:i<2)(h:p <+:dB kv k (2*n+(i:Int))):uH kv k n i++p <+:uH kv k n 2:=by
 grind [uH,nln,List.prefix_append_right_inj]
theorem Q8(n:Int)(i:Nat)(h:i<2):(#[ab (2*n),ab (2*n+1)]:Array Value)[(i:Int).toNat*1]? =some (ab (2*n+(i:Int))):=by
 grind
def Zk (bx by_ mb:Nat):aJ:=λj=>j=bx\/j=by_\/j=mb
def Q9 (kv:List (Int×Int)) (k:Nat):Prop:=∀(n:Int) (bx by_ mb:Nat) (m:Mp) (W:World),1<=n->n<1024->1024<=n*2^k->m.Ok kv->W.heap[bx]? =some (oC #[.map (some mb)] 399)->W.heap[by_]? =some (oC #[ab n] 3)->W.heap[mb]? =some (m.obj ab kv)->
 zj prog 409 [ptr bx 0,ptr by_ 0] ak (zk (dB kv k n)) (Is (dB kv k n)) (λ_=>False) (Zk bx by_ mb) W
theorem nss(kv:List (Int×Int)):Q9 kv 0:=λn J by_ mb m W h1 h2 h3=>by omega
theorem nAf(mp:Option Nat)(n:Int)(w:World):Calls prog 391 #[.map mp,ab n] w (db w (λq:Nat×Nat=>.func (.func 409) #[] #[ptr q.1 0,ptr q.2 0]) (λq w1=>w.heap.size<=q.1/\w.heap.size<=q.2/\w1.heap[q.1]? =some (oC #[.map mp] 399)/\w1.heap[q.2]? =some (oC #[ab n] 3))):=by
 refine eN func391 ntmps391 ?_;refine aU 2 ?_;intro b2 w2 bV bj dz cL cR;refine yX ?_;intro b3 w3 bQ aZ J cP dt;refine B 10 ?_;refine pe (b2,b3) results391 rfl A2 rfl ?_;exact zPj
theorem nem{n l Dk:Nat}{rec:Loop}{ms:List Mk}(h1:n<=Dk)(h2:n<=l)(h:yq n ms):yq n ((l,rec,Dk)::ms):=by
 intro q hq;rcases ft.1 hq with rfl|hq
 ·grind
 exact h q hq
theorem nis{i:Int}(h:1024<=n*2^(k+1))(hi:0<=i):1024<=(2*n+i)*2^k:=by
 rw[Int.pow_succ]at h;have hp:(0:Int)<2^k:=Int.pow_pos zF;have h9:n*(2^k*2)=(2*n)*2^k:=by rw[Int.mul_comm (2^k) 2,<-Int.mul_assoc,Int.mul_comm n 2]
 have h8:(2*n+i)*2^k=(2*n)*2^k+i*2^k:=Int.add_mul _ _ _;have h7:0<=i*2^k:=Int.mul_nonneg hi aa;omega
theorem CJ.perm{C:Cx}{Q:bA}{E:Env}{D:List Deferred}{G:Gh}{H':ae}{c:Code}(hp:H.Perm H')(h:CJ C c Q E D G L H'):CJ C c Q E D G L H:=λa W hN hD hF hS=>h a W hN hD hF (hS.perm hp)
theorem Ez(n:Nat):yq n []:=λq hq=>absurd hq zP
theorem nJr(ih:Q9 kv k)(n:Int)(bx by_ mb:Nat)(m:Mp)(W:World)(h1:1<=n)(h2:n<1024)(h3:1024<=n*2^(k+1))(hm:m.Ok kv)(aW:W.heap[bx]? =some (oC #[.map (some mb)] 399))(bV:W.heap[by_]? =some (oC #[ab n] 3))(kF:W.heap[mb]? =some (m.obj ab kv)):zj prog 409 [ptr bx 0,ptr by_ 0] ak (zk (dB kv (k+1) n)) (Is (dB kv (k+1) n)) (λ_=>False) (Zk bx by_ mb) W:=by
 intro l0 M0 I X0 hM hI hX hy h0;have bJ:¬(dI hM (λ_=>False) (hI [] _)).X bx:=by rintro(h|h);exact(hM _ h).2.2 (.inl rfl);exact h.elim
 have bj:¬(dI hM (λ_=>False) (hI [] _)).X by_:=by rintro(h|h);exact(hM _ h).2.2 (.inr (.inl rfl));exact h.elim
 have Bz:¬(dI hM (λ_=>False) (hI [] _)).X mb:=by rintro(h|h);exact(hM _ h).2.2 (.inr (.inr rfl));exact h.elim
 have qJ:=(bO.1 aW).1;have KA:=(bO.1 bV).1;have xZ:=(bO.1 kF).1;refine Im (dI hM (λ_=>False) (hI [] _)) [] (vs:=[_,_,_]) func409 rfl ntmps409 rfl (Nl hM (hI [] _) h0 zP (by simp[ky]) zP) ?_;refine aU 2 ?_;intro b3 w3 bQ aZ dK cP dt;refine B 7 ?_;refine rx (kU (ev:=ab) underlying399 underlying3 zeroValue3 hm (bL.old A1 kF Bz trivial) rfl rfl) ?_;refine av 12 ?_ ?_
 ·intro ai;refine B 4 ?_;refine CY (λV=>hI ([]++[n]) V) hX (λ_ h=>h.elim) A1 rfl rfl rfl rfl (λW1 vD mY=>hy [] n _ W1 (by rw[nsj ai];exact List.prefix_refl _) vD mY) ?_ ?_
  ·intro V0 BF;refine B 4 ?_;exact Zl (ms:=([]:List Mk)) (H0:=[]) (.inl rfl) results409 A1 BF (zYBS) (λA hA=>.inl ⟨[n],by rw[nsj ai],hA⟩)
  intro V0 BF;refine B 4 ?_;exact Zl (ms:=([]:List Mk)) (H0:=[]) (.inl rfl) results409 A1 BF (zYBS) (λA hA=>.inr hA)
 intro ai;refine av 9 ?_ ?_
 ·intro ax;refine B 2 ?_;exact Zl (ms:=([]:List Mk)) (H0:=[]) (.inl rfl) results409 A1 (λ_ h=>h.elim) (zYBS) (λA hA=>.inl ⟨[],by rw[nMl (by simpa using ai) aa],hA⟩)
 intro ax;refine B 9 ?_;refine rx (oH underlying255 zeroValue255 sizeOf3 rfl rfl rfl rfl) ?_;refine B 4 ?_;refine CJ.loopD (α:=(Nat×List Mk)×aJ) (λp=>mkD p.1.2) (λp=>[(1,ptr bx 0),(2,ptr by_ 0),(3,ptr b3 0),(26,.agg #[ab (2*n),ab (2*n+1)]),(27,ab (p.1.1:Int))]) (λp=>qS p.1.2) (λp=>[w3,W]) (λp=>dI hM p.2 (hI (uH kv k n p.1.1) p.2)) (λp=>p.1.1<=2/\yq w3.heap.size p.1.2/\∀j,p.2 j->w3.heap.size<=j) (λp=>2-p.1.1) ((0,[]),λ_=>False) ⟨cd _,Ez _,λ_ h=>h.elim⟩ zR rfl rfl zP rfl ?_;rintro⟨⟨i,ms⟩,V0⟩ ⟨hi,Cs,BF⟩;dsimp only at hi Cs BF ⊢;have bJ:¬(dI hM V0 (hI (uH kv k n i) V0)).X bx:=by rintro(h|h);exact(hM _ h).2.2 (.inl rfl);have:=BF _ h;omega
 clear aZ;have aZ:¬(dI hM V0 (hI (uH kv k n i) V0)).X b3:=by rintro(h|h);(have:=(hM _ h).1;omega);(have:=BF _ h;omega)
 refine av 6 ?_ ?_
 ·intro bY;refine B 6 ?_;refine rx (uj (v:=ab (2*n+(i:Int))) underlying255 isAgg3 sizeOf3 rfl rfl aa aa (Q8 n i aa)) ?_;refine B 5 ?_;refine rx (ad (v:=.map (some mb)) isAgg399 rfl A1 aW bJ (nxq Cs aa) rfl) ?_;refine B 1 ?_;refine ny (α:=Nat×Nat) (v:=λq:Nat×Nat=>.func (.func 409) #[] #[ptr q.1 0,ptr q.2 0]) (Φ:=λ(W:World) (q:Nat×Nat) (w1:World)=>W.heap.size<=q.1/\W.heap.size<=q.2/\w1.heap[q.1]? =some (oC #[.map (some mb)] 399)/\w1.heap[q.2]? =some (oC #[ab (2*n+(i:Int))] 3)) call391 rfl rfl rfl (λW hS=>nAf (some mb) (2*n+(i:Int)) W) ?_;rintro Wk q wk Ak Kr ⟨oi,mr,jR,kH⟩;try dsimp only at oi mr jR kH
  have EA:=(bO.1 jR).1;have EB:=(bO.1 kH).1;have eD:=Kr.size;have eB:=(Ak.links W A1).size;have dK:=(Ak.links w3 A0).size;have c5:∀j,V0 j->j<Wk.heap.size:=λj hj=>Ak.xlt j (.inr hj);have N9:∀j,Zk q.1 q.2 mb j->j<wk.heap.size/\j∉(qS ms).map (·.1)/\¬(dI hM V0 (hI (uH kv k n i) V0)).X j:=by
   intro j hj;have Zm:Wk.heap.size<=j->j∉(qS ms).map (·.1)/\¬(dI hM V0 (hI (uH kv k n i) V0)).X j:=λhg=>⟨λhm=>by obtain⟨p,hp,e⟩:=dO.1 hm;have:=Ak.lt p hp;omega,λhx=>by rcases hx with hx|hx;(have:=(hM _ hx).1;omega);(have:=c5 _ hx;omega)⟩;rcases hj with rfl|rfl|rfl
   ·exact⟨EA,Zm oi⟩
   ·exact⟨EB,Zm mr⟩
   exact⟨by omega,λhm=>zYBh,λhx=>by rcases hx with hx|hx;(exact(hM _ hx).2.2 (.inr (.inr rfl)));(have:=BF _ hx;omega)⟩
  refine B 3 ?_;refine Xd (f:=409) (cap:=[ptr q.1 0,ptr q.2 0]) (α:=Int) (enc:=ak) (Pre:=zk (dB kv k (2*n+(i:Int)))) (Fin:=Is (dB kv k (2*n+(i:Int)))) (RO:=Zk q.1 q.2 mb) (MI:=λ_=>False) rfl call409 (λW' W2 hS hB=>by have hlk:=(hS.links wk A0).size;exact ih (2*n+(i:Int)) q.1 q.2 mb m W2 aa aa (nis h3 aa) hm (by rw[hB.block q.1 aa];exact hS.old A0 jR (N9 _ (.inl rfl)).2.2 (cu.of_mem (N9 _ (.inl rfl)).2.1)) (by rw[hB.block q.2 aa];exact hS.old A0 kH (N9 _ (.inr (.inl rfl))).2.2 (cu.of_mem (N9 _ (.inr (.inl rfl))).2.1)) (by have:=(hS.links W A2).size;rw[hB.block mb aa];exact hS.old A2 kF (N9 _ (.inr (.inr rfl))).2.2 (cu.of_mem (N9 _ (.inr (.inr rfl))).2.1))) (λ_ _ _ hk=>hk.elim) (λW' hS j hj=>⟨by have:=(N9 j hj).1;have:=(hS.links wk A0).size;omega,(N9 j hj).2⟩) (λ_=>rfl) (λpre G' Hc=>∃J:aJ,(∀j,V0 j->J j)/\(∀j,J j->V0 j\/w3.heap.size<=j)/\G'=dI hM J (hI (uH kv k n i++pre) J)/\Hc=qS ms) (λc G' Hc=>c= .ret/\∃J:aJ,(∀j,J j->W.heap.size<=j)/\G'=dI hM J (hX J)/\Hc=qS ms) ⟨V0,λ_ h=>h,λ_ h=>.inl h,by rw[dG],rfl⟩ zF ?_ ?_ ?_
  ·rintro pre x G' Hc l Dk rec W1 M V Wy pJ ui gX ⟨J,a8,Vr,rfl,rfl⟩ fM jA Np vE cI Io;simp only[ah]at fM vE;have bu:∀j,J j->W.heap.size<=j:=λj hj=>by rcases Vr j hj with h|h;(have:=BF j h;omega);omega
   have aZ:¬((dI hM J (hI (uH kv k n i++pre) J)).ext λj=>M j\/V j).X b3:=cI.z aa aZ (λhm=>zYBh) (by rintro(h|h);(have:=(hM _ h).1;omega);(rcases Vr _ h with h|h;(have:=BF _ h;omega);omega));have c0:∀r',cu (book (qS ms) l r' (eV Dk)) b3:=λr'=>by unfold book;rw[eJ];exact⟨nxq Cs aa,by simp only[eV,cu,and_true];omega⟩
   refine UE ?_;refine B 3 ?_;refine rx (ad (v:=yv l0) isAgg134 rfl A2 bQ aZ (c0 _) rfl) ?_;refine B 1 ?_;refine Zo (λj=>M j\/V j) (λG=>G.ext λj=>M j\/V j) (Zp _) (V:=J) (λV=>hI ((uH kv k n i++pre)++[x]) V) hX bu rfl rfl rfl rfl (λW1 vD mY=>hy (uH kv k n i++pre) x J W1 (by rw[lP,nDh (by simpa using ai) aa,<-naq];exact Ky aa gX) vD mY) ?_ ?_
   ·intro V2 II yr;have yt:=yr Wy A0;have Ra:∀j,V2 j->V0 j\/w3.heap.size<=j:=λj hj=>by rcases yt j hj with h|h;exact Vr j h;exact .inr (by have:=(Io.links w3 A1).size;omega)
    try dsimp only
    refine B 6 ?_;refine Jk (G2:=dI hM V2 (hI ((uH kv k n i++pre)++[x]) V2)) (Hc2:=qS ms) cI jA ⟨(λj h=>h.imp id (λh=>II j (a8 j h))),(λj h=>h.elim (λh=>.inl (.inl h)) (λh=>(yt j h).imp .inr id)),(λj h=>h.elim (λh=>.inl (.inl h)) (λh=>(yt j h).imp .inr id)),(λp hp=>.inl (dO.2 ⟨p,hp,rfl⟩)),(λp hp=>.inl (dO.2 ⟨p,hp,rfl⟩))⟩ (Jl pJ ui) ?_;exact⟨V2,λj h=>II j (a8 j h),Ra,by rw[lP],rfl⟩
   intro V2 II yr;have yt:=yr Wy A0;have Ra:∀j,V2 j->V0 j\/w3.heap.size<=j:=λj hj=>by rcases yt j hj with h|h;exact Vr j h;exact .inr (by have:=(Io.links w3 A1).size;omega)
   try dsimp only
   refine B 6 ?_;refine nWe (G2:=dI hM V2 (hX V2)) (Hc2:=qS ms) (c:=.ret) cI jA ⟨(λj h=>h.imp id (λh=>II j (a8 j h))),(λj h=>h.elim (λh=>.inl (.inl h)) (λh=>(yt j h).imp .inr id)),(λj h=>h.elim (λh=>.inl (.inl h)) (λh=>(yt j h).imp .inr id)),(λp hp=>.inl (dO.2 ⟨p,hp,rfl⟩)),(λp hp=>.inl (dO.2 ⟨p,hp,rfl⟩))⟩ (.inl ⟨rfl,rfl⟩) rfl ?_;exact⟨rfl,V2,λj hj=>by rcases Ra j hj with h|h;(have:=BF j h;omega);omega,rfl,rfl⟩
  ·rintro lF l Dk rec G' Hc rfl fM jA ⟨J,a8,Vr,rfl,rfl⟩;replace fM:=yb fM;refine B 7 ?_;refine PJ.perm (nDn l Dk rec ms []) ?_;refine nRr ((i+1,(l,rec,Dk)::ms),J) ⟨by dsimp only;omega,nem fM.2.1 aa Cs,λj hj=>(Vr j hj).elim (BF j) id⟩ zZ zR rfl (by dsimp only;rw[nln]) zP rfl
  rintro l Dk rec c G' Hc fM jA ⟨rfl,J,bu,rfl,rfl⟩;replace fM:=yb fM;refine CJ.perm (nDn l Dk rec ms []) ?_;refine B 6 ?_;exact Zl (ms:=(l,rec,Dk)::ms) (H0:=[]) (.inl rfl) results409 A2 bu (by intro j hj hx;obtain⟨p,hp,e⟩:=dO.1 hx;have:=Zn (n:=w3.heap.size) (ms:=(l,rec,Dk)::ms) (nem fM.2.1 aa Cs) p hp;omega) (λA hA=>.inr hA)
 intro bY;refine B 4 ?_;exact Zl (ms:=ms) (H0:=[]) (.inr rfl) results409 A1 (λj hj=>by have:=BF j hj;omega) (by intro j hj hx;obtain⟨p,hp,e⟩:=dO.1 hx;have:=Zn (n:=w3.heap.size) (ms:=ms) Cs p hp;omega) (λA hA=>.inl ⟨uH kv k n i,by rw[nDh (by simpa using ai) aa,<-naq,show i=2 by omega],hA⟩)
theorem Zq(kv:List (Int×Int)):∀k,Q9 kv k
 |0=>nss kv
 |k+1=>λn J by_ mb m W h1 h2 h3 hm aW bV kF=>nJr (Zq kv k) n J by_ mb m W h1 h2 h3 hm aW bV kF
theorem OJ.frz{C:Cx}{Q:bA}{E:Env}{D:List Deferred}{G:Gh}{H':ae}{ops:Array Oper}{l:List Oper}{b:Nat}{o:Obj}(hi:H[i]? =some (b,o))(hH:H.eraseIdx i=H')(ha:ah L b)(k:∀w1,w1.heap[b]? =some o->b<w1.heap.size->(∀w∈L,w.heap.size<=w1.heap.size)->OJ C ops Q l E D G (w1::L) H'):OJ C ops Q l E D G L H:=by
 subst hH;intro a W hN hD hF hS;have hb:=hS.own _ (cF hi);exact k W hb (bO.1 hb).1 (λw hw=>(hS.links w hw).size) a W hN hD hF (hS.dropAt hi ha).snap
noncomputable def nG (ns:List Nd) (n:Int):List Int:=if fX ns=0/\1<=n/\n<=1023 then dB (bh ns) 10 n else[]
noncomputable def Oa (ns:List Nd) (n:Int):Int:=if fX ns=0 then(if 1<=n/\n<=1023 then 0 else 200)else 210
theorem nYm(kv:List (Int×Int)):∀(k:Nat) (n:Int),(dB kv k n).length<=2^k:=
 by intro x;induction x<;>(grind [dB])
theorem nOl(ns:List Nd)(n:Int):(nG ns n).length<=1024:=by
 grind [nG,nYm]
theorem KB:fh prog 409:=call409
section
variable (ns:List Nd)(hn:ns.length<=100000)(N:Nat)(a:Option Addr)(cp:Nat)(w:World)(hN:N<=w.heap.size)(aA:aj dJ 2 N w a ns)
include hn cp hN aA
theorem nJl(fe:fX ns=210)(n:Int):Calls prog 362 #[.agg #[.slice a ns.length cp],ab n] w (nv w ak 1 3 [] (λs=>.tuple #[s,ab (210)])):=by
 refine eN func362 ntmps362 ?_;refine aU 2 ?_;intro b2 w2 bV bj dz cL cR;refine B 7 ?_;refine zpg ?_;refine B 6 ?_;refine DM ?_;exact zvj
theorem nsm(fe:fX ns=0)(n:Int)(iL:¬(1<=n/\n<=1023)):Calls prog 362 #[.agg #[.slice a ns.length cp],ab n] w (nv w ak 1 3 [] (λs=>.tuple #[s,ab (200)])):=by
 refine eN func362 ntmps362 ?_;refine aU 2 ?_;intro b2 w2 bV bj dz cL cR;refine B 7 ?_;refine zXh ?_;refine xf ?_;by_cases h1:n<1
 ·refine aV 2 aK ?_;refine B 15 ?_;exact zvj
 refine B 2 ?_;refine Ve ?_;refine DM ?_;exact zvj
theorem nym(fe:fX ns=0)(n:Int)(iL:1<=n/\n<=1023):Calls prog 362 #[.agg #[.slice a ns.length cp],ab n] w (nv w ak 1 3 (dB (bh ns) 10 n) (λs=>.tuple #[s,ab (0)])):=by
 have xG:=iL.1;have uk:=iL.2;refine eN func362 ntmps362 ?_;refine aU 2 ?_;intro b2 w2 bV bj dz cL cR;refine B 7 ?_;refine zXh ?_;refine Ce ?_;refine Ve ?_;refine Je ?_;refine Al ?_;refine zYe ?_;intro bf m Ep YS hm;replace Ep:=yb Ep;refine B 1 ?_;refine OJ.frz (i:=0) (H':=[]) rfl rfl zI ?_;intro wf J bx aq;have bg:=aq w A1;refine ny (α:=Nat×Nat) (v:=λq:Nat×Nat=>.func (.func 409) #[] #[ptr q.1 0,ptr q.2 0]) (Φ:=λ(W:World) (q:Nat×Nat) (w1:World)=>W.heap.size<=q.1/\W.heap.size<=q.2/\w1.heap[q.1]? =some (oC #[.map (some bf)] 399)/\w1.heap[q.2]? =some (oC #[ab n] 3)) call391 rfl rfl rfl (λW hS=>nAf (some bf) n W) ?_;rintro Wk q wk Ak Kr ⟨oi,mr,jR,kH⟩;try dsimp only at oi mr jR kH
 have EA:=(bO.1 jR).1;have EB:=(bO.1 kH).1;have a8:=Kr.size;have a6:=(Ak.links wf A0).size;refine Y4 (enc:=ak) (m:=1) (t:=3) (Fin:=Is (dB (bh ns) 10 n)) (v:=id) call111 rfl rfl rfl (λW hS=>n1f (f:=409) (cap:=[ptr q.1 0,ptr q.2 0]) (Pre:=zk (dB (bh ns) 10 n)) (Fin:=Is (dB (bh ns) 10 n)) (RO:=Zk q.1 q.2 bf) KB W ?_ ?_ ?_) ?_
 ·have qJ:=(hS.links wk A0).size;rintro j (rfl|rfl|rfl)<;>omega
 ·intro p hp;have h1:p.length<=_:=hp.length_le;have h2:=nYm (bh ns) 10 n;omega
 ·intro W2 hB;have qJ:=(hS.links wk A0).size;exact Zq (bh ns) 10 n q.1 q.2 bf m W2 aa aa aa hm (zYBZ) (zYBa) (by rw[hB.block bf aa];exact hS.old A1 J zL trivial)
 intro xs r cC aB af;cases cC
 refine B 5 ?_;exact nB (H0:=[]) (H1:=[]) (r:=r) (.inl rfl) results362 aL A3 (by rw[dG];exact Rw.over (Rw.ge_of aB A3)) rfl af (Rw.ge_of aB A3) zP
theorem n7h(n:Int):Calls prog 362 #[.agg #[.slice a ns.length cp],ab n] w (nv w ak 1 3 (nG ns n) (λs=>.tuple #[s,ab (Oa ns n)])):=by
 rcases nti ns with h|h
 ·by_cases h2:1<=n/\n<=1023
  ·have e1:nG ns n=dB (bh ns) 10 n:=by unfold nG;rw[if_pos ⟨h,h2⟩]
   have e2:Oa ns n=0:=by unfold Oa;rw[if_pos h,if_pos h2]
   rw[e2];grind [nym]
  have e1:nG ns n=[]:=by unfold nG;rw[if_neg λg=>h2 g.2]
  have e2:Oa ns n=200:=by unfold Oa;rw[if_pos h,if_neg h2]
  rw[e2];grind [nsm]
 have e1:nG ns n=[]:=by unfold nG;rw[if_neg λg=>by omega]
 have e2:Oa ns n=210:=by unfold Oa;rw[if_neg aa]
 rw[e2];grind [nJl]
end
structure Mb where
 dev:Int
 since:Int
 ver:Int
def jx (x:Mb):Array Value:=#[ab x.dev,ab x.since,ab x.ver]
def ly (x:Mb):List Value:=[ab x.dev,ab x.since,ab x.ver]
structure Ch where
 kind:Int
 dev:Int
 pub:Int
 ver:Int
 cut:Int
def ff (x:Ch):Array Value:=#[ab x.kind,ab x.dev,ab x.pub,ab x.ver,ab x.cut]
def pY (x:Ch):List Value:=[ab x.kind,ab x.dev,ab x.pub,ab x.ver,ab x.cut]
theorem vr(x:Mb):(ly x).length=3:=rfl
theorem EC(x:Ch):(pY x).length=5:=rfl
theorem Vs(x:Mb):∀u∈ly x,u.oneCell'=true:=by intro u hu;simp[ly]at hu;rcases hu with rfl|rfl|rfl<;>rfl
theorem nql(x:Ch):∀u∈pY x,u.oneCell'=true:=by intro u hu;simp[pY]at hu;rcases hu with rfl|rfl|rfl|rfl|rfl<;>rfl
theorem KC:prog.info? 156=some Tryz.t156:=by kernel_rfl
theorem KD:prog.info? 271=some Tryz.t271:=by kernel_rfl
def cj (a b:Int):Int:=if a<b then -1 else if b<a then 1 else 0
abbrev BG (f:Int):Prop:=0<=f/\f<16
theorem Cu{α:Type}{p:α->Bool}{xs:List α}(h:∀i x,i<j->xs[i]? =some x->p x=false)(hj:¬j<xs.length):xs.any p=false:=by
 grind [List.mem_iff_getElem?]
def cE {α:Type} (p:α->Bool) (xs:List α) (j:Nat):Prop:=∀i x,i<j->xs[i]? =some x->p x=false
theorem cE.next{α:Type}{p:α->Bool}{xs:List α}{x:α}(h:cE p xs j)(hx:xs[j]? =some x)(hp:p x=false):cE p xs (j+1):=by
 grind [cE]
def eE {α:Type} (p:α->Bool) (xs:List α) (i:Int):Prop:=(i= -1/\xs.any p=false)\/∃(k:Nat) (x:α),i=(k:Int)/\xs[k]? =some x/\p x=true/\cE p xs k
theorem eE.any{α:Type}{p:α->Bool}{xs:List α}{i:Int}(h:eE p xs i):decide (0<=i)=xs.any p:=by
 grind [eE]
def yu (xs:List Mb) (d:Int) (i j:Nat):Nat:=
 if h:i<j then(if((xs[(i+j)/2]?).map (·.dev)).getD 0<d then yu xs d ((i+j)/2+1) j else yu xs d i ((i+j)/2))else i
termination_by j-i
decreasing_by all_goals omega
variable {xs:List Mb}
theorem ED{x:Mb}(h:i<j)(hx:xs[(i+j)/2]? =some x)(hd:x.dev<d):yu xs d i j=yu xs d ((i+j)/2+1) j:=by
 grind [yu]
theorem EE{x:Mb}(h:i<j)(hx:xs[(i+j)/2]? =some x)(hd:¬x.dev<d):yu xs d i j=yu xs d i ((i+j)/2):=by
 grind [yu]
theorem EF(h:¬i<j):yu xs d i j=i:=by rw[yu,dif_neg h]
theorem nUk(a b:Int):cj a b<0↔a<b:=by grind [cj]
theorem KE(a b:Int):cj a b=0↔a=b:=by grind [cj]
def jq (xs:List Mb) (d:Int):Nat:=yu xs d 0 xs.length
def gw (xs:List Mb) (d:Int):Bool:=decide (((xs[jq xs d]?).map (·.dev))=some d)
theorem nzo{x:Mb}(h:jq xs d=i)(hx:xs[i]? =some x):decide (cj x.dev d=0)=gw xs d:=by
 grind [gw,KE]
theorem n2k(h:jq xs d=i)(hi:¬i<xs.length):false=gw xs d:=by
 grind [gw]
theorem nsl(h:gw xs d=true):jq xs d<xs.length:=by grind [n2k]
theorem n9m(f:Int)(w:World):Calls prog 325 #[ab f] w (ar w (.bool (decide (BG f)))):=by
 refine cH 10 func325 ntmps325 ?_;refine nf (t:=5) rfl (λai=>?_) (λai=>?_)
 ·exact zsk
 exact zsk
theorem Vu(f:Int)(w:World):Calls prog 332 #[ab f] w (ar w (.bool (decide (bM f)))):=by
 refine cH 10 func332 ntmps332 ?_;refine nf (t:=5) rfl (λai=>?_) (λai=>?_)
 ·replace ai:=ya ai;refine B 7 ?_;refine ao results332 rfl A0 ?_;exact Ob
 replace ai:=ya ai;refine B 7 ?_;refine ao results332 rfl A0 ?_;exact Ob
theorem nim(f:Int)(w:World):Calls prog 254 #[ab f] w (ar w (aO)):=by
 refine cH 14 func254 ntmps254 ?_;refine ao results254 rfl A0 ?_;exact vb zP
theorem Zr(a b:Int)(w:World):Calls prog 220 #[ab a,ab b] w (ar w (ab (cj a b))):=by
 refine cH 8 func220 ntmps220 ?_;refine cl call254 rfl (λW hS=>nim _ W) (v:=.bool false) ?_;refine B 6 ?_;refine cl call254 rfl (λW hS=>nim _ W) (v:=.bool false) ?_;refine av 29 ?_ ?_
 ·intro ai;refine B 7 ?_;exact zOk
 intro ai;refine av 10 ?_ ?_
 ·intro ax;refine B 7 ?_;exact zOk
 intro ax;refine B 8 ?_;exact zOk
theorem njn(x:Mb)(d:Int)(w:World):Calls prog 365 #[.agg (jx x),ab d] w (ar w (ab (cj x.dev d))):=by
 refine eN func365 ntmps365 ?_;refine aU 2 ?_;intro b2 w2 bV bj dz cL cR;refine B 8 ?_;refine cl call220 rfl (λW hS=>Zr _ _ W) ?_;refine B 4 ?_;refine ao results365 rfl A1 ?_;rfl
theorem n3r(xs:List Mb)(de:xs.length<=1000000)(N:Nat)(a:Option Addr)(cp:Nat)(w:World)(hN:N<=w.heap.size)(aA:aj jx 3 N w a xs)(d:Int):Calls prog 364 #[.slice a xs.length cp,ab d,.func (.func 365) #[] #[]] w (ar w (.tuple #[ab (jq xs d:Int),.bool (gw xs d)])):=by
 refine cH 22 func364 ntmps364 ?_;refine CJ.lp (α:=Nat×Nat) [0,1,2,8] (λp=>[(9,ab (p.1:Int)),(10,ab (p.2:Int))]) (λp=>[]) (λp=>p.1<=p.2/\p.2<=xs.length/\yu xs d p.1 p.2=jq xs d) (λp=>p.2-p.1) (0,xs.length) ⟨cd _,aC _,rfl⟩ ?_;rintro⟨i,j⟩ ⟨vt,uF,J⟩;dsimp only at vt uF J ⊢;refine av 8 ?_ ?_
 ·intro ai;refine B 9 ?_;refine rx (iP 1 2 zF rfl rfl rfl) ?_;refine rq (ab (((i+j)/2:Nat):Int)) (xE underlying224 underlying3 rfl aa aa) ((congrArg ab aa)) ?_;refine B 4 ?_;obtain⟨bo,oo,cs0,to,dR,rfl,dW,hcs,ay⟩:=aA.get aa;obtain⟨x,hx⟩:=ng xs ((i+j)/2) aa;refine B 5 ?_;refine Zs ?_;refine nU (f:=365) (cap:=[]) rfl call365 rfl rfl rfl (λW hS=>njn x d W) ?_;refine av 3 ?_ ?_
  ·intro ax;refine B 6 ?_;refine ag ((i+j)/2+1,j) ⟨by dsimp only;omega,uF,by rw[<-J,ED aa hx ((nUk _ _).1 ew)]⟩
  intro ax;refine B 5 ?_;refine ag (i,(i+j)/2) ⟨by dsimp only;omega,by dsimp only;omega,by rw[<-J,EE aa hx (λh=>(by assumption:¬cj x.dev d<0) ((nUk _ _).2 h))]⟩
 intro ai;refine B 6 ?_;have hbe:jq xs d=i:=by rw[<-J,EF aa]
 by_cases h1:i<xs.length
 ·obtain⟨bo,oo,cs0,to,dR,rfl,dW,hcs,ay⟩:=aA.get aa;obtain⟨x,hx⟩:=ng xs i aa;refine B 4 ?_;refine NF ?_;refine Zs ?_;refine nU (f:=365) (cap:=[]) rfl call365 rfl rfl rfl (λW hS=>njn x d W) ?_;refine B 7 ?_;exact z8j
 refine B 4 ?_;refine XO ?_;exact z8j
section
variable (p:Mb->Bool)(f:Nat)(cap:List Value)(aF:fh prog f)(xs:List Mb)(de:xs.length<=1000000)(N:Nat)(a:Option Addr)(cp:Nat)(w:World)(hN:N<=w.heap.size)(aA:aj jx 3 N w a xs)(hp:∀(j:Nat) (x:Mb),xs[j]? =some x->∀W,Below w.heap.size w W->Calls prog f (.agg (jx x)::cap).toArray W (ar W (.bool (p x))))
include p f aF de cp hN aA hp
theorem nXd:Calls prog 108 #[.slice a xs.length cp,.func (.func f) #[] cap.toArray] w (db w (λi:Int=>ab i) (λi _=>eE p xs i)):=by
 refine eN func108 ntmps108 ?_;refine Vv ?_;rintro j ⟨hj,bT⟩;refine av 6 ?_ ?_
 ·intro ai;refine B 11 ?_;obtain⟨bo,oo,cs0,to,dR,rfl,dW,hcs,ay⟩:=aA.get aa;obtain⟨x,hx⟩:=ng xs j aa;refine aV 5 (.agg (jx x)) ?_;refine Vw ?_;refine pd ?_ ?_
  ·intro ax;refine B 12 ?_;refine pe (j:Int) results108 rfl A0 rfl ?_;exact Vx
  exact Rb
 intro ai;refine B 11 ?_;refine pe (-1:Int) results108 rfl A0 rfl ?_;exact Rc
theorem n5f:Calls prog 331 #[.slice a xs.length cp,.func (.func f) #[] cap.toArray] w (ar w (.bool (xs.any p))):=by
 refine cH 9 func331 ntmps331 ?_;refine ny (α:=Int) (v:=λi:Int=>ab i) (Φ:=λ_ i _=>eE p xs i) call108 rfl rfl rfl (λW hS=>nXd p f cap aF xs de N a cp W aT (aA.us hS.sm) (λj x hx W2 hB=>hp j x hx W2 (((hS.links w A0).below Vk).trans (hB.mono (hS.links w A0).size)))) ?_;intro Wi i wi yw J hi;refine B 5 ?_;refine ao results331 rfl A1 ?_;exact vb hi.any
end
section
variable (p:Ch->Bool)(f:Nat)(cap:List Value)(aF:fh prog f)(xs:List Ch)(de:xs.length<=1000000)(N:Nat)(a:Option Addr)(cp:Nat)(w:World)(hN:N<=w.heap.size)(aA:aj ff 5 N w a xs)(hp:∀(j:Nat) (x:Ch),xs[j]? =some x->∀W,Below w.heap.size w W->Calls prog f (.agg (ff x)::cap).toArray W (ar W (.bool (p x))))
include p f aF de cp hN aA hp
theorem nMf:Calls prog 348 #[.slice a xs.length cp,.func (.func f) #[] cap.toArray] w (db w (λi:Int=>ab i) (λi _=>eE p xs i)):=by
 refine eN func348 ntmps348 ?_;refine Vv ?_;rintro j ⟨hj,bT⟩;refine av 6 ?_ ?_
 ·intro ai;refine B 11 ?_;obtain⟨bo,oo,cs0,to,dR,rfl,dW,hcs,ay⟩:=aA.get aa;obtain⟨x,hx⟩:=ng xs j aa;refine aV 5 (.agg (ff x)) ?_;refine Vw ?_;refine pd ?_ ?_
  ·intro ax;refine B 12 ?_;refine pe (j:Int) results348 rfl A0 rfl ?_;exact Vx
  exact Rb
 intro ai;refine B 11 ?_;refine pe (-1:Int) results348 rfl A0 rfl ?_;exact Rc
theorem n3c:Calls prog 306 #[.slice a xs.length cp,.func (.func f) #[] cap.toArray] w (ar w (.bool (xs.any p))):=by
 refine cH 9 func306 ntmps306 ?_;refine ny (α:=Int) (v:=λi:Int=>ab i) (Φ:=λ_ i _=>eE p xs i) call348 rfl rfl rfl (λW hS=>nMf p f cap aF xs de N a cp W aT (aA.us hS.sm) (λj x hx W2 hB=>hp j x hx W2 (((hS.links w A0).below Vk).trans (hB.mono (hS.links w A0).size)))) ?_;intro Wi i wi yw J hi;refine B 5 ?_;refine ao results306 rfl A1 ?_;exact vb hi.any
end
structure Gp where
 folder:Int
 epoch:Int
 last:Nat->Int
 ms:List Mb
 ns:List Nd
structure Gv where
 g:Gp
 ma:Option Addr
 mc:Nat
 na:Option Addr
 nc:Nat
def aY (x:Gv):Array Value:=(ab x.g.folder::ab x.g.epoch::th x.g.last [.slice x.ma x.g.ms.length x.mc,.slice x.na x.g.ns.length x.nc]).toArray
structure aM (N:Nat) (w:World) (x:Gv):Prop where
 ms:aj jx 3 N w x.ma x.g.ms
 ns:aj dJ 2 N w x.na x.g.ns
 mn:x.g.ms.length<=10000
 nn:x.g.ns.length<=80000
theorem aM.up{J:Nat}{w':World}{x:Gv}(h:aM N w x)(hN:N<=J)(hw:∀k,k<N->w'.heap[k]? =w.heap[k]?):aM J w' x:=⟨h.ms.up hN hw,h.ns.up hN hw,h.mn,h.nn⟩
theorem aM.us{w':World}{x:Gv}(h:aM N w x)(hw:∀k,k<N->w'.heap[k]? =w.heap[k]?):aM N w' x:=h.up (aC _) hw
def BH (ep:Int) (x:Mb):Bool:=decide (x.since<1\/ep<x.since\/¬dr x.ver)
def EG (g:Gp):Prop:=(BG g.folder/\0<=g.epoch/\g.epoch<=1099511627776/\fX g.ns=0)/\¬(g.epoch=0/\(0<g.ms.length\/gV g.last (λ_=>0)=false))/\g.ms.map (·.dev)=dX g.ns/\g.ms.any (BH g.epoch)=false
open Classical in
noncomputable def cY (g:Gp):Bool:=decide (EG g)
theorem KG(a:Int):(if dr a then(0:Int)else 40)=0↔dr a:=by grind
theorem nwp(G:Gv)(b:Nat)(x:Mb)(w:World)(aW:w.heap[b]? =some (oC (aY G) 86)):Calls prog 327 #[.agg (jx x),ptr b 0] w (ar w (.bool (BH G.g.epoch x))):=by
 have bJ:¬Gh.no.X b:=λh=>h;have J:=(bO.1 aW).1;obtain⟨e,he⟩:∃e,(if dr x.ver then(0:Int)else 40)=e:=⟨_,rfl⟩;have vv:=KG x.ver;rw[he]at vv;refine eN func327 ntmps327 ?_;refine aU 2 ?_;intro b2 w2 bV bj dz cL cR;refine B 9 ?_;refine nf (t:=7) rfl (λai=>?_) (λai=>?_)
 ·replace ai:=ya ai;refine B 16 ?_;exact zyk
 replace ai:=ya ai;refine B 7 ?_;refine nf (t:=14) rfl (λax=>?_) (λax=>?_)
 ·replace ax:=ya ax;refine B 9 ?_;exact zyk
 replace ax:=ya ax;refine B 2 ?_;refine zTe ?_;refine B 6 ?_;exact zyk
theorem KH(x:Mb)(d:Int)(w:World):Calls prog 328 #[.agg (jx x),ab d] w (ar w (.bool (decide (x.dev=d)))):=by
 refine eN func328 ntmps328 ?_;refine aU 2 ?_;intro b2 w2 bV bj dz cL cR;refine B 13 ?_;refine ao results328 rfl A1 ?_;rfl
theorem nLh{α β:Type}{f:α->β}{xs:List α}{ys:List β}(hl:xs.length=ys.length)(h:∀i x y,i<xs.length->xs[i]? =some x->ys[i]? =some y->f x=y):xs.map f=ys:=by
 apply List.ext_getElem cM;intro i h1 h2;simp at h1;simpa using h i _ _ h1 (kC h1) (kC h2)
theorem nNh{α β:Type}{f:α->β}{xs:List α}{ys:List β}{x:α}{y:β}(hx:xs[i]? =some x)(hy:ys[i]? =some y)(kq:f x≠y):xs.map f≠ys:=by grind
def qT {α β:Type} (f:α->β) (xs:List α) (ys:List β) (j:Nat):Prop:=∀i x y,i<j->xs[i]? =some x->ys[i]? =some y->f x=y
theorem qT.next{α β:Type}{f:α->β}{xs:List α}{ys:List β}{x:α}{y:β}(h:qT f xs ys j)(hx:xs[j]? =some x)(hy:ys[j]? =some y)(e:f x=y):qT f xs ys (j+1):=by
 grind [qT]
theorem nyd(xs:List Mb)(de:xs.length<=1000000)(N:Nat)(a:Option Addr)(cp:Nat)(w:World)(hN:N<=w.heap.size)(aA:aj jx 3 N w a xs)(ys:List Int)(a2:Option Addr)(Zt:Nat)(J:aj (λx=>(ak x).toArray) 1 N w a2 ys):Calls prog 329 #[.slice a xs.length cp,.slice a2 ys.length Zt,.func (.func 328) #[] #[]] w (ar w (.bool (decide (xs.map (·.dev)=ys)))):=by
 refine eN func329 ntmps329 ?_;refine av 15 ?_ ?_
 ·intro ai;refine B 7 ?_;refine ao results329 rfl A0 ?_;exact vb zsd
 intro ai;refine B 11 ?_;refine CJ.lp (α:=Nat) [1,2,15,16] (λj=>[(17,ab (j:Int))]) (λj=>[]) (λj=>j<=xs.length/\qT (·.dev) xs ys j) (λj=>xs.length-j) 0 ⟨cd _,λi x y hi=>absurd hi aa⟩ ?_;rintro j ⟨hj,bT⟩;refine av 6 ?_ ?_
 ·intro ax;refine B 5 ?_;obtain⟨bo,oo,cs0,to,dR,rfl,dW,hcs,ay⟩:=aA.get aa;obtain⟨x,hx⟩:=ng xs j aa;refine B 3 ?_;refine Zs ?_;refine yW ?_;intro b8 lI r4;refine B 5 ?_;obtain⟨bp,op,aR,tp,a6,rfl,aD,Re,Rf⟩:=J.get aa;obtain⟨y,hy⟩:=ng ys j aa;refine B 4 ?_;refine rx (ad (v:=ab y) isAgg3 rfl A0 Re zL zD (by have:=nI (enc:=λx=>(ak x).toArray) (n:=1) Rf hy rfl zF;simpa[ak]using this)) ?_;refine B 8 ?_;refine nU (f:=328) (cap:=[]) rfl call328 rfl rfl rfl (λW hS=>KH x y W) ?_;refine av 3 ?_ ?_
  ·intro bY;refine B 11 ?_;refine aS (.inl rfl) results329 aL A0 zH ?_;exact vb zsd
  intro bY;refine xY ?_;refine ag (j+1) ⟨by omega,bT.next hx hy z2⟩
 intro ax;refine B 11 ?_;refine ao results329 rfl A0 ?_;exact vb zsd
theorem tD{g:Gp}:cY g=true↔EG g:=by unfold cY;simp
theorem tF{g:Gp}(h:¬EG g):aO= .bool (cY g):=by grind [tD]
theorem nzq{g:Gp}(h1:BG g.folder/\0<=g.epoch/\g.epoch<=1099511627776/\fX g.ns=0)(h2:¬(g.epoch=0/\(0<g.ms.length\/gV g.last (λ_=>0)=false)))(h3:g.ms.map (·.dev)=dX g.ns):Value.bool (!g.ms.any (BH g.epoch))= .bool (cY g):=vb (by
 by_cases h:g.ms.any (BH g.epoch)=false
 ·rw[h,tD.2 ⟨h1,h2,h3,h⟩];rfl
 cases e:cY g with
 |false=>grind
 |true=>exact absurd (tD.1 e).2.2.2 h)
theorem nbb(G:Gv)(N:Nat)(w:World)(hN:N<=w.heap.size)(hG:aM N w G):Calls prog 293 #[.agg (aY G)] w (ar w (.bool (cY G.g))):=by
 have hn:G.g.ns.length<=100000:=by have:=hG.nn;omega
 have pO:G.g.ms.length<=1000000:=by have:=hG.mn;omega
 have aA:=hG.ns;refine eN func293 ntmps293 ?_;refine aU 2 ?_;intro b1 w1 aW bJ eO dC fg;refine B 8 ?_;refine cl call325 rfl (λW hS=>n9m _ W) ?_;refine B 2 ?_;refine nf (t:=9) rfl (λai=>?_) (λai=>?_)
 ·replace ai:=ya ai;refine B 25 ?_;refine ao results293 rfl A1 ?_;exact tF (λh=>ai h.1.1)
 replace ai:=ya ai;refine B 5 ?_;refine nf (t:=14) rfl (λax=>?_) (λax=>?_)
 ·replace ax:=ya ax;refine B 20 ?_;refine ao results293 rfl A1 ?_;exact tF (λh=>by have:=h.1.2.1;omega)
 replace ax:=ya ax;refine B 5 ?_;refine nf (t:=19) rfl (λbY=>?_) (λbY=>?_)
 ·replace bY:=ya bY;refine B 15 ?_;refine ao results293 rfl A1 ?_;exact tF (λh=>by have:=h.1.2.2.1;omega)
 replace bY:=ya bY;refine B 1 ?_;refine Vy ?_;refine cl call326 rfl (λW hS=>nYb G.g.ns hn N G.na G.nc W aT (aA.up (aC _) hS.sm)) ?_;refine av 4 ?_ ?_
 ·intro ez;refine B 7 ?_;refine ao results293 rfl A1 ?_;exact tF (λh=>ez h.1.2.2.2)
 intro ez;refine B 9 ?_;refine nf (t:=28) rfl (λJ=>?_) (λJ=>?_)
 ·replace J:=ya J;refine B 5 ?_;refine nf (t:=33) rfl (λgq=>?_) (λgq=>?_)
  ·replace gq:=ya gq;refine B 16 ?_;refine ao results293 rfl A1 ?_;exact tF (λh=>h.2.1 ⟨J,.inl aa⟩)
  replace gq:=ya gq;refine B 3 ?_;refine rr (.bool (!gV G.g.last (λ_=>0))) (iV wZ zF nT rfl rfl rfl) ?_;refine av 4 ?_ ?_
  ·intro fw;refine B 7 ?_;refine ao results293 rfl A1 ?_;exact tF (λh=>h.2.1 ⟨J,.inr fw⟩)
  intro fw;refine B 14 ?_;by_cases h1:G.g.ms.map (·.dev)=dX G.g.ns
  ·refine zEd ?_;refine CJ.chn 11 [4] [_,some (.slice G.ma G.g.ms.length G.mc),_,some (.agg #[.slice G.na G.g.ns.length G.nc]),none,_,some (aK),_,_,_,_] (λcv L' H'=>match cv with| []=>L'=[w1,w]/\H'=[]| [v1]=>∃(a7:Option Addr) (c7:Nat) (w7:World),v1= .slice a7 (dX G.g.ns).length c7/\L'=[w7,w1,w]/\H'=[]/\aj (λx=>(ak x).toArray) 1 w7.heap.size w7 a7 (dX G.g.ns)|_=>False) (pc Zu (pc Oc (pc VA (pc Oc (pk (pc zX (pc (λcv L' H' hd hP=>match cv,hd,hP with| [],hd,hP=>(absurd (show false=true from hd) zF)| [v1],hd,hP=>zjd|_::_::_,_,hP=>hP.elim) (pc zX (pc Zu (pc Oc (pc zX (pn)))))))))))) ?_ ?_
   ·exact zQi
   intro cv L' H' hl hP;obtain⟨v1,rfl⟩:=gh hl;obtain⟨a7,c7,w7,rfl,rfl,rfl,gv⟩:=hP;refine zwf ?_;refine B 6 ?_;refine ao results293 rfl A2 ?_;exact nzq ⟨ai,by omega,by omega,ez⟩ (λh=>h.2.elim (λh=>by omega) (λh=>by rw[fw]at h;cases h)) h1
  exact zLi
 replace J:=ya J;refine B 28 ?_;by_cases h1:G.g.ms.map (·.dev)=dX G.g.ns
 ·refine zEd ?_;refine CJ.chn 11 [4] [_,some (.slice G.ma G.g.ms.length G.mc),_,some (.agg #[.slice G.na G.g.ns.length G.nc]),none,_,some (aK),_,_,_,_] (λcv L' H'=>match cv with| []=>L'=[w1,w]/\H'=[]| [v1]=>∃(a7:Option Addr) (c7:Nat) (w7:World),v1= .slice a7 (dX G.g.ns).length c7/\L'=[w7,w1,w]/\H'=[]/\aj (λx=>(ak x).toArray) 1 w7.heap.size w7 a7 (dX G.g.ns)|_=>False) (pc Zu (pc Oc (pc VA (pc Oc (pk (pc zX (pc (λcv L' H' hd hP=>match cv,hd,hP with| [],hd,hP=>(absurd (show false=true from hd) zF)| [v1],hd,hP=>zjd|_::_::_,_,hP=>hP.elim) (pc zX (pc Zu (pc Oc (pc zX (pn)))))))))))) ?_ ?_
  ·exact zQi
  intro cv L' H' hl hP;obtain⟨v1,rfl⟩:=gh hl;obtain⟨a7,c7,w7,rfl,rfl,rfl,gv⟩:=hP;refine zwf ?_;refine B 6 ?_;refine ao results293 rfl A2 ?_;exact nzq ⟨ai,by omega,by omega,ez⟩ (λh=>J h.1) h1
 exact zLi
section
variable {C:Cx} {Q:bA} {E E0:Env} {D:List Deferred} {G:Gh} {L:List World} {H:ae}
def Zv (C:Cx) (E:Env) (D:List Deferred) (G:Gh) (L:List World) (H:ae):bA:=λe a W=>e= .normal/\a.tmps.size=C.N/\a.defers=D/\Fits E a/\St G L H W
theorem CJ.mid{c:Code}{t:Nat}{v:Value}(h0:Sub E0 E)(h:CJ C c (Zv C ((t,v)::E0) D G L H) E D G L H)(k:PJ C Q .normal ((t,v)::E0) D G L H):CJ C c Q E D G L H:=by
 intro a W hN hD hF hS;refine wpIn_mono (h a W hN hD hF hS) ?_;rintro e a' W' ⟨rfl,h1,h2,h3,h4⟩;exact k a' W' h1 h2 h3 h4
theorem PJ.mid{E':Env}(hE:Sub E' E):PJ C (Zv C E' D G L H) .normal E D G L H:=λa W hN hD hF hS=>⟨rfl,hN,hD,hE.fits hF,hS⟩
end
def uI (x:Ch):Prop:=((x.kind=1/\(dr x.pub/\dr x.ver)/\x.cut=0)\/(x.kind=2/\x.pub=0/\x.ver=0/\(0<=x.cut/\x.cut<=1048576))\/(x.kind=3/\(dr x.pub/\dr x.ver)/\(0<=x.cut/\x.cut<=1048576)))/\bM x.dev
def Od (kv:List (Int×Bool)) (x:Ch):List (Int×Bool):=cJ kv x.dev true
def KI (l:List Ch):List (Int×Bool):=l.foldl Od []
variable {l:List Ch}
theorem n6e{x:Ch}(hx:l[j]? =some x):KI (l.take (j+1))=cJ (KI (l.take j)) x.dev true:=by simp_all[nk,KI,Od]
def yy (l:List Ch) (i:Nat) (x:Ch):Prop:=uI x/\(al (KI (l.take i)) x.dev).getD false=false
def mJ (l:List Ch) (j:Nat):Prop:=∀i x,i<j->l[i]? =some x->yy l i x
theorem mJ.next{x:Ch}(h:mJ l j)(hx:l[j]? =some x)(hk:yy l j x):mJ l (j+1):=by
 grind [mJ,yy]
def uJ (l:List Ch):Prop:=mJ l l.length/\l.length<=64
open Classical in
noncomputable def fZ (l:List Ch):Bool:=decide (uJ l)
theorem Cv:fZ l=true↔uJ l:=by unfold fZ;simp
theorem nLc{x:Ch}(hx:l[j]? =some x)(h:¬yy l j x):aO= .bool (fZ l):=vb (by
 cases e:fZ l with
 |false=>rfl
 |true=>exact absurd ((Cv.1 e).1 j x (aG hx) hx) h)
theorem nri(h:mJ l j)(hj:¬j<l.length):Value.bool (decide ((l.length:Int)<=64))= .bool (fZ l):=vb (by
 have h1:mJ l l.length:=λi x hi hx=>h i x aa hx;cases e:fZ l with
 |false=>exact decide_eq_false (λh2=>absurd (Cv.2 ⟨h1,by omega⟩) cM)
 |true=>have:=(Cv.1 e).2;grind)
theorem ndd(l:List Ch)(de:l.length<=1000000)(N:Nat)(a:Option Addr)(cp:Nat)(w:World)(hN:N<=w.heap.size)(aA:aj ff 5 N w a l):Calls prog 333 #[.slice a l.length cp] w (ar w (.bool (fZ l))):=by
 refine cH 7 func333 ntmps333 ?_;refine Kq Value.bool rfl rfl ?_;refine yW ?_;intro b9 oF xJ;refine B 12 ?_;refine CJ.lp (α:=Mp×Nat) [0,3,10,11] (λp=>[(12,ab (p.2:Int))]) (λp=>[(b9,p.1.obj Value.bool (KI (l.take p.2)))]) (λp=>p.2<=l.length/\p.1.Ok (KI (l.take p.2))/\mJ l p.2) (λp=>l.length-p.2) (⟨[],0⟩,0) ⟨cd _,Mp.nil,λi x hi=>absurd hi aa⟩ ?_;rintro⟨m,j⟩ ⟨hj,hm,bT⟩;dsimp only at hj hm bT ⊢;refine av 6 ?_ ?_
 ·intro ai;refine B 5 ?_;obtain⟨bo,oo,cs0,to,dR,rfl,dW,hcs,ay⟩:=aA.get aa;obtain⟨x,hx⟩:=ng l j aa;obtain⟨e1,lS⟩:∃e,(if dr x.pub then(0:Int)else 40)=e:=⟨_,rfl⟩;obtain⟨e2,pR⟩:∃e,(if dr x.ver then(0:Int)else 40)=e:=⟨_,rfl⟩;have BI:=KG x.pub;rw[lS]at BI;have BJ:=KG x.ver;rw[pR]at BJ;refine VB ?_;refine yW ?_;intro b5 fK gf;refine B 4 ?_;refine CJ.mid (t:=6) (v:=.bool (decide (e1=0/\e2=0))) (E0:=[(0,_),(3,_),(5,_),(10,_),(11,_),(12,_),(13,_),(14,_),(15,_)]) zR ?_ ?_
  ·refine B 3 ?_;refine cl call43 rfl (λW hS=>by rw[<-lS];exact nQ _ W) (v:=ab e1) ?_;refine B 2 ?_;refine nf (t:=20) rfl (λax=>?_) (λax=>?_)
   ·replace ax:=ya ax;refine B 2 ?_;refine cl call43 rfl (λW hS=>by rw[<-pR];exact nQ _ W) (v:=ab e2) ?_;refine B 4 ?_;exact zAk
   replace ax:=ya ax;refine B 7 ?_;exact zAk
  refine B 2 ?_;refine CJ.mid (t:=7) (v:=.bool (decide (0<=x.cut/\x.cut<=1048576))) (E0:=[(0,_),(3,_),(5,_),(6,_),(10,_),(11,_),(12,_),(13,_),(14,_),(15,_)]) zR ?_ ?_
  ·refine B 5 ?_;refine nf (t:=29) rfl (λbY=>?_) (λbY=>?_)
   ·exact zYj
   exact zYj
  refine B 13 ?_;refine CJ.mid (t:=8) (v:=.bool (decide ((x.kind=1/\(e1=0/\e2=0)/\x.cut=0)\/(x.kind=2/\x.pub=0/\x.ver=0/\(0<=x.cut/\x.cut<=1048576))\/(x.kind=3/\(e1=0/\e2=0)/\(0<=x.cut/\x.cut<=1048576))))) (E0:=[(0,_),(3,_),(5,_),(6,_),(7,_),(10,_),(11,_),(12,_),(13,_),(14,_),(15,_),(34,_),(35,_)]) zR ?_ ?_
  ·refine av 7 ?_ ?_
   ·intro ez;refine B 3 ?_;refine nf (t:=39) rfl (λeB=>?_) (λeB=>?_)
    ·replace eB:=ya eB;refine B 7 ?_;exact Zw
    replace eB:=ya eB;refine B 7 ?_;exact Zw
   intro ez;refine av 6 ?_ ?_
   ·intro gq;refine B 5 ?_;refine nf (t:=49) rfl (λfw=>?_) (λfw=>?_)
    ·replace fw:=ya fw;refine B 5 ?_;refine nf (t:=54) rfl (λja=>?_) (λja=>?_)
     ·replace ja:=ya ja;exact zdl
     replace ja:=ya ja;exact zdl
    replace fw:=ya fw;refine B 10 ?_;exact Zw
   intro gq;refine av 6 ?_ ?_
   ·intro jz;refine B 3 ?_;refine nf (t:=60) rfl (λJ=>?_) (λJ=>?_)
    ·replace J:=ya J;exact zdl
    replace J:=ya J;exact zdl
   intro jz;refine B 2 ?_;exact Zw
  refine B 7 ?_;refine nf (t:=65) rfl (λpH=>?_) (λpH=>?_)
  ·replace pH:=ya pH;refine B 26 ?_;exact zXi
  replace pH:=ya pH;refine B 2 ?_;refine cl call332 rfl (λW hS=>Vu _ W) ?_;refine B 3 ?_;refine nf (t:=71) rfl (λlC=>?_) (λlC=>?_)
  ·replace lC:=ya lC;refine B 20 ?_;exact zXi
  replace lC:=ya lC;refine B 3 ?_;refine rq (.bool ((al (KI (l.take j)) x.dev).getD false)) (uG (ev:=Value.bool) underlying409 underlying3 zeroValue4 hm (bL.own (i:=1) rfl) rfl rfl) (nxl _) ?_;refine av 3 ?_ ?_
  ·intro jj;refine B 12 ?_;exact zXi
  intro jj;refine B 6 ?_;refine N3 (i:=1) (ev:=Value.bool) (v:=true) rfl hm underlying409 underlying3 rfl rfl rfl rfl ?_;intro m3 aZ;refine xY ?_;refine PJ.again (m3,j+1) ⟨by dsimp only;omega,by rw[n6e hx];exact aZ,bT.next hx ⟨⟨by rw[<-BI,<-BJ];assumption,by assumption⟩,by assumption⟩⟩ zZ zR (by rw[n6e hx];rfl) rfl zP
 intro ai;refine B 14 ?_;exact zXi
theorem oO{C:Cx}{E:Env}{G:Gh}{T U:Nat}{x y:Operand}{a b:Bool}(hU:C.P.underlying T=some .bool)(hx:ev E x=some (.bool a))(hy:ev E y=some (.bool b)):RV C G L H E (.binOp .neq T x y U) (.bool (a != b)):=λd ty pos J g ac W hF _=>by
 have h1:(Op.equalIn (9999+1) T (.bool a) (.bool b)).run C.P W= .ok (a==b) W:=by
  generalize 9999=n;exact Yg
 have h2:(binOp .neq T (.bool a) (.bool b)).run C.P W= .ok (.bool (a != b)) W:=by
  have e:binOp .neq T (.bool a) (.bool b)=(do pure (.bool (!(<-Op.equalIn (9999+1) T (.bool a) (.bool b))))):=rfl;rw[e,Sem.run_bind,h1];rfl
 have h3:(eqGuard .neq T x y (.bool a) (.bool b)).run C.P W= .ok () W:=by simp[eqGuard]
 simp only[execOp,hF.ev hx,hF.ev hy,Sem.run_bind,h3,h2,Result.andThen];rfl
def BK (g:Gp) (own:Bool) (au:Int) (x:Ch):Bool:=(gw g.ms x.dev==decide (x.kind=1))||(own&&decide (x.dev=au))
def gy (g:Gp) (au:Int) (l:List Ch):Bool:= !((gw g.ms au != decide (0<g.epoch))||(decide (g.epoch=0)&&(decide (l.length=0)|| !decide ((l[0]?.map (·.dev))=some au))))&& !(l.any (BK g (gw g.ms au) au))
section
variable (G:Gv)(N:Nat)(w:World)(hN:N<=w.heap.size)(hG:aM N w G)
include hN hG
theorem noe(d:Int):Calls prog 342 #[.agg (aY G),ab d] w (ar w (.tuple #[ab (jq G.g.ms d:Int),.bool (gw G.g.ms d)])):=by
 refine eN func342 ntmps342 ?_;refine aU 2 ?_;intro b2 w2 bV bj dz cL cR;refine B 9 ?_;refine cl call364 rfl (λW hS=>n3r G.g.ms (by have:=hG.mn;omega) N G.ma G.mc W aT (hG.ms.us hS.sm) d) ?_;refine B 7 ?_;refine nK results342 rfl rfl A1 ?_ ?_;all_goals rfl
theorem nqk(b1 b2 b3:Nat)(own:Bool)(au:Int)(aW:w.heap[b1]? =some (oC (aY G) 86))(bV:w.heap[b2]? =some (oC #[.bool own] 4))(bQ:w.heap[b3]? =some (oC #[ab au] 3))(x:Ch):Calls prog 359 #[.agg (ff x),ptr b1 0,ptr b2 0,ptr b3 0] w (ar w (.bool (BK G.g own au x))):=by
 have bJ:¬Gh.no.X b1:=λh=>h;have bj:¬Gh.no.X b2:=λh=>h;have aZ:¬Gh.no.X b3:=λh=>h;refine eN func359 ntmps359 ?_;refine aU 2 ?_;intro b4 w4 gI iA J dL dP;refine aV 5 (.agg (aY G)) ?_;refine B 2 ?_;refine cl call342 rfl (λW hS=>noe G N W aT (hG.us hS.sm) x.dev) ?_;refine B 13 ?_;refine rx (yz underlying4 rfl rfl) ?_;refine B 1 ?_;refine nf (t:=20) rfl (λai=>?_) (λai=>?_)
 ·replace ai:=ya ai;refine B 12 ?_;exact z3j
 replace ai:=ya ai;refine B 2 ?_;refine nf (t:=22) rfl (λax=>?_) (λax=>?_)
 ·replace ax:=ya ax;refine B 10 ?_;exact z3j
 replace ax:=ya ax;refine B 10 ?_;exact z3j
theorem nLf(l:List Ch)(de:l.length<=1000000)(a:Option Addr)(cp:Nat)(aA:aj ff 5 N w a l)(au:Int):Calls prog 335 #[.agg (aY G),ab au,.slice a l.length cp] w (ar w (.bool (gy G.g au l))):=by
 refine eN func335 ntmps335 ?_;refine aU 2 ?_;intro b3 w3 bQ aZ dK cP dt;refine yX ?_;intro b4 w4 gI iA J dL dP;refine B 5 ?_;refine Rg ?_;refine cl call342 rfl (λW hS=>noe G N W aT (hG.us hS.sm) au) ?_;refine bD 4 ?_;intro b8 lI r4;refine B 6 ?_;by_cases h1:gw G.g.ms au≠decide (0<G.g.epoch)
 ·refine eA 19 (pb:=by exact zU 4 (k:=by exact qv (RV.re (v':=aK) (oO underlying4 rfl rfl) (vb An)) zT)) (k:=?_);refine B 14 ?_;exact Zx
 by_cases h2:¬G.g.epoch=0
 ·refine eA 19 (pb:=zYz) (sp:=(_::_::_::_::_::_::_::_::(some aO)::_)) (k:=?_);refine B 19 ?_;refine zPd ?_;refine B 5 ?_;exact Zx
 by_cases h3:l.length=0
 ·refine eA 19 (pb:=zYz) (sp:=[_,_,_,_,_,_,_,_,some aK,_,_,_,some aK,_,_,_,_,_,_]) (k:=?_);refine B 14 ?_;exact Zx
 obtain⟨bo,oo,cs0,to,dR,rfl,dW,hcs,ay⟩:=aA.get aa;obtain⟨x,hx⟩:=ng l 0 aa;refine eA 19 (pb:=by exact zU 4 (k:=by exact qv (RV.re (v':=aO) (oO underlying4 rfl rfl) (vb An)) (zU 12 (k:=by exact qv (ad (v:=ab x.dev) isAgg3 rfl A2 hcs zL zD (zYBX)) zT)))) (sp:=[_,_,_,_,_,_,_,_,some aK,_,_,_,some aO,_,_,_,_,_,_]) (k:=?_);refine av 6 ?_ ?_
 ·intro ai;refine B 7 ?_;exact Zx
 intro ai;refine B 12 ?_;refine zPd ?_;refine B 5 ?_;exact Zx
end
noncomputable def iD (ns:List Nd) (d:Int):List Nd:=if fX ns=0/\(al (bh ns) (512+d)).isSome=true then lb (mF (bh ns) d)else[]
noncomputable def sE (ns:List Nd) (d:Int):Int:=if fX ns=0 then(if(al (bh ns) (512+d)).isSome=true then 0 else 200)else 210
open Classical in
noncomputable def il (ns:List Nd) (d p:Int):List Nd:=if fX ns=0/\dr p then lb (cJ (mF (bh ns) d) (512+d) p)else[]
open Classical in
noncomputable def sF (ns:List Nd) (d p:Int):Int:=if fX ns=0 then(if dr p then 0 else 50)else 210
theorem EI(ns:List Nd)(d:Int):(iD ns d).length<=ns.length:=by grind [iD,nji,Zh,Vj]
theorem EJ(ns:List Nd)(d p:Int):(il ns d p).length<=ns.length+1:=by grind [il,nji,Vi,Zh,Vj]
section
variable (ns:List Nd)(hn:ns.length<=100000)(N:Nat)(a:Option Addr)(cp:Nat)(w:World)(hN:N<=w.heap.size)(aA:aj dJ 2 N w a ns)
include hn cp hN aA
theorem ndl(d:Int)(hd:bM d):Calls prog 346 #[.agg #[.slice a ns.length cp],ab d] w (nv w dD 2 325 (iD ns d) (λs=>.tuple #[.agg #[s],ab (sE ns d)])):=by
 rcases nti ns with h|h
 ·by_cases h2:(al (bh ns) (512+d)).isSome=true
  ·have e1:iD ns d=lb (mF (bh ns) d):=by unfold iD;rw[if_pos ⟨h,h2⟩]
   have e2:sE ns d=0:=by unfold sE;rw[if_pos h,if_pos h2]
   rw[e2];grind [njs]
  have e1:iD ns d=[]:=by unfold iD;rw[if_neg λg=>h2 g.2]
  have e2:sE ns d=200:=by unfold sE;rw[if_pos h,if_neg h2]
  rw[e1,e2];exact n4r ns hn N a cp w hN aA h d hd z2
 have e1:iD ns d=[]:=by unfold iD;rw[if_neg λg=>by omega]
 have e2:sE ns d=210:=by unfold sE;rw[if_neg aa]
 rw[e2];grind [nSq]
theorem ncp(d p:Int)(hd:bM d)(J:ns.length<100000):Calls prog 347 #[.agg #[.slice a ns.length cp],ab d,ab p] w (nv w dD 2 325 (il ns d p) (λs=>.tuple #[.agg #[s],ab (sF ns d p)])):=by
 rcases nti ns with h|h
 ·by_cases h2:dr p
  ·have e1:il ns d p=lb (cJ (mF (bh ns) d) (512+d) p):=by unfold il;rw[if_pos ⟨h,h2⟩]
   have e2:sF ns d p=0:=by unfold sF;rw[if_pos h,if_pos h2]
   rw[e2];grind [Q5]
  have e1:il ns d p=[]:=by unfold il;rw[if_neg λg=>h2 g.2]
  have e2:sF ns d p=50:=by unfold sF;rw[if_pos h,if_neg h2]
  rw[e2];grind [Kx]
 have e1:il ns d p=[]:=by unfold il;rw[if_neg λg=>by omega]
 have e2:sF ns d p=210:=by unfold sF;rw[if_neg aa]
 rw[e2];grind [Kv]
end
noncomputable def qU (ns:List Nd) (x:Ch):List Nd:=if x.kind=2 then iD ns x.dev else il ns x.dev x.pub
noncomputable def bC (ns:List Nd) (l:List Ch):List Nd:=l.foldl qU ns
theorem nam{x:Ch}(hx:l[j]? =some x):bC ns (l.take (j+1))=qU (bC ns (l.take j)) x:=by simp_all[nk,bC]
theorem n6g{x:Ch}(hx:l[j]? =some x)(h:x.kind=2):bC ns (l.take (j+1))=iD (bC ns (l.take j)) x.dev:=by simp_all[nam,qU]
theorem nQg{x:Ch}(hx:l[j]? =some x)(h:¬x.kind=2):bC ns (l.take (j+1))=il (bC ns (l.take j)) x.dev x.pub:=by simp_all[nam,qU]
theorem VC(l:List Ch):∀ns:List Nd,(bC ns l).length<=ns.length+l.length:=by induction l<;>grind [bC,qU,EI,EJ]
theorem nom(ns:List Nd)(l:List Ch)(j:Nat)(hj:j<=l.length):(bC ns (l.take j)).length<=ns.length+l.length:=by grind [VC]
theorem nin(ns:List Nd)(l:List Ch)(j:Nat)(h:¬j<l.length):bC ns (l.take j)=bC ns l:=by grind [List.take_of_length_le]
theorem aj.to{α:Type}{enc:α->Array Value}{n:Nat}{W:World}{xs:List α}(h:aj enc n N w a xs)(hS:St Gh.no L H W)(hw:w∈L)(hN:N<=w.heap.size)(ho:∀b off,a=some ⟨b,off,none⟩->xs=[]\/cu H b):aj enc n W.heap.size W a xs:=by
 by_cases h0:xs=[]
 ·exact .inl h0
 exact h.blk λb off e hb=>⟨by have:=(hS.links w hw).size;omega,(hS.links w hw).block b aa (λhx=>hx.elim id ((ho b off e).resolve_left h0).mem)⟩
abbrev Oe {α:Type} (N:Nat) (w:World) (enc:α->Array Value) (n:Nat) (xs:List α) (v:Value->Value):Ending->World->Prop:=db w (λq:Option Addr×Nat=>v (.slice q.1 xs.length q.2)) (λq w'=>aj enc n w'.heap.size w' q.1 xs/\∀b off,q.1=some ⟨b,off,none⟩->xs=[]\/b<N\/w.heap.size<=b)
theorem aj.lt{α:Type}{enc:α->Array Value}{n:Nat}{xs:List α}(h:aj enc n N w a xs){b off:Nat}(e:a=some ⟨b,off,none⟩):xs=[]\/b<N:=by
 grind [aj]
theorem n0d(G:Gv)(N:Nat)(w:World)(hN:N<=w.heap.size)(hG:aM N w G)(l:List Ch)(de:l.length<=1000000)(a:Option Addr)(cp:Nat)(aA:aj ff 5 N w a l)(rN:l.length<=64)(VD:∀x∈l,bM x.dev):Calls prog 304 #[.agg (aY G),.slice a l.length cp] w (Oe N w dJ 2 (bC G.g.ns l) (λs=>.agg #[s])):=by
 have JH:=hG.nn;refine eN func304 ntmps304 ?_;refine aU 2 ?_;intro b2 w2 bV bj dz cL cR;refine bD 1 ?_;intro b4 dL dP;refine B 5 ?_;refine Vy ?_;refine bD 1 ?_;intro b5 fK gf;refine B 12 ?_;refine CJ.loop (α:=(Option Addr×Nat)×World×Nat) (λp=>[(4,ptr b4 0),(5,ptr b5 0),(10,.slice a l.length cp),(11,ab (l.length:Int)),(12,ab (p.2.2:Int))]) (λp=>[(b5,oC #[.slice p.1.1 (bC G.g.ns (l.take p.2.2)).length p.1.2] 84),(b4,oC #[bS] 84)]) (λp=>[p.2.1,w]) (λp=>Gh.no) (λp=>p.2.2<=l.length/\w.heap.size<=p.2.1.heap.size/\aj dJ 2 p.2.1.heap.size p.2.1 p.1.1 (bC G.g.ns (l.take p.2.2))/\∀b off,p.1.1=some ⟨b,off,none⟩->bC G.g.ns (l.take p.2.2)=[]\/(b≠b5/\b≠b4/\(b<N\/w.heap.size<=b))) (λp=>l.length-p.2.2) ((G.na,G.nc),w,0) ⟨cd _,aC _,hG.ns.up hN R2,λb off e=>zYBU⟩ zR rfl rfl zP ?_;rintro⟨⟨ta,tc⟩,wk,j⟩ ⟨hj,Zy,cB,bT⟩;dsimp only at hj Zy cB bT ⊢;refine av 6 ?_ ?_
 ·intro ai;refine B 5 ?_;obtain⟨bo,oo,cs0,to,dR,rfl,dW,hcs,ay⟩:=aA.get aa;obtain⟨x,hx⟩:=ng l j aa;have hd:=VD x (cF hx);have Ao:=nom G.g.ns l j aa;refine VB ?_;refine yW ?_;intro b7 ie lu;refine av 10 ?_ ?_
  ·intro ax;refine B 4 ?_;refine KJ ?_;refine nN (enc:=dD) (m:=2) (t:=325) (xs:=iD (bC G.g.ns (l.take j)) x.dev) (v:=λs=>.tuple #[.agg #[s],ab (sE (bC G.g.ns (l.take j)) x.dev)]) (first:=[]) (cap:=[]) rfl call346 rfl rfl rfl tB (λW hS=>ndl (bC G.g.ns (l.take j)) aa W.heap.size ta tc W (aC _) (cB.to hS A0 (aC _) (λb off e=>zYh)) x.dev hd) ?_;intro W9 a9 aq qV jS uK oP EK;have J:=jS.under;simp only[nD,eI,gB,vh,and_true]at J;have tG:=uK.size;have a6:=(jS.links w A1).size;refine B 11 ?_;refine PJ.again ((a9,aq),qV,j+1) ⟨by dsimp only;omega,by dsimp only;omega,by dsimp only;rw[n6g hx ew];exact oP,λb off e=>zYBk⟩ zZ zR (by rw[n6g hx ew];rfl) rfl zP
  intro ax;refine B 6 ?_;refine KJ ?_;refine nN (enc:=dD) (m:=2) (t:=325) (xs:=il (bC G.g.ns (l.take j)) x.dev x.pub) (v:=λs=>.tuple #[.agg #[s],ab (sF (bC G.g.ns (l.take j)) x.dev x.pub)]) (first:=[]) (cap:=[]) rfl call347 rfl rfl rfl tB (λW hS=>ncp (bC G.g.ns (l.take j)) aa W.heap.size ta tc W (aC _) (cB.to hS A0 (aC _) (λb off e=>zYh)) x.dev x.pub hd aa) ?_;intro W9 a9 aq qV jS uK oP EK;have J:=jS.under;simp only[nD,eI,gB,vh,and_true]at J;have tG:=uK.size;have a6:=(jS.links w A1).size;refine B 11 ?_;refine PJ.again ((a9,aq),qV,j+1) ⟨by dsimp only;omega,by dsimp only;omega,by dsimp only;rw[nQg hx ew];exact oP,λb off e=>zYBk⟩ zZ zR (by rw[nQg hx ew];rfl) rfl zP
 intro ai;refine B 6 ?_;rw[nin _ _ _ aa]at cB bT ⊢;refine B 6 ?_;exact bH (.inl rfl) results304 aL λW hS=>⟨(ta,tc),rfl,hS.base A1 zJ,cB.to hS A0 (aC _) (λb off e=>zYU),λb off e=>(bT b off e).imp id (λh=>h.2.2)⟩
noncomputable def jy (ns:List Nd) (au:Int) (i:Nat):List (Int×Int):=(List.range i).flatMap λ(t:Nat)=>(nG ns (((gu au)[t]?).getD 0)).map λn=>((t:Int)+1,n)
noncomputable def im (ns:List Nd) (au:Int):List (Int×Int):=jy ns au 9
theorem nHn(ns:List Nd)(au:Int){s:Int}(hs:(gu au)[i]? =some s):jy ns au (i+1)=jy ns au i++(nG ns s).map λn=>((i:Int)+1,n):=by simp[jy,List.range_succ,hs]
theorem nxn(ns:List Nd)(au:Int)(i:Nat):∀k,jy ns au i <+:jy ns au (i+k)
 |0=>List.prefix_refl _
 |k+1=>(nxn ns au i k).trans (by
  grind [jy,List.range_succ])
theorem KK{au:Int}{s:Int}(hs:(gu au)[i]? =some s)(hi:i<9){p:List (Int×Int)}(h:p <+:(nG ns s).map λn=>((i:Int)+1,n)):jy ns au i++p <+:im ns au:=by
 have h1:jy ns au i++p <+:jy ns au (i+1):=by rw[nHn ns au hs];exact(List.prefix_append_right_inj _).2 h
 refine h1.trans ?_;have h2:=nxn ns au (i+1) (8-i)
 grind [jy,im,gu,nG]
theorem nTk(ns:List Nd)(au:Int):∀i,(jy ns au i).length<=1024*i
 |0=>by simp[jy]
 |i+1=>by
  have h1:=nTk ns au i
  grind [nOl,jy,List.range_succ]
theorem EL(ns:List Nd)(au:Int):(im ns au).length<=9216:=nTk ns au 9
noncomputable def oQ (ns:List Nd) (i:Nat) (s:Int) (j:Nat):List (Int×Int):=((nG ns s).take j).map λn=>((i:Int)+1,n)
theorem EM(ns:List Nd)(i:Nat)(s:Int):oQ ns i s 0=[]:=rfl
theorem n3m{s:Int}(h:(nG ns s)[j]? =some n):oQ ns i s (j+1)=oQ ns i s j++[((i:Int)+1,n)]:=by simp_all[oQ,nk]
theorem KL(ns:List Nd)(i:Nat)(s:Int)(h:¬j<(nG ns s).length):oQ ns i s j=(nG ns s).map λn=>((i:Int)+1,n):=by grind [oQ,List.take_of_length_le]
theorem KM(ns:List Nd)(i:Nat)(s:Int)(j:Nat):oQ ns i s j <+:(nG ns s).map λn=>((i:Int)+1,n):=(List.take_prefix _ _).map _
def EN (p:Int×Int):List Value:=[ab p.1,ab p.2]
def Zz (b1 b2:Nat) (ns:List Nd) (ta:Option Addr):aJ:=λk=>k=b1\/k=b2\/(ns≠ []/\∃off,ta=some ⟨k,off,none⟩)
theorem aj.toG{α:Type}{enc:α->Array Value}{n:Nat}{W:World}{xs:List α}{G:Gh}(h:aj enc n N w a xs)(hS:St G L H W)(hw:w∈L)(hN:N<=w.heap.size)(ho:∀b off,a=some ⟨b,off,none⟩->xs=[]\/(b<N->¬G.X b/\cu H b)):aj enc n W.heap.size W a xs:=by
 by_cases h0:xs=[]
 ·exact .inl h0
 exact h.blk λb off e hb=>⟨by have:=(hS.links w hw).size;omega,(hS.links w hw).block b aa (λhx=>hx.elim ((ho b off e).resolve_left h0 hb).1 ((ho b off e).resolve_left h0 hb).2.mem)⟩
theorem nip(ns:List Nd)(hn:ns.length<=100000)(au:Int)(lT:bM au)(b1 b2:Nat)(NT:Nat)(ta:Option Addr)(tc:Nat)(W:World)(cz:NT<=W.heap.size)(cB:aj dJ 2 NT W ta ns)(aW:W.heap[b1]? =some (oC #[ab au] 3))(bV:W.heap[b2]? =some (oC #[.slice ta ns.length tc] 84)):zj prog 360 [ptr b1 0,ptr b2 0] EN (zk (im ns au)) (Is (im ns au)) (λ_=>False) (Zz b1 b2 ns ta) W:=by
 intro l M I X0 hM hI hX hy h0;have bJ:¬(dI hM (λ_=>False) (hI [] _)).X b1:=by rintro(h|h);exact(hM _ h).2.2 (.inl rfl);exact h.elim
 have bj:¬(dI hM (λ_=>False) (hI [] _)).X b2:=by rintro(h|h);exact(hM _ h).2.2 (.inr (.inl rfl));exact h.elim
 have qJ:=(bO.1 aW).1;have KA:=(bO.1 bV).1;have qx:=npm lT;refine nP (dI hM (λ_=>False) (hI [] _)) [] (vs:=[_,_,_]) func360 rfl ntmps360 rfl (Nl hM (hI [] _) h0 zP (by simp[ky]) zP) ?_;refine B 3 ?_;refine nN (enc:=ak) (m:=1) (t:=3) (xs:=gu au) (v:=λs=>.tuple #[s,ab 0]) (first:=[]) (cap:=[]) rfl call361 rfl rfl rfl nh (λW hS=>nvn au lT W) ?_;intro Wq aq aR J aD bx lV ZA;have ZB:=aD.sizes;replace ZB:=yb ZB;have dv:=bx.size;have ZC:=aD.under;replace ZC:=yf ZC;refine B 15 ?_;refine CJ.loop (α:=Nat×aJ) (λp=>[(0,yv l),(1,ptr b1 0),(2,ptr b2 0),(17,.slice aq (gu au).length aR),(18,ab ((gu au).length:Int)),(19,ab (p.1:Int))]) (λp=>[]) (λp=>[J,W]) (λp=>dI hM p.2 (hI (jy ns au p.1) p.2)) (λp=>p.1<=9/\∀k,p.2 k->J.heap.size<=k) (λp=>9-p.1) (0,λ_=>False) ⟨cd _,λ_ h=>h.elim⟩ zR rfl rfl zP ?_;rintro⟨i,V⟩ ⟨hi,hV⟩;dsimp only at hi hV ⊢;have ed:W.heap.size<=J.heap.size:=by omega
 clear bJ bj;have bJ:¬(dI hM V (hI (jy ns au i) V)).X b1:=by rintro(h|h);(exact(hM _ h).2.2 (.inl rfl));(have:=hV _ h;omega)
 have bj:¬(dI hM V (hI (jy ns au i) V)).X b2:=by rintro(h|h);(exact(hM _ h).2.2 (.inr (.inl rfl)));(have:=hV _ h;omega)
 refine av 6 ?_ ?_
 ·intro ai;refine B 5 ?_;obtain⟨bq,oq,Q2,tq,Q3,rfl,hbq,pU,pV⟩:=lV.get aa;obtain⟨sb,Bc⟩:=ng (gu au) i aa;have bR:=ZA _ rfl;dsimp only at bR;refine B 3 ?_;refine rx (ad (v:=ab sb) isAgg3 rfl A0 pU (λhx=>by rcases hx with hx|hx;(have:=(hM _ hx).1;omega);(have:=hV _ hx;omega)) trivial (by have:=nI (enc:=λx=>(ak x).toArray) (n:=1) pV Bc rfl zF;simpa[ak]using this)) ?_;refine aV 6 (.agg #[.slice ta ns.length tc]) ?_;refine B 1 ?_;refine nN (enc:=ak) (m:=1) (t:=3) (xs:=nG ns sb) (v:=λs=>.tuple #[s,ab (Oa ns sb)]) (first:=[]) (cap:=[]) rfl call362 rfl rfl rfl nh (λW2 hS=>n7h ns hn W2.heap.size ta tc W2 (aC _) (cB.toG hS A1 cz (λb off e=>by by_cases h0:ns=[];(exact .inl h0);exact .inr (λhb=>⟨λhx=>by rcases hx with hx|hx;(exact(hM _ hx).2.2 (.inr (.inr ⟨h0,off,e⟩)));(have:=hV _ hx;omega),trivial⟩))) sb) ?_;intro Wr a8 Er wr KN cx pW BD;have Ao:=nOl ns sb;have tH:=cx.size;have ei:=(KN.links J A0).size;have bI:∀j,V j->j<Wr.heap.size:=λj hj=>KN.xlt j (.inr hj);refine B 15 ?_;refine CJ.loop (α:=Nat×aJ) (λp=>[(0,yv l),(1,ptr b1 0),(2,ptr b2 0),(6,ab (i:Int)),(17,.slice (some ⟨bq,oq,none⟩) (gu au).length aR),(18,ab ((gu au).length:Int)),(19,ab (i:Int)),(30,.slice a8 (nG ns sb).length Er),(31,ab ((nG ns sb).length:Int)),(32,ab (p.1:Int))]) (λp=>[]) (λp=>[wr,J,W]) (λp=>dI hM p.2 (hI (jy ns au i++oQ ns i sb p.1) p.2)) (λp=>p.1<=(nG ns sb).length/\∀k,p.2 k->V k\/wr.heap.size<=k) (λp=>(nG ns sb).length-p.1) (0,V) ⟨cd _,λ_ h=>.inl h⟩ zR rfl (by rw[EM,dG]) zP ?_
  rintro⟨j,V1⟩ ⟨hj,vD⟩;dsimp only at hj vD ⊢;have ZD:∀k,V1 k->W.heap.size<=k:=λk hk=>by rcases vD k hk with h|h;(have:=hV k h;omega);omega
  refine av 6 ?_ ?_
  ·intro ax;refine B 5 ?_;obtain⟨bn,on,ej,tn,NK,rfl,pj,cI,bu⟩:=pW.get aa;obtain⟨n,xG⟩:=ng (nG ns sb) j aa;have bz:=BD _ rfl;dsimp only at bz;refine B 2 ?_;refine rx (ad (v:=ab n) isAgg3 rfl A0 cI (λhx=>by rcases hx with hx|hx;(have:=(hM _ hx).1;omega);(rcases vD _ hx with h|h;(have:=bI _ h;omega);omega)) trivial (by have:=nI (enc:=λx=>(ak x).toArray) (n:=1) bu xG rfl zF;simpa[ak]using this)) ?_;refine B 9 ?_;refine Zo (λ_=>False) id Rh (V:=V1) (λV=>hI ((jy ns au i++oQ ns i sb j)++[((i:Int)+1,n)]) V) hX ZD rfl rfl rfl rfl (λW1 ZE mY=>hy (jy ns au i++oQ ns i sb j) ((i:Int)+1,n) V1 W1 (by rw[lP,<-n3m xG];exact KK Bc aa (KM ns i sb (j+1))) ZE mY) ?_ ?_
   ·intro V2 II yr;have Ri:=yr wr A0;refine B 11 ?_;refine PJ.again (j+1,V2) ⟨by dsimp only;omega,λk hk=>by rcases Ri k hk with h|h;(exact vD k h);exact .inr h⟩ zZ zR rfl (by rw[n3m xG,<-lP];rfl) zP
   intro V2 II yr;have Ri:=yr wr A0;refine B 13 ?_;exact CZ (.inl rfl) results360 A2 (λk hk=>by rcases Ri k hk with h|h;(exact ZD k h);omega) (by intro k hk hx;simp at hx) (λA hA=>.inr hA)
  intro ax;refine B 10 ?_;refine PJ.again (i+1,V1) ⟨by dsimp only;omega,λk hk=>by rcases vD k hk with h|h;(exact hV k h);omega⟩ zZ zR rfl (by rw[nHn ns au Bc,KL ns i sb aa]) zP
 intro ai;refine B 4 ?_;exact CZ (.inr rfl) results360 A1 (λk hk=>by have:=hV k hk;omega) (by intro k hk hx;simp at hx) (λA hA=>.inl ⟨jy ns au i,by unfold im;rw[show i=9 by omega],hA⟩)
def oj (p:Int×Int):List Value:=[ab p.2,ab p.1,ab 0,bS]
def KO (p:Int×Int):Array Value:=#[ab p.2,ab p.1,ab 0,bS]
theorem Rj(p:Int×Int):(oj p).length=4:=rfl
theorem n6p(p:Int×Int):∀u∈oj p,u.oneCell'=true:=by intro u hu;simp[oj]at hu;rcases hu with rfl|rfl|rfl|rfl<;>rfl
theorem KP:prog.info? 145=some Tryz.t145:=by kernel_rfl
theorem Of:mD prog 97 145 4:=⟨underlying97,Tryz.t145,.agg #[ab 0,ab 0,ab 0,bS],KP,rfl,rfl,rfl,by decide⟩
noncomputable def Cw (g:Gp) (au:Int) (l:List Ch):Bool:=fZ l&&gy g au l
noncomputable def gz (g:Gp) (au:Int) (l:List Ch):List (Int×Int):=if cY g=true/\Cw g au l=true then im (bC g.ns l) au else[]
noncomputable def gS (g:Gp) (au:Int) (l:List Ch):Int:=if cY g=true then(if Cw g au l=true then 0 else 221)else 1
theorem nIk(h:fZ l=true):(∀x∈l,bM x.dev)/\l.length<=64:=⟨λx hx=>by obtain⟨i,hi⟩:=iB.1 hx;exact((Cv.1 h).1 i x (aG hi) hi).1.2,(Cv.1 h).2⟩
theorem nnl(ta:Option Addr)(n tc:Nat)(au:Int)(w:World):Calls prog 336 #[.agg #[.slice ta n tc],ab au] w (db w (λq:Nat×Nat=>.func (.func 360) #[] #[ptr q.1 0,ptr q.2 0]) (λq w1=>w.heap.size<=q.1/\w.heap.size<=q.2/\w1.heap[q.1]? =some (oC #[ab au] 3)/\w1.heap[q.2]? =some (oC #[.slice ta n tc] 84))):=by
 refine eN func336 ntmps336 ?_;refine aU 2 ?_;intro b2 w2 bV bj dz cL cR;refine yX ?_;intro b3 w3 bQ aZ J cP dt;refine B 10 ?_;refine pe (b3,b2) results336 rfl A2 rfl ?_;exact λW hS=>⟨by have:=cP.2.1;omega,by have:=cL.1;omega,hS.old A0 bQ aZ trivial,hS.old A1 bV bj trivial⟩
section
variable (G:Gv)(N:Nat)(w:World)(hN:N<=w.heap.size)(hG:aM N w G)(l:List Ch)(de:l.length<=1000000)(a:Option Addr)(cp:Nat)(aA:aj ff 5 N w a l)(au:Int)
include hN hG de cp aA au
theorem ndr(hv:cY G.g=false):Calls prog 295 #[.agg (aY G),ab au,.slice a l.length cp] w (nv w oj 4 145 [] (λs=>.tuple #[s,ab 1])):=by
 refine eN func295 ntmps295 ?_;refine aU 2 ?_;intro b3 w3 bQ aZ dK cP dt;refine bD 1 ?_;intro b6 jb J;refine aV 6 (.agg (aY G)) ?_;refine zRg ?_;refine Cl ?_;exact ztj
theorem nhp(hv:cY G.g=true)(hf:fZ l=false):Calls prog 295 #[.agg (aY G),ab au,.slice a l.length cp] w (nv w oj 4 145 [] (λs=>.tuple #[s,ab 221])):=by
 refine eN func295 ntmps295 ?_;refine aU 2 ?_;intro b3 w3 bQ aZ dK cP dt;refine bD 1 ?_;intro b6 jb J;refine VE ?_;refine B 9 ?_;refine cl call333 rfl (λW hS=>ndd l de N a cp W aT (aA.us hS.sm)) ?_;refine rq aK (ij rfl) (by rw[hf];rfl) ?_;refine B 18 ?_;exact ztj
theorem n5o(hv:cY G.g=true)(hf:fZ l=true)(hp:gy G.g au l=false):Calls prog 295 #[.agg (aY G),ab au,.slice a l.length cp] w (nv w oj 4 145 [] (λs=>.tuple #[s,ab 221])):=by
 refine eN func295 ntmps295 ?_;refine aU 2 ?_;intro b3 w3 bQ aZ dK cP dt;refine bD 1 ?_;intro b6 jb J;refine VE ?_;refine B 9 ?_;refine zGf ?_;refine VF ?_;refine B 2 ?_;refine zdh ?_;refine rq aK (ij rfl) (by rw[hp];rfl) ?_;refine B 12 ?_;exact ztj
theorem nKr(lT:bM au)(hv:cY G.g=true)(hf:fZ l=true)(hp:gy G.g au l=true):Calls prog 295 #[.agg (aY G),ab au,.slice a l.length cp] w (nv w oj 4 145 (im (bC G.g.ns l) au) (λs=>.tuple #[s,ab 0])):=by
 obtain⟨VD,rN⟩:=nIk hf;have JH:=hG.nn;have Ao:=VC l G.g.ns;obtain⟨T,hT⟩:∃T,bC G.g.ns l=T:=⟨_,rfl⟩;rw[hT]at Ao ⊢;have Cy:=EL T au;refine Im Gh.no [] (vs:=[_,_,_]) func295 rfl ntmps295 rfl (AX w) ?_;refine aU 2 ?_;intro b3 w3 bQ aZ dK cP dt;refine bD 1 ?_;intro b6 jb od;refine VE ?_;refine B 9 ?_;refine zGf ?_;refine VF ?_;refine B 2 ?_;refine zdh ?_;refine rq aO (ij rfl) (by rw[hp];rfl) ?_;refine B 9 ?_;refine Rg ?_;refine ny (α:=Option Addr×Nat) (v:=λq=>.agg #[.slice q.1 T.length q.2]) (Φ:=λW q w1=>aj dJ 2 w1.heap.size w1 q.1 T/\∀b off,q.1=some ⟨b,off,none⟩->T=[]\/b<N\/W.heap.size<=b) call304 rfl rfl rfl (λW hS=>by rw[<-hT];exact n0d G N W aT (hG.us hS.sm) l de a cp (aA.us hS.sm) rN VD) ?_;rintro Wr ⟨ta,tc⟩ wr KN bw ⟨rQ,fe⟩;dsimp only at rQ fe ⊢;have aq:=KN.under;replace aq:=yf aq;have tH:=bw.size;have c0:=(KN.links w A1).size;refine B 1 ?_;refine ny (α:=Nat×Nat) (v:=λq:Nat×Nat=>.func (.func 360) #[] #[ptr q.1 0,ptr q.2 0]) (Φ:=λW q w1=>W.heap.size<=q.1/\W.heap.size<=q.2/\w1.heap[q.1]? =some (oC #[ab au] 3)/\w1.heap[q.2]? =some (oC #[.slice ta T.length tc] 84)) call336 rfl rfl rfl (λW hS=>nnl ta _ tc au W) ?_;rintro Wn q wn pZ wv ⟨oi,mr,jR,kH⟩;try dsimp only at oi mr jR kH
 have EA:=(bO.1 jR).1;have EB:=(bO.1 kH).1;have Og:=wv.size;have c4:=(pZ.links wr A0).size;have tI:=pZ.under;replace tI:=yf tI;have J:∀b off,ta=some ⟨b,off,none⟩->T=[]\/b≠b6:=λb off e=>by rcases fe b off e with h|h|h;(exact .inl h);(exact .inr aa);(exact .inr aa)
 refine B 3 ?_;refine Xd (f:=360) (cap:=[ptr q.1 0,ptr q.2 0]) (α:=Int×Int) (enc:=EN) (Pre:=zk (im T au)) (Fin:=Is (im T au)) (RO:=Zz q.1 q.2 T ta) (MI:=λ_=>False) rfl call360 (λW' W2 hS hB=>by have qJ:=(hS.links wn A0).size;have KA:=(hS.links wr A1).size;exact nip T aa au lT q.1 q.2 W'.heap.size ta tc W2 hB.size ((rQ.toG hS A1 (aC _) (λb off e=>(J b off e).imp id (λh _=>⟨λhx=>hx,zYn⟩))).up (aC _) (λk hk=>hB.block k hk)) ZF ZG) (λ_ _ _ hk=>hk.elim) (λW' hS k hk=>by have qJ:=(hS.links wn A0).size;have KA:=(hS.links wr A1).size;simp only[jv,kS,ft,jc,or_false];rcases hk with rfl|rfl|⟨h0,off,e⟩;(exact⟨by omega,by omega,λh=>h⟩);(exact⟨by omega,by omega,λh=>h⟩);exact⟨by have:=(rQ.lt e).resolve_left h0;omega,(J _ off e).resolve_left h0,λh=>h⟩) (λ_=>rfl) (λpre G' Hc=>G'=Gh.no/\∃r:Rw,r.Fr Gh.no [wn,wr,w3,w]/\r.Fit 4 pre/\Hc=[(b6,oC #[r.val pre.length] 97)]++(r.hp oj 145 pre++[])) (λ_ _ _=>False) ⟨rfl,.nil,True.intro,rfl,rfl⟩ zF ?_ ?_ ?_
 ·rintro pre x G' Hc l Dk rec W1 M V Wy pJ ui gX ⟨rfl,r,aB,af,rfl⟩ fM jA Np vE cI Io;simp only[ah]at fM vE;have bW:r.ge wn.heap.size:=Rw.ge_of aB A0;have hpl:=gX.length_le;simp only[eU,kb,oe]at hpl;have YT:∀p∈r.hp oj 145 pre,M p.1\/V p.1:=λp hp=>cI.loc.h p zVc;refine B 8 ?_;refine nHc pJ ?_;refine aV 5 (.agg #[ab x.2,ab x.1,ab 0,bS]) ?_;refine zkg ?_;refine yW ?_;intro bu ed ei;refine jf (r:=r) (xs:=pre) (zs:=[x]) (enc:=oj) (m:=4) (H0:=[(bu,oC #[ab x.2,ab x.1,ab 0,bS] 145),(b6,oC #[r.val pre.length] 97)]) (H1:=(l,.loop {rec with state:=.busy})::eV Dk) IA Of Rj rfl rfl rfl rfl (bN.one (z:=x) Rj n6p underlying97 (bL.own (i:=0) rfl)) af (Rw.Fr_ext YT) zP vn ?_;intro ZH Rk Rl KQ Rm;replace KQ:=yb KQ;refine B 3 ?_;refine lx ?_;refine Jk (G2:=Gh.no) (Hc2:=[(b6,oC #[(Rw.row ZH Rk Rl).val (pre++[x]).length] 97)]++((Rw.row ZH Rk Rl).hp oj 145 (pre++[x])++[])) cI jA ⟨λ_ h=>h,λ_ h=>.inl h,λ_ h=>.inl h,(nej rfl (KQ.imp id (λh=>h.1))),zpd⟩ (Jl pJ ui) ?_;exact⟨rfl,.row ZH Rk Rl,KQ.elim (λh=>Rw.Fr_at aB h) (λh=>.inr h.2),Rm,rfl⟩
 ·rintro lF l Dk rec G' Hc rfl fM jA ⟨rfl,r,aB,af,rfl⟩;replace fM:=yb fM;have bW:r.ge wn.heap.size:=Rw.ge_of aB A0;refine YU λWd vf=>?_;have pj:=Vf vf;refine B 5 ?_;refine fE (i:=0) rfl sizeOf97 rfl rfl rfl (Rw.val_size _ _) rfl (Rw.val_one _ _) ?_;refine B 4 ?_;have hq:=λ(k:Nat)=>Rw.mem_ge (enc:=oj) (t:=145) (xs:=im T au) (k:=k) bW;refine PJ.reH (H':=(b6,oC #[r.val (im T au).length] 97)::(r.hp oj 145 (im T au)++(l,.loop rec)::eV Dk)) (zYBb) ?_;refine Ea (b:=b6) (r:=r) (xs:=im T au) (.inl rfl) results295 isAgg97 rfl rfl zP A0 (pj _ A0).1 rfl af (λp hp=>⟨.tail _ (dQ.2 (.inl hp)),(pj p (dQ.2 (.inr (dQ.2 (.inl hp))))).1⟩) (Rw.ge_of aB A3) (λW H' hS di=>(hS.links w A3).below λk hk hx=>?_);exact zqj
 exact Xe
theorem n4b(lT:bM au):Calls prog 295 #[.agg (aY G),ab au,.slice a l.length cp] w (nv w oj 4 145 (gz G.g au l) (λs=>.tuple #[s,ab (gS G.g au l)])):=by
 cases hv:cY G.g with
 |false=>rw[show gz G.g au l=[] by simp[gz,hv],show gS G.g au l=1 by simp[gS,hv]];grind [ndr]
 |true=>cases hf:fZ l with
  |false=>rw[show gz G.g au l=[] by simp[gz,Cw,hf],show gS G.g au l=221 by simp[gS,Cw,hv,hf]];grind [nhp]
  |true=>cases hp:gy G.g au l with
   |false=>rw[show gz G.g au l=[] by simp[gz,Cw,hp],show gS G.g au l=221 by simp[gS,Cw,hv,hp]];grind [n5o]
   |true=>rw[show gz G.g au l=im (bC G.g.ns l) au by grind [gz,Cw],show gS G.g au l=0 by grind [gS,Cw]];grind [nKr]
end
structure CA where
 u:Int
 ba:Option Addr
 bc:Nat
 body:List UInt8
def VG (x:CA):Array Value:=#[ab x.u,.slice x.ba x.body.length x.bc]
structure Bx where
 node:Int
 level:Int
 w:CA
def xh (x:Bx):Array Value:=#[ab x.node,ab x.level,ab x.w.u,.slice x.w.ba x.w.body.length x.w.bc]
structure We where
 dev:Int
 w:CA
def xi (x:We):Array Value:=#[ab x.dev,ab x.w.u,.slice x.w.ba x.w.body.length x.w.bc]
structure Cm where
 folder:Int
 epoch:Int
 par:Nat->Int
 author:Int
 chs:List Ch
 ca:Option Addr
 cc:Nat
 path:List Int
 pa:Option Addr
 pc:Nat
 bxs:List Bx
 ba:Option Addr
 bc:Nat
 wes:List We
 wa:Option Addr
 wc:Nat
 conf:Nat->Int
 sr:Int
 ss:Int
def cW (c:Cm):Array Value:=(ab c.folder::ab c.epoch::th c.par (ab c.author:: .slice c.ca c.chs.length c.cc:: .slice c.pa c.path.length c.pc:: .slice c.ba c.bxs.length c.bc:: .slice c.wa c.wes.length c.wc::th c.conf [ab c.sr,ab c.ss])).toArray
def uL (N:Nat) (w:World) (x:CA):Prop:=x.body=[]\/∃b off,x.ba=some ⟨b,off,none⟩/\b<N/\cD w b off x.body
theorem uL.up{J:Nat}{w':World}{x:CA}(h:uL N w x)(hN:N<=J)(hw:∀k,k<N->w'.heap[k]? =w.heap[k]?):uL J w' x:=by
 rcases h with h|⟨b,off,h1,h2,h3⟩
 ·exact .inl h
 exact .inr ⟨b,off,h1,by omega,h3.up (hw b h2)⟩
structure dc (N:Nat) (w:World) (c:Cm):Prop where
 chs:aj ff 5 N w c.ca c.chs
 path:aj encI 1 N w c.pa c.path
 bxs:aj xh 4 N w c.ba c.bxs
 wes:aj xi 3 N w c.wa c.wes
 bb:∀x∈c.bxs,uL N w x.w
 wb:∀x∈c.wes,uL N w x.w
structure mK (c:Cm):Prop where
 bp:gY c.par
 bf:gY c.conf
 chs:c.chs.length<=10
 path:c.path.length<=12
 bxs:c.bxs.length<=40
 wes:c.wes.length<=10
 bb:∀x∈c.bxs,x.w.body.length<=200
 wb:∀x∈c.wes,x.w.body.length<=200
theorem dc.up{J:Nat}{w':World}{c:Cm}(h:dc N w c)(hN:N<=J)(hw:∀k,k<N->w'.heap[k]? =w.heap[k]?):dc J w' c:=⟨h.chs.up hN hw,h.path.up hN hw,h.bxs.up hN hw,h.wes.up hN hw,λx hx=>(h.bb x hx).up hN hw,λx hx=>(h.wb x hx).up hN hw⟩
theorem dc.us{w':World}{c:Cm}(h:dc N w c)(hw:∀k,k<N->w'.heap[k]? =w.heap[k]?):dc N w' c:=h.up (aC _) hw
def BL (x:CA):Prop:=dr x.u/\16<=x.body.length/\x.body.length<=65552
open Classical in
noncomputable def CB (x:CA):Int:=if BL x then 0 else 90
theorem ni{x:CA}:CB x=0↔BL x:=by grind [CB]
theorem ZI{x:CA}(h:¬BL x):ab 90=ab (CB x):=by grind [CB]
theorem nHk{x:CA}(h:BL x):ab 0=ab (CB x):=by grind [CB]
def jT {α:Type} (p:Nat->α->Prop) (xs:List α) (j:Nat):Prop:=∀i x,i<j->xs[i]? =some x->p i x
theorem jT.next{α:Type}{p:Nat->α->Prop}{xs:List α}{x:α}(h:jT p xs j)(hx:xs[j]? =some x)(hp:p j x):jT p xs (j+1):=by
 grind [jT]
theorem jT.all{α:Type}{p:Nat->α->Prop}{xs:List α}(h:jT p xs j)(hj:¬j<xs.length):∀i x,xs[i]? =some x->p i x:=λi x hx=>h i x cM hx
def Rn (x:Bx):Prop:=(1<=x.node/\x.node<1024/\1<=x.level/\x.level<=9)/\BL x.w
def Ro (l:List We) (i:Nat) (x:We):Prop:=bM x.dev/\(∀y,0<i->l[i-1]? =some y->y.dev<x.dev)/\BL x.w
structure CkP (c:Cm):Prop where
 fo:BG c.folder
 e1:1<=c.epoch
 e2:c.epoch<=1099511627776
 au:bM c.author
 ch:fZ c.chs=true
 pl:c.path.length=10
 bl:c.bxs.length<=1024
 wl:c.wes.length<=512
 path:∀(i:Nat) x,c.path[i]? =some x->dr x
 box:∀(i:Nat) x,c.bxs[i]? =some x->Rn x
 wel:∀i x,c.wes[i]? =some x->Ro c.wes i x
open Classical in
noncomputable def ou (c:Cm):Int:=if CkP c then 0 else 220
theorem CC{c:Cm}:ou c=0↔CkP c:=by grind [ou]
theorem nRk(c:Cm):ou c=0\/ou c=220:=by grind [ou]
theorem nb{c:Cm}(h:¬CkP c):ab 220=ab (ou c):=by grind [ou]
theorem nJ{c:Cm}(h:CkP c):ab 0=ab (ou c):=by grind [ou]
theorem nSg(x:CA)(w:World):Calls prog 334 #[.agg (VG x)] w (ar w (ab (CB x))):=by
 obtain⟨e,he⟩:∃e,(if dr x.u then(0:Int)else 40)=e:=⟨_,rfl⟩;have vv:=KG x.u;rw[he]at vv;refine eN func334 ntmps334 ?_;refine aU 2 ?_;intro b1 w1 aW bJ eO dC fg;refine B 16 ?_;refine zTe ?_;refine B 2 ?_;refine nf (t:=11) rfl (λai=>?_) (λai=>?_)
 ·replace ai:=ya ai;refine B 17 ?_;exact z8i
 replace ai:=ya ai;refine B 4 ?_;refine nf (t:=15) rfl (λax=>?_) (λax=>?_)
 ·replace ax:=ya ax;refine B 13 ?_;exact z8i
 replace ax:=ya ax;refine av 5 ?_ ?_
 ·intro bY;refine B 7 ?_;exact z8i
 intro bY;refine B 8 ?_;exact z8i
theorem nIb(c:Cm)(kV:mK c)(N:Nat)(w:World)(hN:N<=w.heap.size)(hC:dc N w c):Calls prog 294 #[.agg (cW c)] w (ar w (ab (ou c))):=by
 have tr:=kV.chs;have vM:=kV.path;have vN:=kV.bxs;have KR:=kV.wes;have uM:=hC.chs;have oN:=hC.path;have uN:=hC.bxs;have uO:=hC.wes;refine eN func294 ntmps294 ?_;refine aU 2 ?_;intro b1 w1 aW bJ eO dC fg;refine B 8 ?_;refine cl call325 rfl (λW hS=>n9m _ W) ?_;refine B 2 ?_;refine nf (t:=13) rfl (λai=>?_) (λai=>?_)
 ·replace ai:=ya ai;refine B 49 ?_;exact IJ
 replace ai:=ya ai;refine B 5 ?_;refine nf (t:=18) rfl (λax=>?_) (λax=>?_)
 ·replace ax:=ya ax;refine B 44 ?_;exact IJ
 replace ax:=ya ax;refine B 5 ?_;refine nf (t:=23) rfl (λbY=>?_) (λbY=>?_)
 ·replace bY:=ya bY;refine B 39 ?_;exact IJ
 replace bY:=ya bY;refine B 2 ?_;refine cl call332 rfl (λW hS=>Vu _ W) ?_;refine B 3 ?_;refine nf (t:=29) rfl (λez=>?_) (λez=>?_)
 ·replace ez:=ya ez;refine B 33 ?_;exact IJ
 replace ez:=ya ez;refine B 2 ?_;refine cl call333 rfl (λW hS=>ndd c.chs aa N c.ca c.cc W aT (hC.chs.us hS.sm)) ?_;refine B 3 ?_;refine nf (t:=35) rfl (λeB=>?_) (λeB=>?_)
 ·replace eB:=ya eB;refine B 27 ?_;exact IJ
 replace eB:=ya eB;refine B 6 ?_;refine nf (t:=41) rfl (λgq=>?_) (λgq=>?_)
 ·replace gq:=ya gq;refine B 21 ?_;exact IJ
 replace gq:=ya gq;refine B 6 ?_;refine nf (t:=47) rfl (λfw=>?_) (λfw=>?_)
 ·replace fw:=ya fw;refine B 15 ?_;exact IJ
 replace fw:=ya fw;refine av 7 ?_ ?_
 ·intro ja;refine B 7 ?_;exact IJ
 intro ja;refine B 12 ?_;refine CJ.lp (α:=Nat) [1,55] (λj=>[(54,.slice c.pa c.path.length c.pc),(56,ab (j:Int))]) (λj=>[]) (λj=>j<=c.path.length/\jT (λ_ x=>dr x) c.path j) (λj=>c.path.length-j) 0 ⟨cd _,λi x hi=>absurd hi aa⟩ ?_;rintro j ⟨hj,bT⟩;refine av 6 ?_ ?_
 ·intro jz;refine B 5 ?_;obtain⟨bo,oo,cs0,to,dR,iq,dW,hcs,ay⟩:=oN.get aa;obtain⟨y,hy⟩:=ng c.path j aa;rw[iq];obtain⟨e,he⟩:∃e,(if dr y then(0:Int)else 40)=e:=⟨_,rfl⟩;have vv:=KG y;rw[he]at vv;refine B 2 ?_;refine zEg ?_;refine B 6 ?_;refine zTe ?_;refine av 3 ?_ ?_
  ·intro ji;refine B 11 ?_;exact IJ
  intro ji;refine B 7 ?_;refine ag (j+1) ⟨by omega,bT.next hy (vv.1 aa)⟩
 intro jz;refine B 15 ?_;have hA1:=bT.all aa;refine CJ.lp (α:=Nat) [1,66] (λj=>[(65,.slice c.ba c.bxs.length c.bc),(67,ab (j:Int))]) (λj=>[]) (λj=>j<=c.bxs.length/\jT (λ_ x=>Rn x) c.bxs j) (λj=>c.bxs.length-j) 0 ⟨cd _,λi x hi=>absurd hi aa⟩ ?_;rintro j ⟨hj,bT⟩;refine av 6 ?_ ?_
 ·intro pH;refine B 5 ?_;obtain⟨bo,oo,cs0,to,dR,iq,dW,hcs,ay⟩:=uN.get aa;obtain⟨x,hx⟩:=ng c.bxs j aa;rw[iq];refine zfi ?_;refine yW ?_;intro b6 jb od;refine B 9 ?_;refine nf (t:=74) rfl (λlC=>?_) (λlC=>?_)
  ·replace lC:=ya lC;refine B 34 ?_;exact Rp
  replace lC:=ya lC;refine B 5 ?_;refine nf (t:=79) rfl (λjj=>?_) (λjj=>?_)
  ·replace jj:=ya jj;refine B 29 ?_;exact Rp
  replace jj:=ya jj;refine B 5 ?_;refine nf (t:=84) rfl (λlD=>?_) (λlD=>?_)
  ·replace lD:=ya lD;refine B 24 ?_;exact Rp
  replace lD:=ya lD;refine B 5 ?_;refine nf (t:=89) rfl (λJ=>?_) (λJ=>?_)
  ·replace J:=ya J;refine B 19 ?_;exact Rp
  replace J:=ya J;refine aV 1 (.agg (VG x.w)) ?_;refine cl call334 rfl (λW hS=>nSg x.w W) ?_;refine av 4 ?_ ?_
  ·intro xz;exact zgl
  intro xz;refine xY ?_;exact zUk
 intro pH;refine B 15 ?_;have hA2:=bT.all aa;refine CJ.lp (α:=Nat) [1,98] (λj=>[(97,.slice c.wa c.wes.length c.wc),(99,ab (j:Int))]) (λj=>[]) (λj=>j<=c.wes.length/\jT (Ro c.wes) c.wes j) (λj=>c.wes.length-j) 0 ⟨cd _,λi x hi=>absurd hi aa⟩ ?_;rintro j ⟨hj,bT⟩;refine av 6 ?_ ?_
 ·intro Jx;refine B 5 ?_;obtain⟨bo,oo,cs0,to,dR,iq,dW,hcs,ay⟩:=uO.get aa;obtain⟨x,hx⟩:=ng c.wes j aa;rw[iq];refine B 3 ?_;refine ZJ ?_;refine yW ?_;intro b8 lI r4;refine B 5 ?_;by_cases h1:¬bM x.dev
  ·refine eA 17 (pb:=by exact zU 2 (k:=by exact dh (ne call332 rfl rfl (λW hS _=>by have h9:=Vu x.dev W;rw[decide_eq_false h1]at h9;exact h9) (λ_=>rfl)) zT)) (sp:=(_::_::(some (aO))::(some aK)::_)) (k:=?_);refine B 23 ?_;exact Rp
  by_cases h2:j=0
  ·refine eA 17 (pb:=by exact zU 2 (k:=by exact dh (ne call332 rfl rfl (λW hS _=>by have h9:=Vu x.dev W;rw[decide_eq_true (Classical.not_not.1 h1)]at h9;exact h9) (λ_=>rfl)) zT)) (sp:=(_::_::(some (aK))::(some aO)::_::_::(some aO)::_)) (k:=?_);refine B 5 ?_;refine z1g ?_;refine av 4 ?_ ?_
   ·intro Rq;exact zgl
   intro Rq;refine xY ?_;exact z7i
  obtain⟨y,hy⟩:=ng c.wes (j-1) aa;by_cases h3:x.dev<=y.dev
  ·refine eA 17 (pb:=zYC) (sp:=(_::_::(some (aK))::(some aO)::_::_::(some aK)::_)) (k:=?_);refine bX aK ?_;refine B 22 ?_;exact Rp
  refine eA 17 (pb:=zYC) (sp:=(_::_::(some (aK))::(some aO)::_::_::(some aK)::_)) (k:=?_);refine Cr ?_;refine z1g ?_;refine av 4 ?_ ?_
  ·intro Rr;exact zgl
  intro Rr;refine xY ?_;exact z7i
 intro Jx;refine B 11 ?_;exact IJ
end Px
