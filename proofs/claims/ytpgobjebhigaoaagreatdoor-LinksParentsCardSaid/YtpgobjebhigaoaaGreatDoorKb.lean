/- Contracts of functions of the program. No condition beyond those stated. -/
import Derived.Test.YtpgobjebhigaoaaGreatDoorKa
import Derived.Test.YtpgobjebhigaoaaGreatDoorProg
set_option linter.unusedSimpArgs false
set_option linter.unusedVariables false
set_option linter.unusedSectionVars false
set_option linter.unnecessarySimpa false
set_option maxRecDepth 20000
set_option maxHeartbeats 8000000
namespace Px
open Go Go.RowKit Go.Proofs Go.Proofs.Tryz
theorem V.encL_drop(l:List V)(i:Nat)(h:i<l.length):V.encL (l.drop i)=(l[i]).enc++V.encL (l.drop (i+1)):=by
 rw[List.drop_eq_getElem_cons h,V.encL]
theorem xA(x:V):dP prog x.fn:=by
 cases x
 ·exact call232
 ·exact call235
 exact call236
theorem nrn(x:ByteArray)(hn:(V.text x).fine)(xs:List UInt8)(b cap:Nat)(sp:List Value)(pF:cy xs cap sp)(w:World)(hb:w.heap[b]? =some (aV 5 xs sp))(gA:xs.length+(V.text x).enc.length<=800000000000):Calls prog 235 #[aW b xs.length cap,vT x] w (I8 w b 5 (xs++(V.text x).enc)):=by
 have jf:=(aT.1 hb).1;simp only[V.fine]at hn;simp only[V.enc,dQ,cK]at gA;have cj:x.data.toList.length=x.size:=Array.length_toList;refine nL (vs:=[_,_]) (Gh.lent (· =b)) [(b,aV 5 xs sp)] func235 rfl ntmps235 rfl (xv hb) ?_;refine B 2 ?_;refine yX ?_;intro b3 w3 aM aD da cd cP;refine X4 ?_;refine nP 10 [1,2,7] [([],some _),([],none),([0,1],none),([],some _),([3],some (.string x)),([4],some _),([5],some _),([2,6],none),([],some _),([8],some (.string x))] (λcv L' H'=>match cv with| []=>L'=[w3,w]/\H'=[(b,aV 5 xs sp)]| [v1]=>∃(b6:Nat),v1=aW b6 ([2]:List UInt8).length 1/\L'=[w3,w]/\H'=[(b6,aV 5 [2] []),(b,aV 5 xs sp)]/\w3.heap.size<=b6/\w.heap.size<=b6| [v1,v2]=>∃(b6:Nat) (b7:Nat) (c7:Nat) (s7:List Value),v1=aW b6 ([2]:List UInt8).length 1/\v2=aW b7 (xs++[2]).length c7/\L'=[w3,w]/\H'=[(b6,aV 5 [2] []),(b7,aV 5 (xs++[2]) s7)]/\w3.heap.size<=b6/\w.heap.size<=b6/\Fr (Gh.lent (· =b)) [w3,w] b7/\(b7=b\/w3.heap.size<=b7/\w.heap.size<=b7)/\cy (xs++[2]) c7 s7| [v1,v2,v3]=>∃(b6:Nat) (b7:Nat) (c7:Nat) (s7:List Value) (ki:Nat) (Uv:Nat) (Pm:List Value),v1=aW b6 ([2]:List UInt8).length 1/\v2=aW b7 (xs++[2]).length c7/\v3=aW ki (xs++[2]++num x.size).length Uv/\L'=[w3,w]/\H'=[(b6,aV 5 [2] []),(ki,aV 5 (xs++[2]++num x.size) Pm)]/\w3.heap.size<=b6/\w.heap.size<=b6/\Fr (Gh.lent (· =b)) [w3,w] b7/\(b7=b\/w3.heap.size<=b7/\w.heap.size<=b7)/\cy (xs++[2]) c7 s7/\Fr (Gh.lent (· =b)) [w3,w] ki/\(ki=b\/w3.heap.size<=ki/\w.heap.size<=ki)/\cy (xs++[2]++num x.size) Uv Pm|_=>False) zQ ⟨rfl,rfl⟩ zQ zQ zQ zQ zQ zQ (pc zT (pk (pk (pc (by exact λcv L' H' hd hP=>X.val rfl rfl (al underlying149 rfl sizeOf9 rfl) R2) (pc zch (pc (by exact λcv L' H' hd hP=>X.val rfl rfl (qI underlying9 rfl) R2) (pc X6 (pk (pc (by exact λcv L' H' hd hP=>X.val rfl rfl (al underlying149 rfl sizeOf9 rfl) R2) (pc zch (pn))))))))))) ?_ ?_
 ·refine sc rfl rfl rfl ?_ ?_
  ·intro cv L' H' hl hP F Q' hk;obtain rfl:=iZ hl;obtain⟨rfl,rfl⟩:=hP;refine M1 [2] bt zeroValue5 rfl rfl rfl rfl rfl rfl rfl rfl rfl ?_;intro b6 ha ho hx hr;exact OJ.done (hk _ _ _ ⟨b6,rfl,rfl,rfl,ha.1,ha.2.1⟩)
  refine sc rfl rfl rfl ?_ ?_
  ·intro cv L' H' hl hP F Q' hk;obtain⟨v1,rfl⟩:=cM hl;obtain⟨b6,rfl,rfl,rfl,gV,we⟩:=hP;refine GV (i:=1) (xs:=xs) (zs:=[2]) (sp:=sp) rfl bt rfl rfl rfl rfl (gS.own (i:=0) underlying64 rfl) pF (.inl rfl) v7 ?_;exact zxj
  refine sc rfl rfl rfl ?_ ?_
  ·intro cv L' H' hl hP F Q' hk;obtain⟨v1,v2,rfl⟩:=iL hl;obtain⟨b6,b7,c7,s7,rfl,rfl,rfl,rfl,gV,we,oP,M4,tU⟩:=hP;refine M5 (i:=1) (ys:=xs++[2]++num x.size) (first:=[]) (cap:=[]) rfl rfl call233 rfl rfl rfl oP (λW hS hW=>Ur (xs++[2]) x.size zJ b7 c7 s7 tU v7 W hW) ?_;intro bn cn sn hfn hrn;have M6:=hfn;replace M6:=ye M6;exact OJ.done (hk _ _ _ ⟨b6,b7,c7,s7,bn,cn,sn,rfl,rfl,rfl,rfl,rfl,gV,we,oP,M4,tU,hfn,by simpa only[Fr,Gh.lent,ad,and_true]using hfn,hrn⟩)
  exact sn
 intro cv L' H' hl hP;obtain⟨v1,v2,v3,rfl⟩:=lT hl;obtain⟨b6,b7,c7,s7,ki,Uv,Pm,rfl,rfl,rfl,rfl,rfl,gV,we,oP,M4,tU,Pn,X7,Po⟩:=hP;refine GV (i:=1) (xs:=xs++[2]++num x.size) (zs:=x.data.toList) (sp:=Pm) rfl bt rfl rfl rfl rfl (gS.str underlying9) Po Pn v7 ?_;intro dR Uw Ux mW xB;have qJ:=mW;replace qJ:=ye qJ;refine B 4 ?_;have Jd:xs++(V.text x).enc=xs++[2]++num x.size++x.data.toList:=by simp[V.enc]
 rw[Jd];exact Ut (i:=1) (.inl rfl) results235 rfl rfl A1 (by simp only[iY,cZ,eB,pG,qG,and_true];simp only[Fr,Gh.lent,ad]at mW;omega) xB
theorem nYn(l:List V)(ih:∀y∈l,X3 y)(cB:(V.list l).fine)(N:Nat)(base:Option Addr)(lc bv bw:Nat)(xs:List UInt8)(b cap:Nat)(sp:List Value)(pF:cy xs cap sp)(w:World)(hb:w.heap[b]? =some (aV 5 xs sp))(hN:N<=w.heap.size)(hNb:N<=b)(oO:Dx N w base l)(tV:Wr N w bv bw)(gA:xs.length+(V.list l).enc.length<=800000000000):Calls prog 236 #[aW b xs.length cap,vL base l.length lc,ptr bv 0] w (I8 w b 5 (xs++(V.list l).enc)):=by
 have jf:=(aT.1 hb).1;simp only[V.fine]at cB;obtain⟨sy,uQ,Jb⟩:=cB;have hlv:=tV.ltv;have hlw:=tV.ltw;simp only[V.enc,dQ,cK]at gA;refine nL (vs:=[_,_,_]) (Gh.lent (· =b)) [(b,aV 5 xs sp)] func236 rfl ntmps236 rfl (xv hb) ?_;refine B 2 ?_;refine yX ?_;intro b4 w4 ew eR pA dO dU;refine B 4 ?_;refine X8 ?_;refine nP 7 [1,2] [([],some _),([],none),([0,1],none),([],some _),([3],some (.slice base l.length lc)),([4],some _),([5],some _)] (λcv L' H'=>match cv with| []=>L'=[w4,w]/\H'=[(b,aV 5 xs sp)]| [v1]=>∃(b9:Nat),v1=aW b9 ([3]:List UInt8).length 1/\L'=[w4,w]/\H'=[(b9,aV 5 [3] []),(b,aV 5 xs sp)]/\w4.heap.size<=b9/\w.heap.size<=b9| [v1,v2]=>∃(b9:Nat) (kj:Nat) (sC:Nat) (wg:List Value),v1=aW b9 ([3]:List UInt8).length 1/\v2=aW kj (xs++[3]).length sC/\L'=[w4,w]/\H'=[(b9,aV 5 [3] []),(kj,aV 5 (xs++[3]) wg)]/\w4.heap.size<=b9/\w.heap.size<=b9/\Fr (Gh.lent (· =b)) [w4,w] kj/\(kj=b\/w4.heap.size<=kj/\w.heap.size<=kj)/\cy (xs++[3]) sC wg|_=>False) zQ ⟨rfl,rfl⟩ zQ zQ zQ zQ zQ zQ (pc zT (pk (pk (pc Pp (pc zci (pc (by exact λcv L' H' hd hP=>X.val rfl rfl (ib underlying146 rfl) R2) (pc X6 (pn)))))))) ?_ ?_
 ·refine sc rfl rfl rfl ?_ ?_
  ·exact z9i
  refine sc rfl rfl rfl ?_ ?_
  ·intro cv L' H' hl hP F Q' hk;obtain⟨v1,rfl⟩:=cM hl;obtain⟨b9,rfl,rfl,rfl,qD,DA⟩:=hP;refine GV (i:=1) (xs:=xs) (zs:=[3]) (sp:=sp) rfl bt rfl rfl rfl rfl (gS.own (i:=0) underlying64 rfl) pF (.inl rfl) v7 ?_;intro b7 c7 s7 oP tU;exact OJ.done (hk _ _ _ ⟨b9,b7,c7,s7,rfl,rfl,rfl,rfl,qD,DA,oP,by simpa only[Fr,Gh.lent,ad,and_true]using oP,tU⟩)
  exact sn
 intro cv L' H' hl hP;obtain⟨v1,v2,rfl⟩:=iL hl;obtain⟨b9,kj,sC,wg,rfl,rfl,rfl,rfl,qD,DA,DB,Je,sD⟩:=hP;refine OJ.dropF (i:=0) rfl (.inr ⟨qD,DA,trivial⟩) ?_;refine M5 (i:=0) (ys:=xs++[3]++num l.length) (first:=[]) (cap:=[]) rfl rfl call233 rfl rfl rfl DB (λW hS hW=>Ur (xs++[3]) l.length zJ kj sC wg sD v7 W hW) ?_;intro dR Uw Ux mW xB;have qJ:=mW;replace qJ:=ye qJ;refine B 13 ?_;refine CJ.loop (α:=List UInt8×Nat×Nat×Nat×List Value) (λp=>[(0,aW p.2.2.1 p.1.length p.2.2.2.1),(2,ptr bv 0),(17,.slice base l.length lc),(18,.int .i64 (l.length:Int)),(19,.int .i64 (p.2.1:Int))]) (λp=>[(p.2.2.1,aV 5 p.1 p.2.2.2.2)]) (λp=>[w4,w]) (λp=>Gh.lent (· =b)) (λp=>p.1++V.encL (l.drop p.2.1)=xs++(V.list l).enc/\p.2.1<=l.length/\Fr (Gh.lent (· =b)) [w4,w] p.2.2.1/\(p.2.2.1=b\/w4.heap.size<=p.2.2.1/\w.heap.size<=p.2.2.1)/\cy p.1 p.2.2.2.1 p.2.2.2.2) (λp=>l.length-p.2.1) (xs++[3]++num l.length,0,dR,Uw,Ux) ⟨by simp[V.enc],db _,mW,by simpa only[Fr,Gh.lent,Gh.no,ad,and_true,false_or]using mW,xB⟩ zR rfl rfl zX ?_;rintro⟨ys,i,b1,c1,s1⟩ ⟨hinv,hi,hf,hg,hr⟩;dsimp only at hinv hi hf hg hr ⊢;have su:=congrArg List.length hinv;simp only[V.enc,cK,dQ]at su;refine B 6 ?_;refine aG ?_ ?_
 ·intro ah;refine B 5 ?_;obtain⟨bl,cs,te,fre,rfl,jf,hcs,hcz,a1,a2,p3,n3,c3,qH,rH⟩:=oO i zJ;have xw:=(aT.1 hcs).1;obtain⟨y,hy⟩:∃y,l[i]'zJ=y:=⟨_,rfl⟩;rw[hy]at qH rH;have Dy:y∈l:=hy▸OM _;have hkb:=V.kind_bd y;have X9:=congrArg List.length (V.encL_drop l i zJ);rw[cK,hy]at X9;refine B 2 ?_;refine rq (.agg #[.int .i64 y.kind,.int .i64 a1,.string a2,.slice p3 n3 c3]) (ai isAgg149 sizeOf149 rfl A1 hcs (by show ¬(_=_);omega) zI zJ) (va (by rw[<-qH];congr 1;omega)) ?_;refine xx ?_;refine yW ?_;intro b7 gd oN;refine zSh ?_;refine nl 9 [.det [] _,.det [] _,.det [1] _,.det [0] _,.det [2,3] _,.det [4] _,.det [5] _,.det [] _,.det [] _] zQ (xc (by exact λaf=>X.val rfl rfl (aa isAgg264 rfl A1 tV.atv (by show ¬(_=_);omega) qK rfl) (λ_ _=>rfl)) (xc (by exact λaf=>X.val rfl rfl (al underlying149 rfl sizeOf3 rfl) (λ_ _=>rfl)) (xc zZ (xc Dl (xc zWd (xc (by exact λaf=>X.val rfl rfl (al underlying263 rfl sizeOf261 rfl) (λ_ _=>rfl)) (xc (by exact λaf=>X.val rfl rfl (aa (v:=.func (.func y.fn) #[] (y.cap bv).toArray) isAgg261 rfl A1 tV.atw (by show ¬(_=_);omega) qK (xz bv _ _ (by show((0+Int.toNat y.kind*1+0:Nat):Int)=_;omega))) (λ_ _=>rfl)) (xc zN (xc zUd (xn)))))))))) zQ zQ zQ (λaf=>?_);refine M5 (i:=1) (ys:=ys++y.enc) (first:=[]) (cap:=y.cap bv) rfl rfl (xA _) rfl rfl rfl hf (λW hS hW=>ih y Dy N b1 c1 bv bw ys s1 W _ (dM.up (ao _) (hS.same A1 hN (λk hk (h:k=b)=>by omega) zM) _ _ rH) (V.fineL_mem Jb y Dy) (tV.up (ao _) (hS.same A1 hN (λk hk (h:k=b)=>by omega) zM)) zJ (aR hN (hS.links _ A1).size) hr zJ hW) ?_
  exact zTi
 intro ah;refine B 12 ?_;have e:i=l.length:=by omega
 subst e;rw[List.drop_of_length_le (ao _)]at hinv;simp only[V.encL,dH]at hinv;rw[<-hinv];exact Ut (i:=0) (.inl rfl) results236 rfl rfl A1 (by simp only[iY,cZ,eB,pG,qG,and_true];omega) hr
theorem nYi(l:List V)(ih:∀y∈l,X3 y)(cB:(V.list l).fine)(N:Nat)(base:Option Addr)(lc bv bw:Nat)(w:World)(hN:N<=w.heap.size)(oO:Dx N w base l)(tV:Wr N w bv bw)(gA:(V.list l).enc.length<=800000000000):Calls prog 236 #[.slice none 0 0,vL base l.length lc,ptr bv 0] w (Ya w 5 ((V.list l).enc)):=by
 simp only[V.fine]at cB;obtain⟨sy,uQ,Jb⟩:=cB;have hlv:=tV.ltv;have hlw:=tV.ltw;simp only[V.enc,dQ,cK]at gA;refine enter (vs:=[_,_,_]) func236 rfl ntmps236 rfl ?_;refine B 2 ?_;refine yX ?_;intro b4 w4 ew eR pA dO dU;refine B 4 ?_;refine X8 ?_;refine nP 7 [1,2] [([],some _),([],none),([0,1],none),([],some _),([3],some (.slice base l.length lc)),([4],some _),([5],some _)] (λcv L' H'=>match cv with| []=>L'=[w4,w]/\H'=[]| [v1]=>∃(b9:Nat),v1=aW b9 ([3]:List UInt8).length 1/\L'=[w4,w]/\H'=[(b9,aV 5 [3] [])]/\w4.heap.size<=b9/\w.heap.size<=b9| [v1,v2]=>∃(b9:Nat) (kj:Nat) (sC:Nat) (wg:List Value),v1=aW b9 ([3]:List UInt8).length 1/\v2=aW kj ([3]:List UInt8).length sC/\L'=[w4,w]/\H'=[(kj,aV 5 [3] wg),(b9,aV 5 [3] [])]/\w4.heap.size<=b9/\w.heap.size<=b9/\w4.heap.size<=kj/\w.heap.size<=kj/\cy [3] sC wg|_=>False) zQ ⟨rfl,rfl⟩ zQ zQ zQ zQ zQ zQ (pc zT (pk (pk (pc Pp (pc zci (pc (by exact λcv L' H' hd hP=>X.val rfl rfl (ib underlying146 rfl) R2) (pc X6 (pn)))))))) ?_ ?_
 ·refine sc rfl rfl rfl ?_ ?_
  ·exact z9i
  refine sc rfl rfl rfl ?_ ?_
  ·intro cv L' H' hl hP F Q' hk;obtain⟨v1,rfl⟩:=cM hl;obtain⟨b9,rfl,rfl,rfl,qD,DA⟩:=hP;refine apN (zs:=[3]) bt rfl rfl rfl rfl (gS.own (i:=0) underlying64 rfl) zO zO ?_;intro b7 c7 s7 gd oN hx7 tU;exact OJ.done (hk _ _ _ ⟨b9,b7,c7,s7,rfl,rfl,rfl,rfl,qD,DA,gd.1,gd.2.1,tU⟩)
  exact sn
 intro cv L' H' hl hP;obtain⟨v1,v2,rfl⟩:=iL hl;obtain⟨b9,kj,sC,wg,rfl,rfl,rfl,rfl,qD,DA,DB,Je,sD⟩:=hP;refine OJ.dropF (i:=1) rfl (.inr ⟨qD,DA,trivial⟩) ?_;refine M5 (i:=0) (ys:=[3]++num l.length) (first:=[]) (cap:=[]) rfl rfl call233 rfl rfl rfl (.inr ⟨DB,Je,trivial⟩) (λW hS hW=>Ur ([3]) l.length zJ kj sC wg sD v7 W hW) ?_;intro dR Uw Ux mW xB;have qJ:=mW;replace qJ:=ye qJ;refine B 13 ?_;refine CJ.loop (α:=List UInt8×Nat×Nat×Nat×List Value) (λp=>[(0,aW p.2.2.1 p.1.length p.2.2.2.1),(2,ptr bv 0),(17,.slice base l.length lc),(18,.int .i64 (l.length:Int)),(19,.int .i64 (p.2.1:Int))]) (λp=>[(p.2.2.1,aV 5 p.1 p.2.2.2.2)]) (λp=>[w4,w]) (λp=>Gh.no) (λp=>p.1++V.encL (l.drop p.2.1)=(V.list l).enc/\p.2.1<=l.length/\Fr (Gh.no) [w4,w] p.2.2.1/\(w4.heap.size<=p.2.2.1/\w.heap.size<=p.2.2.1)/\cy p.1 p.2.2.2.1 p.2.2.2.2) (λp=>l.length-p.2.1) ([3]++num l.length,0,dR,Uw,Ux) ⟨by simp[V.enc],db _,mW,by simpa only[Fr,Gh.lent,Gh.no,ad,and_true,false_or]using mW,xB⟩ zR rfl rfl zX ?_;rintro⟨ys,i,b1,c1,s1⟩ ⟨hinv,hi,hf,hg,hr⟩;dsimp only at hinv hi hf hg hr ⊢;have su:=congrArg List.length hinv;simp only[V.enc,cK,dQ]at su;refine B 6 ?_;refine aG ?_ ?_
 ·intro ah;refine B 5 ?_;obtain⟨bl,cs,te,fre,rfl,jf,hcs,hcz,a1,a2,p3,n3,c3,qH,rH⟩:=oO i zJ;have xw:=(aT.1 hcs).1;obtain⟨y,hy⟩:∃y,l[i]'zJ=y:=⟨_,rfl⟩;rw[hy]at qH rH;have Dy:y∈l:=hy▸OM _;have hkb:=V.kind_bd y;have X9:=congrArg List.length (V.encL_drop l i zJ);rw[cK,hy]at X9;refine B 2 ?_;refine rq (.agg #[.int .i64 y.kind,.int .i64 a1,.string a2,.slice p3 n3 c3]) (ai isAgg149 sizeOf149 rfl A1 hcs zU zI zJ) (va (by rw[<-qH];congr 1;omega)) ?_;refine xx ?_;refine yW ?_;intro b7 gd oN;refine zSh ?_;refine nl 9 [.det [] _,.det [] _,.det [1] _,.det [0] _,.det [2,3] _,.det [4] _,.det [5] _,.det [] _,.det [] _] zQ (xc (by exact λaf=>X.val rfl rfl (aa isAgg264 rfl A1 tV.atv zU qK rfl) (λ_ _=>rfl)) (xc (by exact λaf=>X.val rfl rfl (al underlying149 rfl sizeOf3 rfl) (λ_ _=>rfl)) (xc zZ (xc Dl (xc zWd (xc (by exact λaf=>X.val rfl rfl (al underlying263 rfl sizeOf261 rfl) (λ_ _=>rfl)) (xc (by exact λaf=>X.val rfl rfl (aa (v:=.func (.func y.fn) #[] (y.cap bv).toArray) isAgg261 rfl A1 tV.atw zU qK (xz bv _ _ (by show((0+Int.toNat y.kind*1+0:Nat):Int)=_;omega))) (λ_ _=>rfl)) (xc zN (xc zUd (xn)))))))))) zQ zQ zQ (λaf=>?_);refine M5 (i:=1) (ys:=ys++y.enc) (first:=[]) (cap:=y.cap bv) rfl rfl (xA _) rfl rfl rfl hf (λW hS hW=>ih y Dy N b1 c1 bv bw ys s1 W _ (dM.up (ao _) (hS.same A1 hN zS zM) _ _ rH) (V.fineL_mem Jb y Dy) (tV.up (ao _) (hS.same A1 hN zS zM)) zJ (aR hN (hS.links _ A1).size) hr zJ hW) ?_
  exact zTi
 intro ah;refine B 12 ?_;have e:i=l.length:=by omega
 subst e;rw[List.drop_of_length_le (ao _)]at hinv;simp only[V.encL,dH]at hinv;rw[<-hinv];exact Jf (i:=0) (.inl rfl) results236 rfl rfl A1 uN hr
theorem xC:∀x,X3 x:=by
 refine V.ind ?_ ?_ ?_
 ·intro n N b cap bv bw xs sp w v hv hf _ _ _ hr hl hb;simp only[dM]at hv;subst hv;exact nAo n hf xs b cap sp hr w hb hl
 ·intro s N b cap bv bw xs sp w v hv hf _ _ _ hr hl hb;simp only[dM]at hv;subst hv;exact nrn s hf xs b cap sp hr w hb hl
 intro l ih N b cap bv bw xs sp w v hv hf tV hNb hN hr hl hb;obtain⟨base,lc,rfl,hc,oO⟩:=hv.list;exact nYn l ih hf N base lc bv bw xs b cap sp hr w hb hN hNb oO tV hl
theorem nue(l:List V)(cB:(V.list l).fine)(hd:(V.list l).depth<=16)(gA:(V.list l).enc.length<=800000000000)(N:Nat)(base:Option Addr)(lc:Nat)(w:World)(hN:N<=w.heap.size)(rH:dM N w (.list l) (vL base l.length lc)):Calls prog 107 #[vL base l.length lc] w (Yb w 5 (V.list l).enc):=by
 obtain⟨Pq,lc',Yc,Yd,Ye⟩:=rH.list;obtain⟨rfl,rfl⟩:base=Pq/\lc=lc':=by simpa[vL]using Yc
 refine enter (vs:=[_]) func107 rfl ntmps107 rfl ?_;refine B 2 ?_;refine yX ?_;intro b1 w1 aQ aX gb eO gZ;refine B 7 ?_;refine rv rfl rfl rfl (ae isAgg149 sizeOf149 rfl A0 aQ aX trivial rfl) ?_;refine call call168 rfl rfl rfl (λW hS=>nbm (.list l) _ _ _ _ _ cB hd N W (aR hN (hS.links _ A1).size) (dM.up zJ (hS.same A1 hN zS zM) _ _ rH)) ?_;refine GW ?_;refine B 6 ?_;refine ng (E':=[(0,_),(1,_),(2,_),(3,_),(4,_),(5,_),(6,_),(7,_),(8,_)]) zR ?_;refine nP 8 [0,3,4,5,6] [([],none),([],some _),([1],some (.int .i64 3)),([0],none),([2,3],none),([4],none),([5],none),([],some (vL base l.length lc))] (λcv L' H'=>match cv with| []=>L'=[w1,w]/\H'=[]| [v1]=>∃(bw:Nat) (bv:Nat) (eb:World),v1=ptr bw 0/\L'=[eb,w1,w]/\H'=[]/\w1.heap.size<=bw/\w1.heap.size<=bv/\bw<eb.heap.size/\bv<eb.heap.size/\eb.heap[bv]? =some (.cells #[ptr bw 0] 264 (0,0))/\eb.heap[bw]? =some (.cells (Dz bv) 332 (0,0))/\w1.heap.size<=eb.heap.size| [v1,v2]=>∃(bw:Nat) (bv:Nat) (eb:World),v1=ptr bw 0/\v2=ptr bw 0/\L'=[eb,w1,w]/\H'=[]/\w1.heap.size<=bw/\w1.heap.size<=bv/\bw<eb.heap.size/\bv<eb.heap.size/\eb.heap[bv]? =some (.cells #[ptr bw 0] 264 (0,0))/\eb.heap[bw]? =some (.cells (Dz bv) 332 (0,0))/\w1.heap.size<=eb.heap.size| [v1,v2,v3]=>∃(bw:Nat) (bv:Nat) (eb:World),v1=ptr bw 0/\v2=ptr bw 0/\v3=ptr bw 3/\L'=[eb,w1,w]/\H'=[]/\w1.heap.size<=bw/\w1.heap.size<=bv/\bw<eb.heap.size/\bv<eb.heap.size/\eb.heap[bv]? =some (.cells #[ptr bw 0] 264 (0,0))/\eb.heap[bw]? =some (.cells (Dz bv) 332 (0,0))/\w1.heap.size<=eb.heap.size| [v1,v2,v3,v4]=>∃(bw:Nat) (bv:Nat) (eb:World),v1=ptr bw 0/\v2=ptr bw 0/\v3=ptr bw 3/\v4=ptr bw 3/\L'=[eb,w1,w]/\H'=[]/\w1.heap.size<=bw/\w1.heap.size<=bv/\bw<eb.heap.size/\bv<eb.heap.size/\eb.heap[bv]? =some (.cells #[ptr bw 0] 264 (0,0))/\eb.heap[bw]? =some (.cells (Dz bv) 332 (0,0))/\w1.heap.size<=eb.heap.size| [v1,v2,v3,v4,v5]=>∃(bw:Nat) (bv:Nat) (eb:World),v1=ptr bw 0/\v2=ptr bw 0/\v3=ptr bw 3/\v4=ptr bw 3/\v5= .func (.func 236) #[] #[ptr bv 0]/\L'=[eb,w1,w]/\H'=[]/\w1.heap.size<=bw/\w1.heap.size<=bv/\bw<eb.heap.size/\bv<eb.heap.size/\eb.heap[bv]? =some (.cells #[ptr bw 0] 264 (0,0))/\eb.heap[bw]? =some (.cells (Dz bv) 332 (0,0))/\w1.heap.size<=eb.heap.size|_=>False) zQ ⟨rfl,rfl⟩ zQ zQ zQ zQ zQ zQ (pk (pc (by exact λcv L' H' hd hP=>X.val rfl rfl (al underlying149 rfl sizeOf3 rfl) R2) (pc zcj (pk (pk (pk (pk (pc zcj (pn))))))))) ?_ ?_
 ·refine sc rfl rfl rfl ?_ ?_
  ·intro cv L' H' hl hP F Q' hk;obtain rfl:=iZ hl;obtain⟨rfl,rfl⟩:=hP;refine nB (Φ:=λ(W:World) (p:Nat×Nat) (v1:World)=>W.heap.size<=p.1/\W.heap.size<=p.2/\v1.heap[p.2]? =some (.cells #[ptr p.1 0] 264 (0,0))/\v1.heap[p.1]? =some (.cells (Dz p.2) 332 (0,0))) call169 rfl rfl rfl (λW hS=>nbi W) ?_;rintro W ⟨bw,bv⟩ eb hSW Yf ⟨h1,h2,h3,h4⟩;have h5:=hSW.sizes;replace h5:=yb h5;dsimp only at h1 h2 h3 h4;have e3:=(aT.1 h4).1;have e4:=(aT.1 h3).1;have e7:=Yf.size;exact OJ.done (hk _ _ _ ⟨bw,bv,eb,rfl,rfl,rfl,by omega,by omega,e3,e4,h3,h4,by omega⟩)
  refine sc rfl rfl rfl ?_ ?_
  ·intro cv L' H' hl hP F Q' hk;obtain⟨v1,rfl⟩:=cM hl;obtain⟨bw,bv,eb,rfl,rfl,rfl,e1,e2,e3,e4,e5,e6,e7⟩:=hP;refine B 1 ?_;exact OJ.done (hk _ _ _ ⟨bw,bv,eb,rfl,rfl,rfl,rfl,e1,e2,e3,e4,e5,e6,e7⟩)
  refine sc rfl rfl rfl ?_ ?_
  ·intro cv L' H' hl hP F Q' hk;obtain⟨v1,v2,rfl⟩:=iL hl;obtain⟨bw,bv,eb,rfl,rfl,rfl,rfl,e1,e2,e3,e4,e5,e6,e7⟩:=hP;refine B 1 ?_;exact OJ.done (hk _ _ _ ⟨bw,bv,eb,rfl,rfl,rfl,rfl,rfl,e1,e2,e3,e4,e5,e6,e7⟩)
  refine sc rfl rfl rfl ?_ ?_
  ·intro cv L' H' hl hP F Q' hk;obtain⟨v1,v2,v3,rfl⟩:=lT hl;obtain⟨bw,bv,eb,rfl,rfl,rfl,rfl,rfl,e1,e2,e3,e4,e5,e6,e7⟩:=hP;refine B 1 ?_;exact OJ.done (hk _ _ _ ⟨bw,bv,eb,rfl,rfl,rfl,rfl,rfl,rfl,e1,e2,e3,e4,e5,e6,e7⟩)
  refine sc rfl rfl rfl ?_ ?_
  ·intro cv L' H' hl hP F Q' hk;obtain⟨v1,v2,v3,v4,rfl⟩:=pH hl;obtain⟨bw,bv,eb,rfl,rfl,rfl,rfl,rfl,rfl,e1,e2,e3,e4,e5,e6,e7⟩:=hP;refine rv rfl rfl rfl (aa (v:=.func (.func 236) #[] #[ptr bv 0]) isAgg261 rfl A0 e6 zU trivial rfl) ?_;exact OJ.done (hk _ _ _ ⟨bw,bv,eb,rfl,rfl,rfl,rfl,rfl,rfl,rfl,e1,e2,e3,e4,e5,e6,e7⟩)
  exact sn
 intro cv L' H' hl hP;obtain⟨v1,v2,v3,v4,v5,rfl⟩:=gT hl;obtain⟨bw,bv,eb,rfl,rfl,rfl,rfl,rfl,rfl,rfl,e1,e2,e3,e4,e5,e6,e7⟩:=hP;refine Jg (ys:=(V.list l).enc) (first:=[]) (cap:=[ptr bv 0]) rfl call236 rfl rfl rfl (λW hS=>nYi l (λy _=>xC y) cB eb.heap.size base lc bv bw W (hS.links _ A0).size (λi hi=>by
  obtain⟨bl,cs,t,fr,h1,h2,h3,h4,a1,a2,p3,n3,c3,h5,h6⟩:=Ye i hi;have B5:=hS.same A2 hN zS zM;exact⟨bl,cs,t,fr,h1,by omega,(B5 bl h2).trans h3,h4,a1,a2,p3,n3,c3,h5,dM.up zJ B5 _ _ h6⟩) ⟨e4,e3,hS.old A0 e5 zU trivial,hS.old A0 e6 zU trivial⟩ gA) ?_
 intro b18 c18 s18 sw Dw XX Pd;replace sw:=yb sw;refine B 5 ?_;exact Jh (i:=0) (.inl rfl) results107 rfl rfl rfl A2 uN Pd


def cC (w:World) (b off:Nat) (zs:List UInt8):Prop:=∃cs t fr,w.heap[b]? =some (.cells cs t fr)/\off+zs.length<=cs.size/\∀i,i<zs.length->cs[off+i]? =some (.int .u8 (fU zs i))
variable {cs:Array Value} {C:Cx} {E:Env} {G:Gh} {H:ab} {zs:List UInt8} {sp:List Value} {L:List World} {N T b e i tx:Nat} {fr:Nat×Nat} {x:Operand} {v:Value} {W w' w1:World}
theorem cC.up{w:World}{off:Nat}(h:cC w b off zs)(hb:w'.heap[b]? =w.heap[b]?):cC w' b off zs:=by
 obtain⟨cs,t,fr,h1,h2,h3⟩:=h;exact⟨cs,t,fr,hb.trans h1,h2,h3⟩
theorem cC.lt{w:World}{off:Nat}(h:cC w b off zs):b<w.heap.size:=by
 obtain⟨cs,t,fr,h1,_⟩:=h;exact(aT.1 h1).1
theorem cC.old{w:World}{off:Nat}(h:cC w b off zs)(hS:St G L H W)(hw:w∈L)(hX:¬G.X b)(hO:bD H b):cC W b off zs:=by
 obtain⟨cs,t,fr,h1,h2,h3⟩:=h;exact⟨cs,t,fr,hS.old hw h1 hX hO,h2,h3⟩
theorem cC.row(h:W.heap[b]? =some (aV e zs sp)):cC W b 0 zs:=
 ⟨_,_,_,h,by simp only[qF,cK,uR];omega,λi hi=>Pr _ _ i hi⟩
theorem gS.seg{e' off c:Nat}(hU:C.P.underlying tx=some (.slice e'))(hm:w1∈L)(h:cC w1 b off zs)(hG:¬G.X b)(hO:bD H b):gS C G L H tx (.slice (some ⟨b,off,none⟩) zs.length c) zs:=by
 obtain⟨cs,t,fr,h1,h2,h3⟩:=h;exact jh.sl hU (Rd.old hm h1 hG hO zJ (by rw[XR h2 h3,<-nzm])) (by rw[uR,sm]) (Yg _)
def Glb (w:World):Prop:=(∃t fr,w.heap[0]? =some (.cells S8.init.cells t fr))/\(∃t fr,w.heap[4]? =some (.cells (cf 64 (λi=>u32 (kk i))) t fr))
theorem Glb.lt{w:World}(h:Glb w):5<=w.heap.size:=by
 obtain⟨_,t,fr,h⟩:=h;have:=(aT.1 h).1;omega
theorem Glb.old{w:World}(h:Glb w)(hS:St G L H W)(hw:w∈L)(hX:∀k,k<5->¬G.X k)(hH:Over 5 H):Glb W:=by
 have hs:=hS.same hw h.lt hX hH;obtain⟨⟨t,fr,h1⟩,t',fr',h2⟩:=h;exact⟨⟨t,fr,(hs 0 zJ).trans h1⟩,t',fr',(hs 4 zJ).trans h2⟩
def scalL (s:ByteArray) (xs:List UInt8):Int:=xt s xs.length (fU xs)
theorem xD(s:ByteArray)(xs:List UInt8):1<=scalL s xs/\scalL s xs<2305843009213688669:=by
 have IT:=XA 2305843009213688668 zO (qj (tagged s xs.length (fU xs))) 0 zO zO;unfold scalL xt;omega
structure Fx where
 sc:ByteArray->List UInt8->Int
 tg:ByteArray->List UInt8->Nat->Int
 ge:Int->Int->Int×Int
structure FxOk (Z:Fx):Prop where
 sc:∀s xs,scalL s xs=Z.sc s xs
 tg:∀s xs,tagged s xs.length (fU xs)=Z.tg s xs
 ge:∀a k,gExp a k=Z.ge a k
variable {Z:Fx}
theorem FxOk.bd(hZ:FxOk Z)(s:ByteArray)(xs:List UInt8):1<=Z.sc s xs/\Z.sc s xs<2305843009213688669:=by
 rw[<-hZ.sc];exact xD s xs
theorem FxOk.byt(hZ:FxOk Z)(s:ByteArray)(xs:List UInt8):iJ (Z.tg s xs):=by
 rw[<-hZ.tg];exact nji _ _ _
theorem GX(hZ:FxOk Z)(k:Int)(w:World):Calls prog 65 #[.int .i64 k] w (ay w (kW (Z.ge 4 k))):=by
 rw[<-hZ.ge];exact n3h k w
theorem DC(hZ:FxOk Z)(a:Int)(w:World):Calls prog 33 #[.int .i64 a] w (ay w (.int .i64 (Z.ge 4 a).1)):=by
 rw[<-hZ.ge];exact noh a w
theorem GY(hZ:FxOk Z)(s:ByteArray)(hs0:s.size<1000)(xs:List UInt8)(hn:xs.length<900000000000)(b off c:Nat)(hc:xs.length<=c)(w:World)(h:cC w b off xs)(hg:Glb w):Calls prog 110 #[.string s,.slice (some ⟨b,off,none⟩) xs.length c] w (ay w (.int .i64 (Z.sc s xs))):=by
 rw[<-hZ.sc];obtain⟨cs,t,fr,h1,h2,h3⟩:=h;obtain⟨⟨t2,ql,g1⟩,t3,si,g2⟩:=hg;exact n3k s xs.length (fU xs) b off c t t2 t3 fr ql si cs hs0 hc zJ w h1 h2 h3 g1 g2
def b8 (n:Int) (i:Nat):UInt8:=UInt8.ofNat ((n%18446744073709551616).toNat/2^(56-8*i)%256)
def DD (n:Int):List UInt8:=(List.range 8).map (b8 n)
theorem Yh(n:Int):(DD n).length=8:=by simp[DD]
theorem nYl(n:Int)(i:Nat)(h:i<8):(DD n).take (i+1)=(DD n).take i++[b8 n i]:=by
 have hl:i<(DD n).length:=by rw[Yh];exact h
 rw[GK hl];congr 2;simp[DD]
theorem Ps(n k:Int)(i:Nat)(hi:i<8)(hk:k=56-8*(i:Int)):(n%18446744073709551616).fdiv (2^(min (Int.toNat k) IntKind.u64.bits))%256=((b8 n i).toNat:Int):=by
 subst hk;have e1:min (Int.toNat (56-8*(i:Int))) IntKind.u64.bits=56-8*i:=by simp[IntKind.bits];omega
 obtain⟨m,hm⟩:∃m:Nat,n%18446744073709551616=(m:Int):=⟨(n%18446744073709551616).toNat,by omega⟩;rw[e1];unfold b8;rw[hm,Pt,uS];simp only[UInt8.toNat_ofNat'];rw[Uy];omega
def uT (ns:List Int):List UInt8:=ns.flatMap DD
theorem n3j(ns:List Int):(uT ns).length=8*ns.length:=by
 induction ns with
 |nil=>rfl
 |cons n ns ih=>simp only[uT,GZ,cK,dQ]at *;rw[Yh];omega
theorem nNn(ns:List Int)(j:Nat)(h:j<ns.length):uT (ns.take (j+1))=uT (ns.take j)++DD ns[j]:=by
 rw[GK h];unfold uT;rw[List.flatMap_append];simp
def roV (ro:Option (Nat×Nat×List Value)) (ys:List UInt8):Value:=match ro with|none=>.slice none 0 0|some (b,c,_)=>aW b ys.length c
def roH (e:Nat) (ro:Option (Nat×Nat×List Value)) (ys:List UInt8):ab:=match ro with|none=>[]|some (b,_,sp)=>[(b,aV e ys sp)]
def Pu (G:Gh) (L:List World) (ro:Option (Nat×Nat×List Value)) (ys:List UInt8):Prop:=match ro with|none=>ys=[]|some (b,c,sp)=>cy ys c sp/\Fr G L b
theorem nCj(hZ:FxOk Z)(s:ByteArray)(hs0:s.size<1000)(msg:List UInt8)(bm om cm:Nat)(qo:msg.length<=100000000000)(ns:List Int)(bn cn tn:Nat)(G0:Nat×Nat)(Yi:0<ns.length)(tM:ns.length<=1000)(w:World)(km:cC w bm om msg)(kI:w.heap[bn]? =some (.cells (ns.map (Value.int .i64)).toArray tn G0))(hg:Glb w):Calls prog 64 #[.string s,.slice (some ⟨bm,om,none⟩) msg.length cm,.slice (some ⟨bn,0,none⟩) ns.length cn] w (ay w (.int .i64 (Z.sc s (uT ns++msg)))):=by
 have aeV:=(aT.1 kI).1;have Pw:=km.lt;have eE:=hg.lt;refine enter (vs:=[_,_,_]) func64 rfl ntmps64 rfl ?_;refine B 19 ?_;refine CJ.loop (α:=List UInt8×Nat×Option (Nat×Nat×List Value)) (λp=>[(0,.string s),(1,.slice (some ⟨bm,om,none⟩) msg.length cm),(7,roV p.2.2 p.1),(11,.slice (some ⟨bn,0,none⟩) ns.length cn),(12,.int .i64 (ns.length:Int)),(13,.int .i64 (p.2.1:Int))]) (λp=>roH 5 p.2.2 p.1) (λp=>[w]) (λp=>Gh.no) (λp=>p.1=uT (ns.take p.2.1)/\p.2.1<=ns.length/\Pu Gh.no [w] p.2.2 p.1) (λp=>ns.length-p.2.1) ([],0,none) ⟨rfl,db _,rfl⟩ zR rfl rfl zX ?_;rintro⟨Uz,j,Yj⟩ ⟨sE,hj,xE⟩;dsimp only at sE hj xE ⊢;refine B 6 ?_;refine aG ?_ ?_
 ·intro ah;refine B 7 ?_;obtain⟨n,hn⟩:∃n,ns[j]'zJ=n:=⟨_,rfl⟩;refine rv rfl rfl rfl (aa (v:=.int .i64 n) isAgg3 rfl A0 kI zU (by cases Yj with|none=>trivial|some p=>obtain⟨b1,c1,s1⟩:=p;obtain⟨hr,hf⟩:=xE;simp only[Fr,Gh.no,ad,and_true,false_or]at hf;exact⟨by dsimp only;omega,trivial⟩) (by simp only[B7,qp];rw[gB zJ];simp[<-hn])) ?_;refine B 9 ?_;have aeW:Uz.length<=8000:=by rw[sE,n3j,jD];omega
  refine CJ.loop (α:=List UInt8×Nat×Option (Nat×Nat×List Value)) (λp=>[(0,.string s),(1,.slice (some ⟨bm,om,none⟩) msg.length cm),(7,roV p.2.2 p.1),(9,.int .i64 n),(10,.int .i64 (56-8*(p.2.1:Int))),(11,.slice (some ⟨bn,0,none⟩) ns.length cn),(12,.int .i64 (ns.length:Int)),(13,.int .i64 (j:Int))]) (λp=>roH 5 p.2.2 p.1) (λp=>[w]) (λp=>Gh.no) (λp=>p.1=Uz++(DD n).take p.2.1/\p.2.1<=8/\Pu Gh.no [w] p.2.2 p.1) (λp=>8-p.2.1) (Uz,0,Yj) ⟨by simp,by dsimp only;omega,xE⟩ zR rfl rfl zX ?_;rintro⟨ys,i,ro⟩ ⟨Ji,hi,M7⟩;dsimp only at Ji hi M7 ⊢;have M8:ys.length<=8008:=by rw[Ji,cK,jD,Yh];omega
  refine B 7 ?_;refine aG ?_ ?_
  ·intro aJ;refine B 7 ?_;refine rq (.int .u64 (n%18446744073709551616)) (hJ underlying3 underlying202 rfl) (vu (nz n)) ?_;refine B 1 ?_;refine rv rfl rfl rfl (gY rfl rfl zJ) ?_;refine rq (.int .u8 ((b8 n i).toNat:Int)) (lQ underlying202 underlying5 rfl) (congrArg (Value.int .u8) (Ps n _ i zJ rfl)) ?_;refine M1 [b8 n i] bt zeroValue5 rfl rfl rfl rfl rfl rfl rfl rfl rfl ?_;intro iM xF Jj aeX aeY;replace xF:=yb xF;replace Jj:=yd Jj;rcases ro with _|⟨b1,c1,s1⟩
   ·have e0:ys=[]:=M7;subst e0;refine apN (zs:=[b8 n i]) bt rfl rfl rfl rfl (gS.own (i:=0) underlying64 rfl) zX zX ?_;intro UA Yk Yl Jk Py aeZ Jl;replace Jk:=yb Jk;replace Py:=yd Py;have DE:Fr Gh.no [w] UA:=.inr ⟨Jk.1,trivial⟩;refine OJ.dropF (i:=1) rfl (.inr ⟨xF.1,trivial⟩) ?_;refine B 9 ?_;refine PJ.again ([b8 n i],i+1,some (UA,Yk,Yl)) ⟨by dsimp only;rw[nYl n i zJ,<-iX,<-Ji];first|done|rfl,by dsimp only;omega,Jl,DE⟩ dG ⟨rfl,rfl,rfl,rfl,congrArg some (vi dG),rfl,rfl,rfl,trivial⟩ rfl rfl zX
   obtain⟨hr,hf⟩:=M7;refine GV (i:=1) (xs:=ys) (zs:=[b8 n i]) (sp:=s1) rfl bt rfl rfl rfl rfl (gS.own (i:=0) underlying64 rfl) hr hf v7 ?_;intro UA Yk Yl DE Jl;have Pz:=DE;replace Pz:=ye Pz;refine OJ.dropF (i:=0) rfl (.inr ⟨xF.1,trivial⟩) ?_;refine B 9 ?_;refine PJ.again (ys++[b8 n i],i+1,some (UA,Yk,Yl)) ⟨by dsimp only;rw[nYl n i zJ,<-iX,<-Ji];first|done|rfl,by dsimp only;omega,Jl,DE⟩ dG ⟨rfl,rfl,rfl,rfl,congrArg some (vi dG),rfl,rfl,rfl,trivial⟩ rfl rfl zX
  intro aJ;refine B 10 ?_;refine PJ.again (ys,j+1,ro) ⟨by dsimp only;rw[nNn ns j zJ,hn,Ji,show i=8 by omega,sE];first|done|rfl,by dsimp only;omega,M7⟩ dG zR rfl rfl zX
 intro ah;refine B 6 ?_;have ej:j=ns.length:=by omega
 subst ej;rw[iV (ao _)]at sE;have M8:=n3j ns;rcases Yj with _|⟨b1,c1,s1⟩
 ·exact absurd (show Uz=[]from xE) (by intro e;rw[e]at sE;rw[<-sE]at M8;simp at M8;omega)
 obtain⟨hr,hf⟩:=xE;subst sE;have hg1:=hf;simp only[Fr,Gh.no,ad,and_true,false_or]at hg1;refine CJ.reH (H':=[(b1,aV 5 (uT ns) s1)]) rfl ?_;refine B 4 ?_;refine GV (i:=0) (xs:=uT ns) (zs:=msg) (sp:=s1) rfl bt rfl rfl rfl rfl (gS.seg underlying64 A0 km zU qK) hr hf (by rw[M8];omega) ?_;intro PA c33 s33 Ym Yn;have PB:=Ym;replace PB:=ye PB;refine call call110 rfl rfl rfl (λW hS=>GY hZ s hs0 (uT ns++msg) (by rw[cK,M8];omega) PA 0 c33 Yn.le W (cC.row (hS.own _ A0)) (hg.old hS A0 zS zM)) ?_;refine B 4 ?_;refine bF (.inl rfl) results64 (RS.t rfl (RS.n)) A0 zP ?_;rfl
def B9 (Z:Fx) (x:Int) (msg:List UInt8):Int:=Z.sc (⟨#[110,111,110,99,101]⟩:ByteArray) (uT [x]++msg)
def DF (Z:Fx) (r p:Int) (msg:List UInt8):Int:=Z.sc (⟨#[115,105,103,110]⟩:ByteArray) (uT [r,p]++msg)
def kn (Z:Fx) (x:Int) (msg:List UInt8):Int:=(Z.ge 4 (B9 Z x msg)).1
def mX (Z:Fx) (x:Int) (msg:List UInt8):Int:=(pB (B9 Z x msg) (jA (DF Z (kn Z x msg) (Z.ge 4 x).1 msg) x).1).1
def qL (Z:Fx) (x:Int) (msg:List UInt8):Value:=if jt x then .tuple #[.agg #[.int .i64 (kn Z x msg),.int .i64 (mX Z x msg)],.int .i64 0]else .tuple #[.agg #[.int .i64 0,.int .i64 0],.int .i64 50]
theorem n4m(a b:Int):mQ (jA a b).1:=by
 unfold jA;exact zek
theorem xG(hZ:FxOk Z)(x:Int)(msg:List UInt8):mQ (B9 Z x msg):=by have:=hZ.bd (⟨#[110,111,110,99,101]⟩:ByteArray) (uT [x]++msg);unfold B9;exact⟨by omega,by omega⟩
theorem xH(hZ:FxOk Z)(x:Int)(msg:List UInt8):(pB (B9 Z x msg) (jA (DF Z (kn Z x msg) (Z.ge 4 x).1 msg) x).1).2=0:=by
 unfold pB;rw[if_pos ⟨xG hZ _ _,n4m _ _⟩]
theorem DG(hZ:FxOk Z)(x k e:Int)(msg:List UInt8)(hK:jt x)(hk:B9 Z x msg=k)(he:DF Z (Z.ge 4 k).1 (Z.ge 4 x).1 msg=e):Value.tuple #[.agg #[.int .i64 (Z.ge 4 k).1,.int .i64 (pB k (jA e x).1).1],.int .i64 (pB k (jA e x).1).2]=qL Z x msg:=by
 have hE:=xH hZ x msg;subst hk;subst he;unfold qL;rw[if_pos hK];exact congrArg (λz=>Value.tuple #[.agg #[.int .i64 (kn Z x msg),.int .i64 (mX Z x msg)],.int .i64 z]) hE
theorem DH(Z:Fx)(x:Int)(msg:List UInt8)(hK:¬jt x):Value.tuple #[.agg #[.int .i64 0,.int .i64 0],.int .i64 50]=qL Z x msg:=by
 unfold qL;rw[if_neg hK]
theorem nSn(hZ:FxOk Z)(x k:Int)(msg:List UInt8)(hk:B9 Z x msg=k)(qo:msg.length<=100000000000)(bm om cm bn cn tn:Nat)(G0:Nat×Nat)(w:World)(km:cC w bm om msg)(kI:w.heap[bn]? =some (.cells #[.int .i64 x] tn G0))(hg:Glb w):Calls prog 64 #[.string (⟨#[110,111,110,99,101]⟩:ByteArray),.slice (some ⟨bm,om,none⟩) msg.length cm,.slice (some ⟨bn,0,none⟩) 1 cn] w (ay w (.int .i64 k)):=by
 subst hk;exact nCj hZ (⟨#[110,111,110,99,101]⟩:ByteArray) zO msg bm om cm qo [x] bn cn tn G0 zX zX w km kI hg
theorem n8h(hZ:FxOk Z)(r p e:Int)(msg:List UInt8)(he:DF Z r p msg=e)(qo:msg.length<=100000000000)(bm om cm bn cn tn:Nat)(G0:Nat×Nat)(w:World)(km:cC w bm om msg)(kI:w.heap[bn]? =some (.cells #[.int .i64 r,.int .i64 p] tn G0))(hg:Glb w):Calls prog 64 #[.string (⟨#[115,105,103,110]⟩:ByteArray),.slice (some ⟨bm,om,none⟩) msg.length cm,.slice (some ⟨bn,0,none⟩) 2 cn] w (ay w (.int .i64 e)):=by
 subst he;exact nCj hZ (⟨#[115,105,103,110]⟩:ByteArray) zO msg bm om cm qo [r,p] bn cn tn G0 zX zX w km kI hg
theorem nfo(hZ:FxOk Z)(x:Int)(msg:List UInt8)(bm om cm:Nat)(qo:msg.length<=100000000000)(w:World)(km:cC w bm om msg)(hg:Glb w):Calls prog 27 #[.int .i64 x,.slice (some ⟨bm,om,none⟩) msg.length cm] w (ay w (qL Z x msg)):=by
 have Pw:=km.lt;have eE:=hg.lt;obtain⟨k,hk⟩:∃k,B9 Z x msg=k:=⟨_,rfl⟩;obtain⟨e,he⟩:∃e,DF Z (Z.ge 4 k).1 (Z.ge 4 x).1 msg=e:=⟨_,rfl⟩;refine enter (vs:=[_,_]) func27 rfl ntmps27 rfl ?_;refine B 2 ?_;refine aZ zeroValue36 rfl rfl ?_;refine yW ?_;intro b4 dO dU;refine B 12 ?_;refine OY ?_;refine B 1 ?_;refine OY ?_;refine B 8 ?_;refine PC (first:=[.int .i64 x]) (cap:=[]) rfl call32 rfl rfl rfl (λW hS=>nci x W) ?_;refine B 3 ?_;refine aG ?_ ?_
 ·intro ah;refine B 3 ?_;refine UB ?_;refine B 5 ?_;refine bF (.inl rfl) results27 (RS.wA (i:=0) rfl isAgg36 sizeOf36 rfl (bj rfl) (RS.t rfl (RS.n))) A0 zP ?_;exact DH Z x msg gw
 intro ah;refine B 6 ?_;refine Da ?_;refine yV ?_;intro Ca Cb DI DJ ae0 Yo Jm;refine call call64 rfl rfl rfl (λW hS=>nSn hZ x k msg hk qo bm om cm Ca _ _ _ W (km.old hS A1 zU qK) (hS.old A0 DI DJ qK) (hg.old hS A1 zS zM)) ?_;refine B 6 ?_;refine call call65 rfl rfl rfl (λW hS=>GX hZ _ W) ?_;refine B 4 ?_;refine Uj ?_;refine B 3 ?_;refine ng (E':=[(0,_),(1,_),(4,_),(5,_),(6,_),(7,_),(8,_),(9,_),(12,_),(13,_),(14,_),(15,_),(16,_),(17,_),(18,_),(19,_),(21,_),(22,_),(23,_),(24,_),(25,_),(26,_),(27,_),(28,_),(30,_)]) zR ?_;refine nP 13 [5] [([],some _),([],some _),([1],some (.int .i64 (Z.ge 4 k).1)),([],some _),([3],some _),([2,4],none),([0,5],some (.int .i64 e)),([],some _),([6,7],some _),([8],some _),([9],some _),([9],some _),([10],some _)] (λcv L' H'=>match cv with| []=>L'=[Cb,w]/\H'=[(b4,.cells #[.int .i64 (Z.ge 4 k).1,.int .i64 0] 36 (0,0))]| [v1]=>∃(uU:Nat) (G3:World),v1= .slice (some ⟨uU,0,none⟩) 2 2/\L'=[G3,Cb,w]/\H'=[(b4,.cells #[.int .i64 (Z.ge 4 k).1,.int .i64 0] 36 (0,0))]/\G3.heap[uU]? =some (.cells #[.int .i64 (Z.ge 4 k).1,.int .i64 (Z.ge 4 x).1] 3 (0,0))/\(Cb.heap.size<=uU/\w.heap.size<=uU)/\b4≠uU/\¬Gh.no.X uU/\G3.heap.size=uU+1|_=>False) zQ ⟨rfl,rfl⟩ zQ zQ zQ zQ zQ zQ (pc zT (pc Jn (pc (λcv L' H' hd hP=>match cv,hd,hP with| [],hd,hP=>(by obtain⟨rfl,rfl⟩:=hP;exact X.val rfl rfl (aK (i:=0) rfl isAgg3 rfl rfl) R2)| [v1],hd,hP=>(by obtain⟨uU,G3,rfl,rfl,rfl,xI,xJ,DK,xK,DL⟩:=hP;exact X.val rfl rfl (aK (i:=0) rfl isAgg3 rfl rfl) R2)|_::_::_,_,hP=>hP.elim) (pc zT (pc (by exact λcv L' H' hd hP=>nfn (first:=[.int .i64 x]) (cap:=[]) rfl call33 rfl rfl (λW hS _=>DC hZ x W) (λ_=>rfl)) (pk (pc (λcv L' H' hd hP=>match cv,hd,hP with| [],hd,hP=>(absurd (show false=true from hd) zO)| [v1],hd,hP=>(by obtain⟨uU,G3,rfl,rfl,rfl,xI,xJ,DK,xK,DL⟩:=hP;exact nf call64 rfl rfl (λW hS _=>n8h hZ _ _ e msg he qo bm om cm uU _ _ _ W (km.old hS A2 zU qK) (hS.old A0 xI xK qK) (hg.old hS A2 zS zM)) (λ_=>rfl))|_::_::_,_,hP=>hP.elim) (pc zT (pc (by exact λcv L' H' hd hP=>nf call66 rfl rfl (λW hS _=>n5j _ _ W) (λ_=>rfl)) (pc zT (pc (by exact λcv L' H' hd hP=>X.val rfl rfl (gk rfl rfl) R2) (pc (by exact λcv L' H' hd hP=>X.val rfl rfl (gk rfl rfl) R2) (pc (by exact λcv L' H' hd hP=>X.val rfl rfl (jz rfl) R2) (pn)))))))))))))) ?_ ?_
 ·refine sc rfl rfl rfl ?_ ?_
  ·intro cv L' H' hl hP F Q' hk;obtain rfl:=iZ hl;obtain⟨rfl,rfl⟩:=hP;refine Da ?_;intro uU G3 xI xJ DK xK DL;exact OJ.done (hk _ _ _ ⟨uU,G3,rfl,rfl,rfl,xI,⟨xJ.1,xJ.2.1⟩,DK.1,xK,DL⟩)
  exact sn
 intro cv L' H' hl hP;obtain⟨v1,rfl⟩:=cM hl;obtain⟨uU,G3,rfl,rfl,rfl,xI,xJ,DK,xK,DL⟩:=hP;refine B 7 ?_;refine call call67 rfl rfl rfl (λW hS=>n7n _ _ W) ?_;refine B 4 ?_;refine Uj ?_;refine B 7 ?_;refine UB ?_;refine B 4 ?_;refine bF (.inl rfl) results27 (RS.wA (i:=0) rfl isAgg36 sizeOf36 rfl (bj rfl) (RS.t rfl (RS.n))) A2 zP ?_;exact DG hZ x k e msg gw hk he
theorem DM(hZ:FxOk Z)(x:Int):xe x=if jt x then((Z.ge 4 x).1,0)else(0,50):=by
 unfold xe;split
 ·rename_i h;rw[<-hZ.ge,Uk h]
 rfl
theorem xL{P:Program}{ms:Array (String×TypeId)}(hU:P.underlying T=some (.interface ms))(d:Nat)(W:World):(Op.equalIn (d+1) T .nilIface .nilIface).run P W= .ok true W:=by
 exact PD
theorem DN{U:Nat}{ms:Array (String×TypeId)}(hU:C.P.underlying T=some (.interface ms))(hx:ev E x=some .nilIface):RV C G L H E (.binOp .eql T x (.const .nilIface) U) (.bool true):=λd ty pos aA g a W hF _=>by
 have h0:a.eval (.const .nilIface)= .nilIface:=rfl;have h1:(eqGuard .eql T x (.const .nilIface) .nilIface .nilIface).run C.P W= .ok () W:=by simp[eqGuard]
 have h2:(binOp .eql T .nilIface .nilIface).run C.P W= .ok (.bool true) W:=by
  have e:binOp .eql T .nilIface .nilIface=(do pure (.bool (<-Op.equalIn (9999+1) T .nilIface .nilIface))):=rfl;rw[e,Sem.run_bind,xL hU];rfl
 simp only[execOp,hF.ev hx,h0,Sem.run_bind,h1,h2,Result.andThen];rfl
theorem n5h(a:Int)(w:World):Calls prog 59 #[.int .i64 a] w (ay w (.bool (decide (jt a)))):=by
 refine enter (vs:=[_]) func59 rfl ntmps59 rfl ?_;refine B 10 ?_;refine nh (t:=5) rfl (λah=>?_) (λah=>?_)
 ·replace ah:=ya ah;refine B 7 ?_;refine ax results59 rfl A0 ?_;refine vb (vW.2 ?_)
  (try simp only[decide_eq_true_eq,Bool.false_eq_true,false_iff,true_iff])
  first|omega|(intro h;omega)
 replace ah:=ya ah;refine B 7 ?_;refine ax results59 rfl A0 ?_;refine vb (vW.2 ?_)
 (try simp only[decide_eq_true_eq,Bool.false_eq_true,false_iff,true_iff])
 first|omega|(intro h;omega)
theorem nNd(a:Int)(h:jt a)(w:World):Calls prog 59 #[.int .i64 a] w (ay w (.bool true)):=by
 have:=n5h a w;rw[decide_eq_true h]at this;exact this
theorem nBl(b:Nat)(w:World):Calls prog 57 #[.nilIface,ptr b 0] w (ay w (.tuple #[])):=by
 refine enter (vs:=[_,_]) func57 rfl ntmps57 rfl ?_;refine B 8 ?_;refine rv rfl rfl rfl (DN underlying20 rfl) ?_;refine B 7 ?_;refine bF (.inr rfl) results57 (RS.n) A0 trivial ?_;rfl
theorem nQk(e:Int)(w:World):Calls prog 58 #[.bool true,.int .i64 e] w (ay w (.tuple #[])):=by
 refine enter (vs:=[_,_]) func58 rfl ntmps58 rfl ?_;refine B 8 ?_;refine bF (.inr rfl) results58 (RS.n) A0 trivial ?_;rfl
theorem nii(n e:Int)(he:e=0)(w:World):Calls prog 61 #[.int .i64 n,.int .i64 e] w (ay w (.int .i64 n)):=by
 refine enter (vs:=[_,_]) func61 rfl ntmps61 rfl ?_;refine B 9 ?_;refine rq (.bool false) (cq rfl rfl) (vb (by simp[he])) ?_;refine B 12 ?_;refine ax results61 rfl A0 ?_;rfl
theorem ndk(b:Nat)(w:World):CallsDIn (FW none) 0 prog 68 #[ptr b 0] .returning w (λe u' w'=>u'= .returning/\(∃v,e= .returned v)/\Below w.heap.size w w'):=by
 refine(DO (vs:=[ptr b 0]) (R:=ay w (.tuple #[])) .returning .returning .nilIface nwk func68 rfl ntmps68 rfl rfl (uK w) ?_).mono ?_
 ·refine call call57 rfl rfl rfl (λW hS=>nBl b W) ?_;refine B 1 ?_;exact bF (.inr rfl) results68 (RS.n) A0 trivial rfl
 rintro e u' w' ⟨rfl,rfl,hb⟩;exact⟨rfl,⟨_,rfl⟩,hb⟩
theorem nzl(a b:Int)(ha:jt a)(hb:jt b)(w:World):Calls prog 29 #[.int .i64 a,.int .i64 b] w (ay w (.tuple #[.int .i64 (jA b (mR a).1).1,.int .i64 0])):=by
 have hsi:(mR a).2=0/\mQ (mR a).1:=by
  unfold mR;have h1:mQ a:=⟨by unfold jt at ha;omega,by unfold jt at ha;omega⟩;rw[if_pos h1,if_neg (by unfold jt at ha;omega)];exact⟨rfl,Ub _ _ _ zO⟩
 have B5:(jA b (mR a).1).2=0:=by
  unfold jA;rw[if_pos ⟨⟨by unfold jt at hb;omega,by unfold jt at hb;omega⟩,hsi.2⟩]
 refine Jo (vs:=[_,_]) Gh.no [] func29 rfl ntmps29 rfl (uK w) ?_;refine B 3 ?_;refine aZ zeroValue67 rfl rfl ?_;refine yW ?_;intro b5 iH iI;refine B 5 ?_;refine OJ.defer (cap:=[ptr b5 0]) rfl rfl ?_;refine B 5 ?_;refine call call59 rfl rfl rfl (λW hS=>nNd a ha W) ?_;refine B 2 ?_;refine call call59 rfl rfl rfl (λW hS=>nNd b hb W) ?_;refine B 1 ?_;refine call call58 rfl rfl rfl (λW hS=>nQk _ W) ?_;refine B 6 ?_;refine call call69 rfl rfl rfl (λW hS=>nco _ W) ?_;refine B 2 ?_;refine call call61 rfl rfl rfl (λW hS=>nii _ _ hsi.1 W) ?_;refine call call66 rfl rfl rfl (λW hS=>n5j _ _ W) ?_;refine B 2 ?_;refine call call61 rfl rfl rfl (λW hS=>nii _ _ B5 W) ?_;refine B 1 ?_;refine bh (i:=0) rfl sizeOf67 rfl rfl rfl rfl rfl rfl ?_;refine B 3 ?_;refine Yp (.inl rfl) call68 (λW hS=>ndk b5 W) results29 (RS.t rfl (RS.w (i:=0) rfl isAgg67 rfl rfl RS.n)) (λW hS=>⟨rfl,hS.base A0 uV⟩)
def dc (f:Nat->Int):List UInt8:=(List.range 32).map λi=>UInt8.ofNat (f i).toNat
theorem nQ(f:Nat->Int):(dc f).length=32:=by simp[dc]
theorem UC(f:Nat->Int)(hf:iJ f)(i:Nat)(h:i<32):fU (dc f) i=f i:=by
 have:=hf i;simp only[fU,dc,qp,List.getElem?_range h,uW,Option.getD_some,UInt8.toNat_ofNat'];omega
theorem cC.dg{w:World}{t:Nat}{f:Nat->Int}(h:w.heap[b]? =some (.cells (dg f) t fr))(hf:iJ f):cC w b 0 (dc f):=
 ⟨_,_,_,h,by rw[nQ];exact ao 32,λi hi=>by rw[nQ]at hi;rw[iC,oL f i hi,UC f hf i hi]⟩
theorem nvj(hZ:FxOk Z)(s:ByteArray)(hs0:s.size<1000)(xs:List UInt8)(hn:xs.length<900000000000)(b off c:Nat)(hc:xs.length<=c)(w:World)(h:cC w b off xs)(hg:Glb w):Calls prog 108 #[.string s,.slice (some ⟨b,off,none⟩) xs.length c] w (ay w (.agg (Px.dg (Z.tg s xs)))):=by
 rw[<-hZ.tg];obtain⟨cs,t,fr,h1,h2,h3⟩:=h;obtain⟨⟨t2,ql,g1⟩,t3,si,g2⟩:=hg;exact ngg s xs.length (fU xs) b off c t t2 t3 fr ql si cs hs0 hc zJ w h1 h2 h3 g1 g2
def bX (s:Value) (r:Int):Array Value:=#[s,.int .i64 0,.int .i8 r]
def qq (n:Nat):List Value:=List.replicate n (.int .u8 0)
theorem DP(bI:Nat)(lr:Int)(t:Nat)(fr:Nat×Nat)(w:World)(lO:w.heap[bI]? =some (.cells (bX (.slice none 0 0) lr) t fr)):Calls prog 286 #[ptr bI 0] w (ay w (.int .i64 0)):=by
 have r6:¬Gh.no.X bI:=λh=>h;refine enter (vs:=[_]) func286 rfl ntmps286 rfl ?_;refine B 6 ?_;refine ng (E':=[(0,_),(2,_)]) ⟨rfl,rfl,trivial⟩ ?_;refine nl 9 [.det [] _,.det [0] _,.det [1] _,.det [2] _,.det [3] _,.det [] _,.det [5] _,.det [6] _,.det [7] _] zQ (xc zN (xc Dl (xc (by exact λaf=>X.val rfl rfl (al underlying281 rfl sizeOf64 rfl) (λ_ _=>rfl)) (xc z2d (xc (by exact λaf=>X.val rfl rfl (ib underlying64 rfl) (λ_ _=>rfl)) (xc zN (xc Dl (xc (by exact λaf=>X.val rfl rfl (al underlying281 rfl sizeOf3 rfl) (λ_ _=>rfl)) (xc z4d (xn)))))))))) zQ zQ zQ (λaf=>?_);refine B 5 ?_;refine ax results286 rfl A0 ?_;rfl
theorem nth(bI:Nat)(lr:Int)(t:Nat)(fr:Nat×Nat)(n:Nat)(hn:0<n)(w:World)(lO:w.heap[bI]? =some (.cells (bX (.slice none 0 0) lr) t fr)):Calls prog 245 #[ptr bI 0,.int .i64 (n:Int)] w (ay w (.tuple #[.int .i64 0,.bool false])):=by
 have r6:¬Gh.no.X bI:=λh=>h;refine enter (vs:=[_,_]) func245 rfl ntmps245 rfl ?_;refine B 27 ?_;refine zWf ?_;refine B 12 ?_;refine nS results245 rfl rfl A0 ?_ ?_;all_goals rfl
theorem nxm(bI bR m c n:Nat)(lr:Int)(t:Nat)(hc:m+n<=c)(aJ:c<=1000000)(w:World)(hb:w.heap[bI]? =some (.cells (bX (aW bR m c) lr) t (0,0))):Calls prog 245 #[ptr bI 0,.int .i64 (n:Int)] w (qM w [bI] (λ_:Unit=>.tuple #[.int .i64 (m:Int),.bool true]) (λ_=>[(bI,.cells (bX (aW bR (m+n) c) lr) t (0,0))]) (λ_=>True)):=by
 have jf:=(aT.1 hb).1;refine nL (vs:=[_,_]) (Gh.lent (λk=>k∈keys [(bI,.cells (bX (aW bR m c) lr) t (0,0))])) [(bI,.cells (bX (aW bR m c) lr) t (0,0))] func245 rfl ntmps245 rfl (PE (gC.mem ⟨hb,trivial⟩) (PF _)) ?_;refine B 27 ?_;refine UD ?_;refine B 12 ?_;refine rq (.int .i64 ((m+n:Nat):Int)) (pE rfl rfl zJ zJ) (vi zJ) ?_;refine rv rfl rfl rfl (fM (h:=m+n) underlying64 sizeOf5 rfl ⟨_,_,rfl,rfl⟩ zJ) ?_;refine B 2 ?_;refine kf (i:=0) rfl sizeOf64 rfl rfl rfl rfl (bj rfl) rfl ?_;refine B 11 ?_;exact xM (Hz:=[(bI,.cells (bX (aW bR m c) lr) t (0,0))]) (H0:=[]) () (.inl rfl) results245 ((RS.t rfl (RS.t rfl RS.n))) A0 PG rfl PH
theorem mkz(c:Nat):cf c (λ_=>Value.int .u8 0)=(ub ([]:List UInt8)++qq c).toArray:=by
 apply Array.ext';simp[cf,ub,qq,List.map_const']
theorem xN(c n:Nat):(qq c).drop n=qq (c-n):=by simp[qq,List.drop_replicate]
theorem Yq(n:Nat):(qq n).length=n:=by simp[qq]
theorem nCl(xs zs:List UInt8)(sp:List Value)(h:zs.length<=sp.length):setCells (ub xs++sp).toArray xs.length (ub zs)=(ub (xs++zs)++sp.drop zs.length).toArray:=by
 apply Array.ext';rw[M9];show gD (ub xs++sp) xs.length (ub zs)=ub (xs++zs)++sp.drop zs.length;have hs:sp=sp.take zs.length++sp.drop zs.length:=(DQ _ _).symm;conv=>lhs;rw[hs]
 rw[<-uR xs,UE _ _ _ _ (by rw[uR,jD];omega),xO,iX]
theorem xP(bI n:Nat)(lr:Int)(t:Nat)(Yi:0<n)(hn:n<=64)(w:World)(hb:w.heap[bI]? =some (.cells (bX (.slice none 0 0) lr) t (0,0))):Calls prog 246 #[ptr bI 0,.int .i64 (n:Int)] w (qM w [bI] (λ_:Nat=>.int .i64 0) (λbR=>[(bI,.cells (bX (aW bR n 64) lr) t (0,0)),(bR,.cells (cf 64 (λ_=>.int .u8 0)) 5 (0,0))]) (λ_=>True)):=by
 have jf:=(aT.1 hb).1;refine nL (vs:=[_,_]) (Gh.lent (λk=>k∈keys [(bI,.cells (bX (.slice none 0 0) lr) t (0,0))])) [(bI,.cells (bX (.slice none 0 0) lr) t (0,0))] func246 rfl ntmps246 rfl (PE (gC.mem ⟨hb,trivial⟩) (PF _)) ?_;refine B 8 ?_;refine call call286 rfl rfl rfl (λW hS=>DP bI lr _ _ W (hS.own _ A0)) ?_;refine B 7 ?_;refine BY ?_;refine B 5 ?_;refine wh ?_;refine B 11 ?_;refine call call245 rfl rfl rfl (λW hS=>nth bI lr _ _ n Yi W (hS.own _ A0)) ?_;refine B 22 ?_;refine rv rfl rfl rfl (Jp underlying64 rfl rfl) ?_;refine B 2 ?_;refine UD ?_;refine B 8 ?_;refine OZ (ln:=n) (cp:=64) underlying64 OV rfl rfl rfl rfl rfl rfl rfl zJ zO zJ ?_;intro b41 PI Yr;replace PI:=yb PI;try simp only[bD,ne_eq,and_true]at Yr
 refine B 2 ?_;refine kf (i:=1) rfl sizeOf64 rfl rfl rfl rfl (bj rfl) rfl ?_;refine B 9 ?_;refine PJ.swp ?_;exact xM (Hz:=[(bI,.cells (bX (.slice none 0 0) lr) t (0,0))]) (H0:=[]) b41 (.inl rfl) results246 (RS.t rfl RS.n) A0 PG rfl PH
theorem Rd.seg{off c:Nat}(hm:w1∈L)(h:cC w1 b off zs)(hG:¬G.X b)(hO:bD H b):Rd C G L H 1 zs.length (.slice (some ⟨b,off,none⟩) zs.length c) (ub zs):=by
 obtain⟨cs,t,fr,h1,h2,h3⟩:=h;exact Rd.old hm h1 hG hO zJ (by rw[XR h2 h3,<-nzm])
theorem PK(zs:List UInt8):nT (ub zs)=true:=by
 induction zs with
 |nil=>rfl
 |cons z zs ih=>simp only[ub,eh,nT,sj,Bool.true_and];exact ih
theorem nlk(bI:Nat)(lr:Int)(t:Nat)(zs:List UInt8)(bz oz cz:Nat)(Ys:0<zs.length)(gb:zs.length<=64)(w:World)(hb:w.heap[bI]? =some (.cells (bX (.slice none 0 0) lr) t (0,0)))(xQ:cC w bz oz zs)(dn:bz≠bI):Calls prog 182 #[ptr bI 0,.slice (some ⟨bz,oz,none⟩) zs.length cz] w (qM w [bI] (λ_:Nat=>.tuple #[.int .i64 (zs.length:Int),.nilIface]) (λbR=>[(bI,.cells (bX (aW bR zs.length 64) 0) t (0,0)),(bR,aV 5 zs (qq (64-zs.length)))]) (λ_=>True)):=by
 have jf:=(aT.1 hb).1;have aH:=xQ.lt;refine nL (vs:=[_,_]) (Gh.lent (λk=>k∈keys [(bI,.cells (bX (.slice none 0 0) lr) t (0,0))])) [(bI,.cells (bX (.slice none 0 0) lr) t (0,0))] func182 rfl ntmps182 rfl (PE (gC.mem ⟨hb,trivial⟩) (PF _)) ?_;refine B 11 ?_;refine kf (i:=0) rfl sizeOf279 rfl rfl rfl rfl (bj rfl) rfl ?_;refine B 7 ?_;refine call call245 rfl rfl rfl (λW hS=>nth bI 0 _ _ zs.length Ys W (hS.own _ A0)) ?_;refine B 19 ?_;refine PL (Hz:=[(bI,.cells (bX (.slice none 0 0) 0) t (0,0))]) (H0:=[]) (first:=[]) (cap:=[]) (v:=λ_:Nat=>.int .i64 0) (Hn:=λbR=>[(bI,.cells (bX (aW bR zs.length 64) 0) t (0,0)),(bR,.cells (cf 64 (λ_=>.int .u8 0)) 5 (0,0))]) (Φ:=λ_=>True) rfl rfl call246 rfl rfl rfl ⟨.inl (by simp[Gh.lent,keys]),trivial⟩ (λW hS=>xP bI zs.length 0 t Ys gb W (hS.own _ A0)) ?_;rintro bR-qt;have PM:bR=bI\/w.heap.size<=bR:=by
  rcases qt (bR,_) A1 with h|h
  ·left;simpa[keys]using h
  right;exact h.1.1
 refine OJ.reH (H':=[(bI,.cells (bX (aW bR zs.length 64) 0) t (0,0)),(bR,aV 5 [] (qq 64))]) (by rw[mkz];rfl) ?_;refine B 10 ?_;refine rv rfl rfl rfl (gO (l:=0) (h:=zs.length) (off':=0) underlying64 sizeOf5 rfl ⟨_,_,rfl,rfl⟩ rfl zJ zJ (by rw[if_neg zJ])) ?_;refine B 1 ?_;refine Um (i:=1) (m:=1) (n:=zs.length) (k:=zs.length) (news:=ub zs) rfl underlying64 sizeOf5 rfl rfl rfl rfl (λ_=>rfl) zJ (Rd.seg A0 xQ (by simp[Gh.lent,keys]<;>omega) qK) (by simp only[qF,cK,uR,Yq];omega) (PK _) ?_;refine B 5 ?_;refine PJ.reH (H':=[(bI,.cells (bX (aW bR zs.length 64) 0) t (0,0)),(bR,aV 5 zs (qq (64-zs.length)))]) (by have:=nCl [] zs (qq 64) (by rw[Yq];omega);simp only[mT,dK]at this;simp only[eB,cZ,aV];rw[this,xN]) ?_;exact xM (Hz:=[(bI,.cells (bX (.slice none 0 0) lr) t (0,0))]) (H0:=[]) bR (.inl rfl) results182 (RS.t rfl (RS.t rfl RS.n)) A0 PG rfl PH
theorem nak(bI bR t:Nat)(xs:List UInt8)(sp:List Value)(zs:List UInt8)(bz oz cz:Nat)(gb:xs.length+zs.length<=64)(xR:sp.length=64-xs.length)(hx:xs.length<64)(w:World)(hb:w.heap[bI]? =some (.cells (bX (aW bR xs.length 64) 0) t (0,0)))(PM:w.heap[bR]? =some (aV 5 xs sp))(Yt:bI≠bR)(xQ:cC w bz oz zs)(dn:bz≠bI)(uX:bz≠bR):Calls prog 182 #[ptr bI 0,.slice (some ⟨bz,oz,none⟩) zs.length cz] w (qM w [bI,bR] (λ_:Unit=>.tuple #[.int .i64 (zs.length:Int),.nilIface]) (λ_=>[(bI,.cells (bX (aW bR (xs++zs).length 64) 0) t (0,0)),(bR,aV 5 (xs++zs) (sp.drop zs.length))]) (λ_=>True)):=by
 have jf:=(aT.1 hb).1;have xw:=(aT.1 PM).1;have aH:=xQ.lt;refine nL (vs:=[_,_]) (Gh.lent (λk=>k∈keys [(bI,.cells (bX (aW bR xs.length 64) 0) t (0,0)),(bR,aV 5 xs sp)])) [(bI,.cells (bX (aW bR xs.length 64) 0) t (0,0)),(bR,aV 5 xs sp)] func182 rfl ntmps182 rfl (PE (gC.mem ⟨hb,PM,trivial⟩) (PN Yt)) ?_;refine B 11 ?_;refine kf (i:=0) rfl sizeOf279 rfl rfl rfl rfl (bj rfl) rfl ?_;refine B 7 ?_;refine PL (Hz:=[(bI,.cells (bX (aW bR xs.length 64) 0) t (0,0))]) (H0:=[(bR,aV 5 xs sp)]) (first:=[]) (cap:=[]) (v:=λ_:Unit=>.tuple #[.int .i64 (xs.length:Int),.bool true]) (Hn:=λ_=>[(bI,.cells (bX (aW bR (xs.length+zs.length) 64) 0) t (0,0))]) (Φ:=λ_=>True) rfl rfl call245 rfl rfl rfl ⟨.inl (by simp[Gh.lent,keys]),trivial⟩ (λW hS=>nxm bI bR xs.length 64 zs.length 0 t zJ zO W (hS.own _ A0)) ?_;rintro _-qt;refine OJ.reH (H':=[(bI,.cells (bX (aW bR (xs.length+zs.length) 64) 0) t (0,0)),(bR,aV 5 xs sp)]) rfl ?_;refine B 24 ?_;refine rv rfl rfl rfl (gO (l:=xs.length) (h:=xs.length+zs.length) (off':=xs.length) underlying64 sizeOf5 rfl ⟨_,_,rfl,rfl⟩ rfl zJ zJ (by rw[if_neg zJ];omega)) ?_;refine B 1 ?_;refine Um (i:=1) (m:=1) (n:=zs.length) (k:=zs.length) (news:=ub zs) rfl underlying64 sizeOf5 rfl rfl rfl rfl (λ_=>rfl) zJ (Rd.seg A0 xQ (by simp[Gh.lent,keys]<;>omega) qK) (by simp only[qF,cK,uR];omega) (PK _) ?_
 refine B 5 ?_;refine PJ.reH (H':=[(bI,.cells (bX (aW bR (xs++zs).length 64) 0) t (0,0)),(bR,aV 5 (xs++zs) (sp.drop zs.length))]) (by have:=nCl xs zs sp zJ;show[(bI,_),(bR,Obj.cells (setCells (ub xs++sp).toArray xs.length (ub zs)) _ _)]=_;rw[this,cK];first|done|rfl) ?_;exact xM (Hz:=[(bI,.cells (bX (aW bR xs.length 64) 0) t (0,0)),(bR,aV 5 xs sp)]) (H0:=[]) () (.inl rfl) results182 (RS.t rfl (RS.t rfl RS.n)) A0 PG rfl PH
theorem nOo(bI bR n:Nat)(lr:Int)(t:Nat)(fr:Nat×Nat)(hn:n<=64)(w:World)(lO:w.heap[bI]? =some (.cells (bX (aW bR n 64) lr) t fr)):Calls prog 247 #[ptr bI 0] w (ay w (aW bR n 64)):=by
 have r6:¬Gh.no.X bI:=λh=>h;refine enter (vs:=[_]) func247 rfl ntmps247 rfl ?_;refine B 6 ?_;refine ng (E':=[(0,_),(2,_)]) ⟨rfl,rfl,trivial⟩ ?_;refine nl 8 [.det [] _,.det [0] _,.det [1] _,.det [2] _,.det [] _,.det [4] _,.det [5] _,.det [6] _] zQ (xc zN (xc Dl (xc (by exact λaf=>X.val rfl rfl (al underlying281 rfl sizeOf64 rfl) (λ_ _=>rfl)) (xc z2d (xc zN (xc Dl (xc (by exact λaf=>X.val rfl rfl (al underlying281 rfl sizeOf3 rfl) (λ_ _=>rfl)) (xc z4d (xn))))))))) zQ zQ zQ (λaf=>?_);refine rv rfl rfl rfl (gO (l:=0) (h:=n) (off':=0) underlying64 sizeOf5 rfl ⟨_,_,rfl,rfl⟩ rfl zJ zJ (by rw[if_neg zJ])) ?_;refine B 4 ?_;refine ax results247 rfl A0 ?_;rfl
theorem njk(bI t:Nat)(f:Nat->Int)(b3 t3:Nat)(si:Nat×Nat)(hf:iJ f)(w:World)(hb:w.heap[bI]? =some (.cells (bX (.slice none 0 0) 0) t (0,0)))(aM:w.heap[b3]? =some (.cells (dg f) t3 si))(dn:b3≠bI):Calls prog 182 #[ptr bI 0,.slice (some ⟨b3,0,none⟩) 32 32] w (qM w [bI] (λ_:Nat=>.tuple #[.int .i64 32,.nilIface]) (λbR=>[(bI,.cells (bX (aW bR 32 64) 0) t (0,0)),(bR,aV 5 (dc f) (qq 32))]) (λ_=>True)):=by
 have h:=nlk bI 0 t (dc f) b3 0 32 (by rw[nQ];decide) (by rw[nQ];decide) w hb (cC.dg aM hf) dn;simp only[nQ]at h;exact h
theorem nKn(bI t:Nat)(f:Nat->Int)(hf:iJ f)(w:World)(hb:w.heap[bI]? =some (.cells (bX (.slice none 0 0) 0) t (0,0))):Calls prog 181 #[ptr bI 0,.agg (dg f)] w (qM w [bI] (λ_:Nat=>ptr bI 0) (λbR=>[(bI,.cells (bX (aW bR 32 64) 0) t (0,0)),(bR,aV 5 (dc f) (qq 32))]) (λ_=>True)):=by
 have jf:=(aT.1 hb).1;refine nL (vs:=[_,_]) (Gh.lent (λk=>k∈keys [(bI,.cells (bX (.slice none 0 0) 0) t (0,0))])) [(bI,.cells (bX (.slice none 0 0) 0) t (0,0))] func181 rfl ntmps181 rfl (PE (gC.mem ⟨hb,trivial⟩) (PF _)) ?_;refine B 2 ?_;refine yX ?_;intro b3 w3 aM aD da cd cP;refine X4 ?_;refine nl 4 [.det [] _,.det [0] _,.det [1] _,.det [] _] zQ (xc zN (xc Dl (xc (by exact λaf=>X.val rfl rfl (al underlying283 rfl sizeOf281 rfl) (λ_ _=>rfl)) (xc (by exact λaf=>X.val rfl rfl (kg (h:=32) underlying61 sizeOf5 rfl rfl zJ) (λ_ _=>rfl)) (xn))))) zQ zQ zQ (λaf=>?_);refine PL (Hz:=[(bI,.cells (bX (.slice none 0 0) 0) t (0,0))]) (H0:=[]) (first:=[]) (cap:=[]) (v:=λ_:Nat=>.tuple #[.int .i64 32,.nilIface]) (Hn:=λbR=>[(bI,.cells (bX (aW bR 32 64) 0) t (0,0)),(bR,aV 5 (dc f) (qq 32))]) (Φ:=λ_=>True) rfl rfl call182 rfl rfl rfl ⟨.inl (by simp[Gh.lent,keys]),trivial⟩ (λW hS=>njk bI t f b3 _ _ hf W (hS.own _ A0) (hS.old A0 aM aD (by simp[bD]<;>omega)) zJ) ?_;rintro bR-qt;have PM:bR=bI\/w.heap.size<=bR:=by
  rcases qt (bR,_) A1 with h|h
  ·left;simpa[keys]using h
  right;exact h.1.2.1
 refine B 9 ?_;exact xM (Hz:=[(bI,.cells (bX (.slice none 0 0) 0) t (0,0))]) (H0:=[]) bR (.inl rfl) results181 (RS.t rfl RS.n) A1 PG rfl PH
theorem n2k(hZ:FxOk Z)(bI bR t:Nat)(s:ByteArray)(hs0:s.size<1000)(xs:List UInt8)(cj:xs.length<=64)(w:World)(hb:w.heap[bI]? =some (.cells (bX (aW bR xs.length 64) 0) t (0,0)))(hR:cC w bR 0 xs)(hg:Glb w):Calls prog 183 #[ptr bI 0,.string s] w (ay w (.agg (dg (Z.tg s xs)))):=by
 have jf:=(aT.1 hb).1;have hRl:=hR.lt;have eE:=hg.lt;obtain⟨df,iN⟩:∃df,Z.tg s xs=df:=⟨_,rfl⟩;refine enter (vs:=[_,_]) func183 rfl ntmps183 rfl ?_;refine B 2 ?_;refine aZ zeroValue61 rfl rfl ?_;refine yW ?_;intro b4 dO dU;refine B 8 ?_;refine call call247 rfl rfl rfl (λW hS=>nOo bI bR xs.length 0 t _ cj W (hS.old A0 hb zU qK)) ?_;refine call call108 rfl rfl rfl (λW hS=>by rw[<-iN];exact nvj hZ s hs0 xs zJ bR 0 64 cj W (hR.old hS A0 zU qK) (hg.old hS A0 zS zM)) (v:=.agg (dg df)) ?_;refine bh (i:=0) rfl sizeOf61 rfl rfl rfl rfl rfl rfl ?_;refine B 3 ?_;refine bF (.inl rfl) results183 (RS.wA (i:=0) rfl isAgg61 sizeOf61 rfl (bj rfl) (RS.n)) A0 zP ?_;rw[iN];rfl
def jE (s:ByteArray):List UInt8:=(V.list [.text s]).enc
theorem Yu(s:ByteArray)(h:s.size<128):(jE s).length=4+s.size:=by
 have h1:num 1=[UInt8.ofNat 1]:=Pg zO;have h2:=Pg h;have h3:s.data.toList.length=s.size:=Array.length_toList;simp[jE,V.enc,V.encL,h1,h2,h3];omega
theorem xS(s:ByteArray)(h:s.size<128):(V.list [.text s]).fine:=by
 simp[V.fine,V.fineL,V.depthL,V.depth];omega
theorem nlo(s:ByteArray):(V.list [.text s]).depth<=16:=by simp[V.depth,V.depthL]
theorem Jq(s:ByteArray)(N b t:Nat)(fr:Nat×Nat)(w:World)(hb:b<N)(h:w.heap[b]? =some (.cells #[.int .i64 2,.int .i64 0,.string s,.slice none 0 0] t fr)):dM N w (.list [.text s]) (vL (some ⟨b,0,none⟩) 1 1):=by
 simp only[dM,eF];exact⟨_,_,rfl,ao _,.inr ⟨b,_,t,fr,rfl,hb,h,ao 4,rfl,trivial⟩⟩
def zK:Array Value:=cf 32 (λ_=>.int .u8 0)
def uY (Z:Fx) (f:Nat->Int) (s:ByteArray):Nat->Int:=Z.tg (⟨#[100,101,114,105,118,101]⟩:ByteArray) (dc f++jE s)
def G4 (Z:Fx) (f:Nat->Int) (s:ByteArray):Int:=Z.sc (⟨#[115,99,97,108,97,114]⟩:ByteArray) (dc (uY Z f s))
theorem nmk(hZ:FxOk Z)(f:Nat->Int)(hf:iJ f)(s:ByteArray)(PO:s.size<=28)(w:World)(hg:Glb w):Calls prog 114 #[.agg (dg f),.string s,.slice none 0 0] w (ay w (.agg (dg (uY Z f s)))):=by
 have iW:s.size<128:=by omega
 have hpl:=Yu s iW;have eE:=hg.lt;obtain⟨df,iN⟩:∃df,Z.tg (⟨#[100,101,114,105,118,101]⟩:ByteArray) (dc f++jE s)=df:=⟨_,rfl⟩;refine enter (vs:=[_,_,_]) func114 rfl ntmps114 rfl ?_;refine B 2 ?_;refine yX ?_;intro b3 w3 aM aD da cd cP;refine aZ zeroValue61 rfl rfl ?_;refine yW ?_;intro b6 gV lP;refine B 5 ?_;refine UF ?_;refine Yv ?_;refine yV ?_;intro dR Yw Yx Yy ae1 gU DR;refine B 12 ?_;refine CJ.loop (α:=Unit) (λp=>[(3,ptr b3 0),(6,ptr b6 0),(7,.slice (some ⟨dR,0,none⟩) 1 1),(17,.int .i64 0),(18,.int .i64 0)]) (λp=>[(b6,.cells (zK) 61 (0,0))]) (λp=>[Yw,w3,w]) (λp=>Gh.no) (λp=>True) (λp=>0) () trivial zR rfl rfl zX ?_;rintro⟨⟩ -;refine Jr ?_;refine B 12 ?_;refine UF ?_;refine ndj (ys:=jE s) call107 rfl rfl rfl (λW hS=>nue [.text s] (xS s iW) (nlo s) (by have:=Yu s iW;unfold jE at this;omega) Yw.heap.size (some ⟨dR,0,none⟩) 1 W (hS.links _ A0).size (Jq s _ dR _ _ W zJ (hS.old A0 Yx Yy qK))) ?_;intro gl c31 s31 ji Js ae2 ae3;replace ji:=yb ji;replace Js:=yd Js;refine B 9 ?_;refine aZ zeroValue283 rfl rfl ?_;refine yW ?_;intro ki PQ PR;refine B 4 ?_;refine rv rfl rfl rfl (ae isAgg61 sizeOf61 rfl A1 aM aD zI rfl) ?_;refine PL (Hz:=[(ki,.cells (bX (.slice none 0 0) 0) 283 (0,0))]) (H0:=[(gl,aV 5 (jE s) s31),(b6,.cells (zK) 61 (0,0))]) (first:=[]) (cap:=[]) (v:=λ_:Nat=>ptr ki 0) (Hn:=λbR=>[(ki,.cells (bX (aW bR 32 64) 0) 283 (0,0)),(bR,aV 5 (dc f) (qq 32))]) (Φ:=λ_=>True) rfl rfl call181 rfl rfl rfl ⟨.inr ⟨by omega,by omega,by omega,trivial⟩,trivial⟩ (λW hS=>nKn ki 283 f hf W (hS.own _ A0)) ?_
 rintro bR-qt;have PM:bR=ki\/(Yw.heap.size<=bR/\w3.heap.size<=bR/\w.heap.size<=bR/\gl≠bR/\b6≠bR):=by
  rcases qt (bR,_) A1 with h|h
  ·left;simpa[keys]using h
  right;obtain⟨⟨h1,h2,h3,_⟩,h4⟩:=h;simp only[bD]at h4;exact⟨h1,h2,h3,h4.2.1,h4.2.2.1⟩
 refine B 3 ?_;refine n1h (i:=0) (j:=1) rfl rfl zO λYt=>?_;refine n1h (i:=1) (j:=2) rfl rfl zO λae4=>?_;refine PL (Hz:=[(ki,.cells (bX (aW bR (dc f).length 64) 0) 283 (0,0)),(bR,aV 5 (dc f) (qq 32))]) (H0:=[(gl,aV 5 (jE s) s31),(b6,.cells (zK) 61 (0,0))]) (first:=[]) (cap:=[]) (v:=λ_:Unit=>.tuple #[.int .i64 ((jE s).length:Int),.nilIface]) (Hn:=λ_=>[(ki,.cells (bX (aW bR (dc f++jE s).length 64) 0) 283 (0,0)),(bR,aV 5 (dc f++jE s) ((qq 32).drop (jE s).length))]) (Φ:=λ_=>True) (by rw[nQ]) rfl call182 rfl rfl rfl ⟨.inr ⟨by omega,by omega,by omega,trivial⟩,.inr ⟨by omega,by omega,by omega,trivial⟩,trivial⟩ (λW hS=>nak ki bR 283 (dc f) (qq 32) (jE s) gl 0 c31 (by rw[nQ,Yu s iW];omega) (by rw[Yq,nQ]) (by rw[nQ];decide) W (hS.own _ A0) (hS.own _ A1) Yt (cC.row (hS.own _ A2)) zJ zJ) ?_;rintro _-lU;refine B 4 ?_;refine call call183 rfl rfl rfl (λW hS=>by rw[<-iN];exact n2k hZ ki bR 283 (⟨#[100,101,114,105,118,101]⟩:ByteArray) zO (dc f++jE s) (by rw[cK,nQ];omega) W (hS.own _ A0) (cC.row (hS.own _ A1)) (hg.old hS A2 zS (by simp[Over]<;>omega))) (v:=.agg (dg df)) ?_;refine bh (i:=3) rfl sizeOf61 rfl rfl rfl rfl rfl rfl ?_;refine B 3 ?_;refine bF (.inl rfl) results114 (RS.wA (i:=3) rfl isAgg61 sizeOf61 rfl (bj rfl) (RS.n)) A2 zP ?_
 rw[show uY Z f s=df from iN];rfl
theorem xT(hZ:FxOk Z)(s:ByteArray)(hs0:s.size<1000)(f:Nat->Int)(hf:iJ f)(b t:Nat)(fr:Nat×Nat)(w:World)(h:w.heap[b]? =some (.cells (dg f) t fr))(hg:Glb w):Calls prog 110 #[.string s,.slice (some ⟨b,0,none⟩) 32 32] w (ay w (.int .i64 (Z.sc s (dc f)))):=by
 have:=GY hZ s hs0 (dc f) (by rw[nQ];decide) b 0 32 (by rw[nQ];decide) w (cC.dg h hf) hg;rwa[nQ]at this
theorem DS(hZ:FxOk Z)(f:Nat->Int)(s:ByteArray):iJ (uY Z f s):=hZ.byt _ _
theorem nnk(hZ:FxOk Z)(f:Nat->Int)(hf:iJ f)(s:ByteArray)(PO:s.size<=28)(w:World)(hg:Glb w):Calls prog 70 #[.agg (dg f),.string s] w (ay w (.int .i64 (G4 Z f s))):=by
 have eE:=hg.lt;have hB:=DS hZ f s;obtain⟨df,iN⟩:∃df,uY Z f s=df:=⟨_,rfl⟩;rw[iN]at hB;refine enter (vs:=[_,_]) func70 rfl ntmps70 rfl ?_;refine B 2 ?_;refine yX ?_;intro b2 w2 aU aN dY cR cX;refine B 5 ?_;refine rv rfl rfl rfl (ae isAgg61 sizeOf61 rfl A0 aU aN trivial rfl) ?_;refine B 1 ?_;refine call call114 rfl rfl rfl (λW hS=>by rw[<-iN];exact nmk hZ f hf s PO W (hg.old hS A1 zS zM)) (v:=.agg (dg df)) ?_;refine aZ zeroValue61 rfl rfl ?_;refine yW ?_;intro b5 iH iI;refine bh (i:=0) rfl sizeOf61 rfl rfl rfl rfl rfl rfl ?_;refine B 4 ?_;refine rv rfl rfl rfl (kg (h:=32) underlying61 sizeOf5 rfl rfl zJ) ?_;refine call call110 rfl rfl rfl (λW hS=>xT hZ (⟨#[115,99,97,108,97,114]⟩:ByteArray) zO df hB b5 _ _ W (hS.own _ A0) (hg.old hS A1 zS zM)) ?_;refine B 4 ?_;refine bF (.inl rfl) results70 (RS.t rfl (RS.n)) A1 zP ?_;unfold G4;rw[iN];rfl
theorem npk(hZ:FxOk Z)(f:Nat->Int)(hf:iJ f)(w:World)(hg:Glb w):Calls prog 30 #[.agg (dg f)] w (ay w (.int .i64 (G4 Z f (⟨#[108,105,110,107]⟩:ByteArray)))):=by
 have eE:=hg.lt;refine enter (vs:=[_]) func30 rfl ntmps30 rfl ?_;refine B 2 ?_;refine yX ?_;intro b1 w1 aQ aX gb eO gZ;refine B 5 ?_;refine rv rfl rfl rfl (ae isAgg61 sizeOf61 rfl A0 aQ aX trivial rfl) ?_;refine call call70 rfl rfl rfl (λW hS=>nnk hZ f hf (⟨#[108,105,110,107]⟩:ByteArray) zO W (hg.old hS A1 zS zM)) ?_;refine B 4 ?_;refine ax results30 rfl A1 ?_;rfl
structure Lk where
 fo:Int
 by_:Int
 pub:Int
 ver:Int
 exp:Int
 resh:Bool
 par:Nat->Int
 sr:Int
 ss:Int
def lkC (l:Lk):Array Value:=#[.int .i64 l.fo,.int .i64 l.by_,.int .i64 l.pub,.int .i64 l.ver,.int .i64 l.exp,.bool l.resh,.int .u8 (l.par 0),.int .u8 (l.par 1),.int .u8 (l.par 2),.int .u8 (l.par 3),.int .u8 (l.par 4),.int .u8 (l.par 5),.int .u8 (l.par 6),.int .u8 (l.par 7),.int .u8 (l.par 8),.int .u8 (l.par 9),.int .u8 (l.par 10),.int .u8 (l.par 11),.int .u8 (l.par 12),.int .u8 (l.par 13),.int .u8 (l.par 14),.int .u8 (l.par 15),.int .u8 (l.par 16),.int .u8 (l.par 17),.int .u8 (l.par 18),.int .u8 (l.par 19),.int .u8 (l.par 20),.int .u8 (l.par 21),.int .u8 (l.par 22),.int .u8 (l.par 23),.int .u8 (l.par 24),.int .u8 (l.par 25),.int .u8 (l.par 26),.int .u8 (l.par 27),.int .u8 (l.par 28),.int .u8 (l.par 29),.int .u8 (l.par 30),.int .u8 (l.par 31),.int .i64 l.sr,.int .i64 l.ss]
abbrev fl (n:Int):Prop:= -9223372036854775808<=n/\n<=9223372036854775807
structure cY (l:Lk):Prop where
 fo:fl l.fo
 by_:fl l.by_
 pub:fl l.pub
 ver:fl l.ver
 exp:fl l.exp
 par:iJ l.par
 sr:fl l.sr
 ss:fl l.ss
def Jt:V->List Value
 | .int n=>[.int .i64 1,.int .i64 n,.string ⟨#[]⟩,.slice none 0 0]
 | .text s=>[.int .i64 2,.int .i64 0,.string s,.slice none 0 0]
 | .list _=>[]
def mY:V->Bool
 | .list _=>false
 |_=>true
def nF (l:List V):List Value:=l.flatMap Jt
theorem Yz(x:V)(h:mY x=true):(Jt x).length=4:=by cases x<;>simp_all[mY,Jt]
theorem PS(l:List V)(h:l.all mY=true):(nF l).length=l.length*4:=by
 induction l with
 |nil=>rfl
 |cons x l ih=>
  simp only[List.all_cons,fm]at h;simp only[nF,GZ,cK,dQ]at *;rw[Yz x h.1,ih h.2];omega
theorem xU(N:Nat)(w:World):∀(l:List V),l.all mY=true->∀(pre sp:List Value),eF N w (pre++(nF l++sp)).toArray pre.length l
 | [],_,_,_=>by simp only[eF]
 |x::l,h,pre,sp=>by
  simp only[List.all_cons,fm]at h;have ih:=xU N w l h.2 (pre++Jt x) sp;have e:pre++Jt x++(nF l++sp)=pre++(nF (x::l)++sp):=by simp[nF]
  rw[e,cK,Yz x h.1]at ih;have hc:cut (pre++(nF (x::l)++sp)).toArray pre.length 4=(Jt x).toArray:=by
   unfold cut;simp only[nF,GZ,iX];rw[List.drop_left' rfl,<-Yz x h.1,PT rfl]
  simp only[eF];refine⟨?_,?_,ih⟩
  ·simp only[qF,cK,PS (x::l) (by simp[h.1,h.2]),dQ];omega
  rw[hc];cases x with
  |int n=>simp only[dM];rfl
  |text s=>simp only[dM];rfl
  |list l'=>simp[mY]at h
theorem PU{t cap:Nat}{w:World}{l:List V}(hl:l.all mY=true)(hb:b<N)(hc:l.length<=cap)(h:w.heap[b]? =some (.cells (nF l++sp).toArray t fr)):dM N w (.list l) (vL (some ⟨b,0,none⟩) l.length cap):=by
 simp only[dM];exact⟨_,_,rfl,hc,.inr ⟨b,_,t,fr,rfl,hb,h,by have:=xU N w l hl [] sp;simpa using this⟩⟩
theorem G5(x:V)(hf:mY x=true)(h:x.fine):x.enc.length<=1000000020:=by
 cases x with
 |int n=>
  simp only[V.fine]at h;have:=B8 (xu n h.1 h.2);simp only[V.enc,dQ];omega
 |text s=>
  simp only[V.fine]at h;have:=B8 (u:=s.size) zJ;have e:s.data.toList.length=s.size:=Array.length_toList;simp only[V.enc,dQ,cK,e];omega
 |list l=>simp[mY]at hf
theorem UG(l:List V)(hf:l.all mY=true)(h:V.fineL l):(V.encL l).length<=l.length*1000000020/\V.depthL l=0:=by
 induction l with
 |nil=>simp[V.encL,V.depthL]
 |cons x l ih=>
  simp only[List.all_cons,fm]at hf;simp only[V.fineL]at h;obtain⟨h1,h2⟩:=ih hf.2 h.2;have h3:=G5 x hf.1 h.1;simp only[V.encL,V.depthL,cK,dQ,h2];refine⟨by omega,?_⟩;cases x with
  |int n=>simp[V.depth]
  |text s=>simp[V.depth]
  |list l'=>simp[mY]at hf
theorem YA(l:List V)(hf:l.all mY=true)(h:V.fineL l)(hl:l.length<=100):(V.list l).fine/\(V.list l).depth<=16/\(V.list l).enc.length<=800000000000:=by
 obtain⟨h1,h2⟩:=UG l hf h;have h3:=B8 (u:=l.length) zJ;simp only[V.fine,V.depth,V.enc,dQ,cK,h2];exact⟨⟨by omega,by omega,h⟩,by omega,by omega⟩
abbrev dT (f:Nat->Int):ByteArray:=strOfNums (qj f)
theorem YB(f:Nat->Int):(dT f).size=32:=by rw[strOfNums_size];simp[qj]
theorem Ju{src dst t:Nat}{f:Nat->Int}(hs:C.P.underlying src=some (.slice e))(he:C.P.underlying e=some (.int .u8))(hd:C.P.underlying dst=some .string)(hx:ev E x=some (.slice (some ⟨b,0,none⟩) 32 32))(hm:w1∈L)(hb:w1.heap[b]? =some (.cells (dg f) t fr))(hG:¬G.X b)(hO:bD H b):RV C G L H E (.convert src dst x) (.string (dT f)):=λd ty pos aA g a W hF hS=>by
 have hW:=hS.old hm hb hG hO;have hr:=run_convert_bytes_arg (P:=C.P) W src e hs he b 0 32 32 (qj f) (by simp[qj]) (λi hi=>by
  rw[Cc hW,iC,oL f i hi];simp[qj,List.getD,List.getElem?_range hi]) dst hd
 simp[execOp,hF.ev hx,hr]
def Jv (l:Lk) (r:Int):List V:=[.int l.fo,.int l.by_,.int l.pub,.int l.ver,.int l.exp,.int r,.text (dT l.par)]
def cV (l:Lk):List V:=Jv l (if l.resh then 1 else 0)
theorem YC(l:Lk):(cV l).all mY=true:=rfl
theorem DT(l:Lk)(h:cY l):V.fineL (cV l):=by
 simp only[cV,Jv,V.fineL,V.fine,YB];exact⟨h.fo,h.by_,h.pub,h.ver,h.exp,by split<;>decide,by decide,trivial⟩
def G6 (l:Lk):List V:=cV l++[.int l.sr,.int l.ss]
theorem xV(l:Lk)(h:cY l):V.fineL (G6 l):=by
 simp only[G6,cV,Jv,eP,dK,V.fineL,V.fine,YB];exact⟨h.fo,h.by_,h.pub,h.ver,h.exp,by split<;>decide,by decide,h.sr,h.ss,trivial⟩
theorem nM(n:Int)(w:World):Calls prog 55 #[.int .i64 n] w (ay w (vI n)):=by
 refine enter (vs:=[_]) func55 rfl ntmps55 rfl ?_;refine B 2 ?_;refine xx ?_;refine yW ?_;intro b2 cR cX;refine B 5 ?_;refine PV ?_;refine bF (.inl rfl) results55 (RS.wA (i:=0) rfl isAgg149 sizeOf149 rfl (bj rfl) (RS.n)) A0 zP ?_;rfl
theorem UH(f:Nat->Int)(w:World):Calls prog 71 #[.agg (dg f)] w (ay w (vT (dT f))):=by
 refine enter (vs:=[_]) func71 rfl ntmps71 rfl ?_;refine B 2 ?_;refine yX ?_;intro b1 w1 aQ aX gb eO gZ;refine xx ?_;refine yW ?_;intro b2 cR cX;refine B 4 ?_;refine O8 ?_;refine rv rfl rfl rfl (Ju underlying64 underlying5 underlying9 rfl A0 aQ aX zI) ?_;refine PV ?_;refine bF (.inl rfl) results71 (RS.wA (i:=0) rfl isAgg149 sizeOf149 rfl (bj rfl) (RS.n)) A1 zP ?_;rfl
theorem ntf(l:Lk)(w:World):Calls prog 54 #[.agg (lkC l)] w (cJ w (λb:Nat=>.slice (some ⟨b,0,none⟩) 7 7) (λb w1=>w.heap.size<=b/\w1.heap[b]? =some (.cells (nF (cV l)).toArray 149 (0,0)))):=by
 refine enter (vs:=[_]) func54 rfl ntmps54 rfl ?_;refine B 2 ?_;refine yX ?_;intro b1 w1 aQ aX gb eO gZ;refine B 16 ?_;refine aG ?_ ?_
 ·intro ah;refine B 5 ?_;refine YD ?_;refine nl 25 [.det [] _,.det [0] _,.det [1] _,.det [2] _,.det [] _,.det [4] _,.det [5] _,.det [6] _,.det [] _,.det [8] _,.det [9] _,.det [10] _,.det [] _,.det [12] _,.det [13] _,.det [14] _,.det [] _,.det [16] _,.det [17] _,.det [18] _,.det [] _,.det [20] _,.det [] _,.det [22] _,.det [23] _] zQ (xc z9 (xc tW (xc Ce (xc wj (xc z9 (xc tW (xc Ce (xc wj (xc z9 (xc tW (xc Ce (xc wj (xc z9 (xc tW (xc Ce (xc wj (xc z9 (xc tW (xc Ce (xc wj (xc zN (xc wj (xc z9 (xc UI (xc zYc (xn)))))))))))))))))))))))))) zQ zQ zQ (λaf=>?_);refine call call71 rfl rfl rfl (λW hS=>UH _ W) ?_;refine Yv ?_;refine yV ?_;intro PA w33 Jw Jx YE PW YF;refine B 4 ?_;exact bH (.inl rfl) results54 (RS.t rfl RS.n) (λW hS=>⟨PA,rfl,hS.base A2 trivial,by omega,by rw[show cV l=Jv l 1 from by unfold cV;rw[if_pos ah]];exact hS.old A0 Jw Jx trivial⟩)
 intro ah;refine B 3 ?_;refine YD ?_;refine nl 25 [.det [] _,.det [0] _,.det [1] _,.det [2] _,.det [] _,.det [4] _,.det [5] _,.det [6] _,.det [] _,.det [8] _,.det [9] _,.det [10] _,.det [] _,.det [12] _,.det [13] _,.det [14] _,.det [] _,.det [16] _,.det [17] _,.det [18] _,.det [] _,.det [20] _,.det [] _,.det [22] _,.det [23] _] zQ (xc z9 (xc tW (xc Ce (xc wj (xc z9 (xc tW (xc Ce (xc wj (xc z9 (xc tW (xc Ce (xc wj (xc z9 (xc tW (xc Ce (xc wj (xc z9 (xc tW (xc Ce (xc wj (xc zN (xc wj (xc z9 (xc UI (xc zYc (xn)))))))))))))))))))))))))) zQ zQ zQ (λaf=>?_);refine call call71 rfl rfl rfl (λW hS=>UH _ W) ?_;refine Yv ?_;refine yV ?_;intro PA w33 Jw Jx YE PW YF;refine B 4 ?_;exact bH (.inl rfl) results54 (RS.t rfl RS.n) (λW hS=>⟨PA,rfl,hS.base A2 trivial,by omega,by rw[show cV l=Jv l 0 from by unfold cV;rw[if_neg (by rw[ah];decide)]];exact hS.old A0 Jw Jx trivial⟩)
theorem UJ(hZ:FxOk Z)(s:ByteArray)(hs0:s.size<1000)(l:List V)(cB:(V.list l).fine)(hd:(V.list l).depth<=16)(gA:(V.list l).enc.length<=800000000000)(N bl lc:Nat)(w:World)(hN:N<=w.heap.size)(rH:dM N w (.list l) (vL (some ⟨bl,0,none⟩) l.length lc))(hg:Glb w):Calls prog 53 #[.string s,.slice (some ⟨bl,0,none⟩) l.length lc] w (ay w (.agg (dg (Z.tg s (V.list l).enc)))):=by
 have eE:=hg.lt;obtain⟨df,iN⟩:∃df,Z.tg s (V.list l).enc=df:=⟨_,rfl⟩;refine enter (vs:=[_,_]) func53 rfl ntmps53 rfl ?_;refine B 2 ?_;refine uM ?_;refine yW ?_;intro b4 dO dU;refine B 5 ?_;refine UF ?_;refine z5f ?_;intro kj sC wg qN qO YG sD;replace qN:=yb qN;replace qO:=yd qO;refine B 11 ?_;refine zRf ?_;refine B 3 ?_;refine bF (.inl rfl) results53 (RS.wA (i:=1) rfl isAgg34 sizeOf34 rfl (bj rfl) (RS.n)) A0 zP ?_;rw[iN];rfl
def eG (Z:Fx) (l:Lk):Nat->Int:=Z.tg (⟨#[108,105,110,107,32,115,105,103,110]⟩:ByteArray) (V.list (cV l)).enc
def lV (Z:Fx) (l:Lk):Nat->Int:=Z.tg (⟨#[108,105,110,107]⟩:ByteArray) (V.list (G6 l)).enc
theorem UK(hZ:FxOk Z)(l:Lk)(hl:cY l)(w:World)(hg:Glb w):Calls prog 28 #[.agg (lkC l)] w (cJ w (λb:Nat=>.slice (some ⟨b,0,none⟩) 32 32) (λb w1=>w.heap.size<=b/\w1.heap[b]? =some (.cells (dg (eG Z l)) 34 (0,0)))):=by
 have eE:=hg.lt;obtain⟨df,iN⟩:∃df,eG Z l=df:=⟨_,rfl⟩;have jF:=YA (cV l) (YC l) (DT l hl) (by simp[cV,Jv]);refine enter (vs:=[_]) func28 rfl ntmps28 rfl ?_;refine B 2 ?_;refine yX ?_;intro b1 w1 aQ aX gb eO gZ;refine B 5 ?_;refine rv rfl rfl rfl (ae isAgg84 sizeOf84 rfl A0 aQ aX trivial rfl) ?_;refine nB (Φ:=λ(W:World) (b:Nat) (v1:World)=>W.heap.size<=b/\v1.heap[b]? =some (.cells (nF (cV l)).toArray 149 (0,0))) call54 rfl rfl rfl (λW hS=>ntf l W) ?_;rintro W5 b5 w5 Cf G7 ⟨pI,eo⟩;have oQ:=(aT.1 eo).1;have Cg:=Cf.sizes;replace Cg:=yb Cg;have PY:=G7.size;refine call call53 rfl rfl rfl (λW hS=>by rw[<-iN];exact UJ hZ (⟨#[108,105,110,107,32,115,105,103,110]⟩:ByteArray) zO (cV l) jF.1 jF.2.1 jF.2.2 w5.heap.size b5 7 W (hS.links _ A0).size (PU (sp:=[]) (YC l) oQ (ao 7) (by rw[dH];exact hS.old A0 eo zU trivial)) (hg.old hS A2 zS zM)) (v:=.agg (dg df)) ?_;refine uM ?_;refine yW ?_;intro b3 cd cP;refine MZ ?_;refine B 4 ?_;refine O8 ?_;refine B 4 ?_;exact bH (.inl rfl) results28 (RS.t rfl RS.n) (λW hS=>⟨b3,rfl,hS.base A2 zP,by omega,by rw[iN];exact hS.own _ A0⟩)
theorem DU:prog.info? 149=some Tryz.t149:=by kernel_rfl
theorem nzn(l:List V):∀u∈nF l,u.oneCell'=true:=by
 intro u hu;obtain⟨x,_,hx⟩:=PZ.1 hu;cases x<;>simp only[Jt,cI,fu,or_false]at hx
 ·rcases hx with rfl|rfl|rfl|rfl<;>rfl
 rcases hx with rfl|rfl|rfl|rfl<;>rfl
theorem YH{e' c t:Nat}{l:List V}(hU:C.P.underlying tx=some (.slice e'))(hf:l.all mY=true)(hi:H[i]? =some (b,.cells (nF l++sp).toArray t fr)):jh C G L H 4 tx (.slice (some ⟨b,0,none⟩) l.length c) l.length (nF l):=
 jh.sl hU (Rd.own hi (by simp only[qF,cK,PS l hf];omega) (by rw[P0,<-PS l hf,PT rfl])) (PS l hf) (nzn l)
abbrev Jy (l:List V) (sp:List Value) (t:Nat):Obj:=.cells (nF l++sp).toArray t (0,0)
theorem nXn(a b:List V):nF (a++b)=nF a++nF b:=by simp[nF]
theorem nui(l:Lk)(w:World):Calls prog 54 #[.agg (lkC l)] w (cJ w (λb:Nat=>.slice (some ⟨b,0,none⟩) 7 7) (λb w1=>w.heap.size<=b/\True/\w1.heap[b]? =some (.cells (nF (cV l)++[]).toArray 149 (0,0)))):=
 (ntf l w).mono (by
  rintro e w' ⟨b,rfl,hb,h1,h2⟩;exact⟨b,rfl,hb,h1,trivial,by rw[dH];exact h2⟩)
theorem xW(hZ:FxOk Z)(l:Lk)(hl:cY l)(w:World)(hg:Glb w):Calls prog 24 #[.agg (lkC l)] w (ay w (.agg (dg (lV Z l)))):=by
 have eE:=hg.lt;obtain⟨df,iN⟩:∃df,lV Z l=df:=⟨_,rfl⟩;have jF:=YA (G6 l) rfl (xV l hl) (by simp[G6,cV,Jv]);refine enter (vs:=[_]) func24 rfl ntmps24 rfl ?_;refine B 2 ?_;refine yX ?_;intro b1 w1 aQ aX gb eO gZ;refine uM ?_;refine yW ?_;intro b2 cR cX;refine B 3 ?_;refine ng (E':=[(0,_),(1,_),(2,_)]) zR ?_;refine nP 11 [1] [([],some (.agg (lkC l))),([0],none),([],some _),([2],some _),([3],some _),([4],some (.int .i64 l.sr)),([5],some _),([],some _),([7],some _),([8],some _),([9],some (.int .i64 l.ss))] (λcv L' H'=>match cv with| []=>L'=[w1,w]/\H'=[(b2,.cells zK 34 (0,0))]| [v1]=>∃(b4:Nat),v1= .slice (some ⟨b4,0,none⟩) 7 7/\L'=[w1,w]/\H'=[(b4,Jy (cV l) [] 149),(b2,.cells zK 34 (0,0))]/\w1.heap.size<=b4/\w.heap.size<=b4/\b2≠b4|_=>False) zQ ⟨rfl,rfl⟩ zQ zQ zQ zQ zQ zQ (pc YI (pk (pc z2 (pc Na (pc Jn (pc YI (pc (by exact λcv L' H' hd hP=>nf call55 rfl rfl (λW hS _=>nM _ W) (λ_=>rfl)) (pc z2 (pc Na (pc Jn (pc YI (pn)))))))))))) ?_ ?_
 ·refine sc rfl rfl rfl ?_ ?_
  ·intro cv L' H' hl hP F Q' hk;obtain rfl:=iZ hl;obtain⟨rfl,rfl⟩:=hP;refine Un (v:=λb:Nat=>.slice (some ⟨b,0,none⟩) 7 7) (bo:=λb:Nat=>(b,Jy (cV l) [] 149)) (Φ:=λ_=>True) call54 rfl rfl rfl (λW hS=>nui l W) ?_;intro b4 ha ho _;exact OJ.done (hk _ _ _ ⟨b4,rfl,rfl,rfl,ha.1,ha.2.1,ho.1⟩)
  exact sn
 intro cv L' H' hl hP;obtain⟨v1,rfl⟩:=cM hl;obtain⟨b4,rfl,rfl,rfl,dO,P1,dU⟩:=hP;refine call call55 rfl rfl rfl (λW hS=>nM _ W) ?_;refine G8 ?_;refine yW ?_;intro dR gU DR;refine O3 (i:=1) (m:=4) (ys:=nF (cV l)) (sp:=[]) (len:=7) (cap:=7) (news:=nF ([.int l.sr,.int l.ss]:List V)) (n:=2) rfl underlying146 DU rfl rfl rfl rfl rfl rfl rfl (YH (l:=[.int l.sr,.int l.ss]) (sp:=[]) (i:=0) underlying146 rfl rfl) (PS _ (YC l)) rfl (ao _) ⟨by omega,by omega,trivial⟩ zO zO ?_;intro ey c16 s16 mZ wS ae5;replace mZ:=yb mZ;refine OJ.reH (H':=[(dR,Jy [.int l.sr,.int l.ss] [] 149),(ey,Jy (G6 l) s16 149),(b2,.cells zK 34 (0,0))]) (by simp only[Jy,G6,nXn];rfl) ?_;refine call call53 rfl rfl rfl (λW hS=>by rw[<-iN];exact UJ hZ (⟨#[108,105,110,107]⟩:ByteArray) zO (G6 l) jF.1 jF.2.1 jF.2.2 W.heap.size ey c16 W (ao _) (PU rfl (hS.lt _ A1) wS (hS.own _ A1)) (hg.old hS A1 zS zM)) (v:=.agg (dg df)) ?_;refine bh (i:=2) rfl sizeOf34 rfl rfl rfl rfl rfl rfl ?_;refine B 3 ?_;refine bF (.inl rfl) results24 (RS.wA (i:=2) rfl isAgg34 sizeOf34 rfl (bj rfl) (RS.n)) A1 zP ?_;rw[iN];rfl
theorem UL(hZ:FxOk Z)(l:Lk)(hl:cY l)(w:World)(hg:Glb w):Calls prog 13 #[.agg (lkC l)] w (ay w (.agg (dg (lV Z l)))):=by
 have eE:=hg.lt;obtain⟨df,iN⟩:∃df,lV Z l=df:=⟨_,rfl⟩;refine enter (vs:=[_]) func13 rfl ntmps13 rfl ?_;refine B 2 ?_;refine yX ?_;intro b1 w1 aQ aX gb eO gZ;refine uM ?_;refine yW ?_;intro b2 cR cX;refine B 4 ?_;refine rv rfl rfl rfl (ae isAgg38 sizeOf38 rfl A0 aQ aX zI rfl) ?_;refine rv rfl rfl rfl (bY underlying84 zeroValue84 (bA.c sizeOf38 (bA.n)) rfl rfl) ?_;refine call call24 rfl rfl rfl (λW hS=>by rw[<-iN];exact xW hZ l hl W (hg.old hS A1 zS zM)) (v:=.agg (dg df)) ?_;refine MZ ?_;refine B 3 ?_;refine bF (.inl rfl) results13 (RS.wA (i:=0) rfl isAgg34 sizeOf34 rfl (bj rfl) (RS.n)) A1 zP ?_;rw[iN];rfl
structure Fa where
 lnk:Nat->Int
 com:Nat->Int
 by_:Int
 n:Int
 sr:Int
 ss:Int
def oR (f:Fa):Array Value:=#[.int .u8 (f.lnk 0),.int .u8 (f.lnk 1),.int .u8 (f.lnk 2),.int .u8 (f.lnk 3),.int .u8 (f.lnk 4),.int .u8 (f.lnk 5),.int .u8 (f.lnk 6),.int .u8 (f.lnk 7),.int .u8 (f.lnk 8),.int .u8 (f.lnk 9),.int .u8 (f.lnk 10),.int .u8 (f.lnk 11),.int .u8 (f.lnk 12),.int .u8 (f.lnk 13),.int .u8 (f.lnk 14),.int .u8 (f.lnk 15),.int .u8 (f.lnk 16),.int .u8 (f.lnk 17),.int .u8 (f.lnk 18),.int .u8 (f.lnk 19),.int .u8 (f.lnk 20),.int .u8 (f.lnk 21),.int .u8 (f.lnk 22),.int .u8 (f.lnk 23),.int .u8 (f.lnk 24),.int .u8 (f.lnk 25),.int .u8 (f.lnk 26),.int .u8 (f.lnk 27),.int .u8 (f.lnk 28),.int .u8 (f.lnk 29),.int .u8 (f.lnk 30),.int .u8 (f.lnk 31),.int .u8 (f.com 0),.int .u8 (f.com 1),.int .u8 (f.com 2),.int .u8 (f.com 3),.int .u8 (f.com 4),.int .u8 (f.com 5),.int .u8 (f.com 6),.int .u8 (f.com 7),.int .u8 (f.com 8),.int .u8 (f.com 9),.int .u8 (f.com 10),.int .u8 (f.com 11),.int .u8 (f.com 12),.int .u8 (f.com 13),.int .u8 (f.com 14),.int .u8 (f.com 15),.int .u8 (f.com 16),.int .u8 (f.com 17),.int .u8 (f.com 18),.int .u8 (f.com 19),.int .u8 (f.com 20),.int .u8 (f.com 21),.int .u8 (f.com 22),.int .u8 (f.com 23),.int .u8 (f.com 24),.int .u8 (f.com 25),.int .u8 (f.com 26),.int .u8 (f.com 27),.int .u8 (f.com 28),.int .u8 (f.com 29),.int .u8 (f.com 30),.int .u8 (f.com 31),.int .i64 f.by_,.int .i64 f.n,.int .i64 f.sr,.int .i64 f.ss]
def fV (f:Fa):List V:=[.text (dT f.lnk),.text (dT f.com),.int f.by_,.int f.n]
theorem DV(f:Fa)(h1:fl f.by_)(h2:fl f.n):V.fineL (fV f):=by
 simp only[fV,V.fineL,V.fine,YB];exact⟨by decide,by decide,h1,h2,trivial⟩
def G9 (Z:Fx) (f:Fa):Nat->Int:=Z.tg (⟨#[102,97,99,116,111,114,32,115,105,103,110]⟩:ByteArray) (V.list (fV f)).enc
theorem nXi(hZ:FxOk Z)(f:Fa)(h1:fl f.by_)(h2:fl f.n)(w:World)(hg:Glb w):Calls prog 31 #[.agg (oR f)] w (cJ w (λb:Nat=>.slice (some ⟨b,0,none⟩) 32 32) (λb w1=>w.heap.size<=b/\w1.heap[b]? =some (.cells (dg (G9 Z f)) 34 (0,0)))):=by
 have eE:=hg.lt;obtain⟨df,iN⟩:∃df,G9 Z f=df:=⟨_,rfl⟩;have jF:=YA (fV f) rfl (DV f h1 h2) (by simp[fV]);refine enter (vs:=[_]) func31 rfl ntmps31 rfl ?_;refine B 2 ?_;refine yX ?_;intro b1 w1 aQ aX gb eO gZ;refine B 4 ?_;refine ng (E':=[(0,_),(1,_),(2,_)]) zR ?_;refine P2 15 [12,14] [([],some _),([0],some (.agg (dg f.lnk))),([1],some _),([],some _),([3],some (.agg (dg f.com))),([4],some _),([],some _),([6],some (.int .i64 f.by_)),([7],some _),([],some _),([9],some (.int .i64 f.n)),([10],some _),([2,5,8,11],none),([12],some (.agg (dg df))),([],none)] [[],[]] (λcv L' H'=>match cv with| [none,none]=>L'=[w1,w]/\H'=[]| [none,some mF]=>∃(b3:Nat),mF=ptr b3 0/\L'=[w1,w]/\H'=[(b3,.cells zK 34 (0,0))]/\w1.heap.size<=b3/\w.heap.size<=b3| [some v12,none]=>∃(ey:Nat),v12= .slice (some ⟨ey,0,none⟩) 4 4/\L'=[w1,w]/\H'=[(ey,Jy (fV f) [] 149)]/\w1.heap.size<=ey/\w.heap.size<=ey| [some v12,some mF]=>∃(ey:Nat) (b3:Nat),v12= .slice (some ⟨ey,0,none⟩) 4 4/\mF=ptr b3 0/\L'=[w1,w]/\H'=[(ey,Jy (fV f) [] 149),(b3,.cells zK 34 (0,0))]/\w1.heap.size<=ey/\w.heap.size<=ey/\w1.heap.size<=b3/\w.heap.size<=b3|_=>False) zQ ⟨rfl,rfl⟩ zQ zQ zQ zQ zQ zQ rfl (qc (by exact λcv L' H' _ _ hP=>X.val rfl rfl (al underlying59 rfl sizeOf34 rfl) R2) (qc UM (qc (by exact λcv L' H' _ _ hP=>nf call71 rfl rfl (λW hS _=>UH _ W) (λ_=>rfl)) (qc (by exact λcv L' H' _ _ hP=>X.val rfl rfl (al underlying59 rfl sizeOf34 rfl) R2) (qc UM (qc (by exact λcv L' H' _ _ hP=>nf call71 rfl rfl (λW hS _=>UH _ W) (λ_=>rfl)) (qc (by exact λcv L' H' _ _ hP=>X.val rfl rfl (al underlying59 rfl sizeOf3 rfl) R2) (qc UM (qc (by exact λcv L' H' _ _ hP=>nf call55 rfl rfl (λW hS _=>nM _ W) (λ_=>rfl)) (qc (by exact λcv L' H' _ _ hP=>X.val rfl rfl (al underlying59 rfl sizeOf3 rfl) R2) (qc UM (qc (by exact λcv L' H' _ _ hP=>nf call55 rfl rfl (λW hS _=>nM _ W) (λ_=>rfl)) (qk (qc (λcv L' H' hl hd hP=>by obtain⟨eY,jG,rfl⟩:=iL hl;(rcases eY with _|v12<;>rcases jG with _|mF<;>try exact False.elim hP);exact(absurd (show false=true from hd) zO);exact(absurd (show false=true from hd) zO);(obtain⟨ey,rfl,rfl,rfl,mZ,uZ⟩:=hP;exact nf call53 rfl rfl (λW hS _=>by rw[<-iN];exact UJ hZ (⟨#[102,97,99,116,111,114,32,115,105,103,110]⟩:ByteArray) zO (fV f) jF.1 jF.2.1 jF.2.2 W.heap.size ey 4 W (ao _) (PU (sp:=[]) rfl (hS.lt _ A0) (ao 4) (hS.own _ A0)) (hg.old hS A1 zS zM)) (λ_=>rfl));(obtain⟨ey,b3,rfl,rfl,rfl,rfl,mZ,uZ,cd,P3⟩:=hP;exact nf call53 rfl rfl (λW hS _=>by rw[<-iN];exact UJ hZ (⟨#[102,97,99,116,111,114,32,115,105,103,110]⟩:ByteArray) zO (fV f) jF.1 jF.2.1 jF.2.2 W.heap.size ey 4 W (ao _) (PU (sp:=[]) rfl (hS.lt _ A0) (ao 4) (hS.own _ A0)) (hg.old hS A1 zS zM)) (λ_=>rfl))) (qk (qn)))))))))))))))) ?_ ?_
 ·refine nc rfl rfl rfl rfl ?_ ?_
  ·intro cv L' H' hl hr hP F Q' hk;obtain⟨eY,jG,rfl⟩:=iL hl;rcases eY with _|v12<;>rcases jG with _|mF
   ·obtain⟨rfl,rfl⟩:=hP;refine G8 ?_;intro ey ha ho;exact OJ.done (hk _ _ _ ⟨ey,rfl,rfl,rfl,ha.1,ha.2.1⟩)
   ·obtain⟨b3,rfl,rfl,rfl,cd,P3⟩:=hP;refine G8 ?_;intro ey ha ho;exact OJ.done (hk _ _ _ ⟨ey,b3,rfl,rfl,rfl,rfl,ha.1,ha.2.1,cd,P3⟩)
   ·exact aE
   exact aE
  refine nc rfl rfl rfl rfl ?_ ?_
  ·intro cv L' H' hl hr hP F Q' hk;obtain⟨eY,jG,rfl⟩:=iL hl;rcases eY with _|v12<;>rcases jG with _|mF
   ·obtain⟨rfl,rfl⟩:=hP;refine uM ?_;intro b3 ha ho;exact OJ.done (hk _ _ _ ⟨b3,rfl,rfl,rfl,ha.1,ha.2.1⟩)
   ·exact aE
   ·obtain⟨ey,rfl,rfl,rfl,mZ,uZ⟩:=hP;refine uM ?_;intro b3 ha ho;exact OJ.done (PJ.swp (hk _ _ _ ⟨ey,b3,rfl,rfl,rfl,rfl,mZ,uZ,ha.1,ha.2.1⟩))
   exact aE
  exact nn
 intro cv L' H' hl hr hP;obtain⟨eY,jG,rfl⟩:=iL hl;rcases eY with _|v12<;>rcases jG with _|mF
 ·exact aE
 ·exact aE
 ·exact aE
 obtain⟨ey,b3,rfl,rfl,rfl,rfl,mZ,uZ,cd,P3⟩:=hP;refine bh (i:=1) rfl sizeOf34 rfl rfl rfl rfl rfl rfl ?_;refine B 4 ?_;refine O8 ?_;refine B 4 ?_;exact bH (.inl rfl) results31 (RS.t rfl RS.n) (λW hS=>⟨b3,rfl,hS.base A1 zP,by omega,by rw[iN];exact hS.own (b3,_) A1⟩)
theorem xX:DW prog 2 34 (kp 32 [.i]):=DW.array underlying34 sizeOf5 rfl (u2.int underlying5 isAgg5)
theorem xY:prog.eqGuardType prog.depth 34=false:=by kernel_rfl
def jS (f g:Nat->Int):Bool:=mG (dg f).toList (dg g).toList
def nu (l:Lk):Bool:=decide (0<=l.fo)&&decide (l.fo<16)&&decide (-1<=l.by_)&&decide (l.by_<512)&&decide (dy l.pub)&&decide (dy l.ver)&&decide (1<=l.exp)&&decide (l.exp<=1099511627776)&&(decide (l.by_= -1)||jS l.par (λ_=>0))
theorem P4(a:Int):decide ((if dy a then(0:Int)else 40)=0)=decide (dy a):=by by_cases h:dy a<;>simp[h]
theorem nH(l:Lk)(w:World):Calls prog 26 #[.agg (lkC l)] w (ay w (.bool (nu l))):=by
 refine enter (vs:=[_]) func26 rfl ntmps26 rfl ?_;refine B 2 ?_;refine yX ?_;intro b1 w1 aQ aX gb eO gZ;refine B 10 ?_;refine nh (t:=7) rfl (λah=>?_) (λah=>?_)
 ·replace ah:=ya ah;refine B 6 ?_;refine nh (t:=13) rfl (λaJ=>?_) (λaJ=>?_)
  ·replace aJ:=ya aJ;refine B 6 ?_;refine nh (t:=19) rfl (λcO=>?_) (λcO=>?_)
   ·replace cO:=ya cO;refine B 6 ?_;refine nh (t:=25) rfl (λgL=>?_) (λgL=>?_)
    ·replace gL:=ya gL;refine B 3 ?_;refine call call63 rfl rfl rfl (λW hS=>nJ _ W) ?_;refine rq (.bool (decide (dy l.pub))) (er rfl rfl) (vb (P4 _)) ?_;refine B 2 ?_;refine nh (t:=32) rfl (λgv=>?_) (λgv=>?_)
     ·replace gv:=ya gv;refine B 3 ?_;refine call call63 rfl rfl rfl (λW hS=>nJ _ W) ?_;refine rq (.bool (decide (dy l.ver))) (er rfl rfl) (vb (P4 _)) ?_;refine B 2 ?_;refine nh (t:=39) rfl (λje=>?_) (λje=>?_)
      ·replace je:=ya je;refine B 6 ?_;refine nh (t:=45) rfl (λiU=>?_) (λiU=>?_)
       ·replace iU:=ya iU;refine B 6 ?_;refine nh (t:=51) rfl (λrZ=>?_) (λrZ=>?_)
        ·replace rZ:=ya rZ;refine B 5 ?_;refine nh (t:=56) rfl (λqg=>?_) (λqg=>?_)
         ·replace qg:=ya qg;refine B 11 ?_;exact Ci
         replace qg:=ya qg;refine B 2 ?_;refine rv rfl rfl rfl (ai isAgg34 sizeOf34 rfl A0 aQ aX trivial (bj rfl)) ?_;refine B 1 ?_;refine rr (.bool (jS l.par (λ_=>0))) (pJ xX zO xY rfl rfl rfl) ?_;refine B 6 ?_;exact Ci
        replace rZ:=ya rZ;refine B 16 ?_;exact Ci
       replace iU:=ya iU;refine B 22 ?_;exact Ci
      replace je:=ya je;refine B 28 ?_;exact Ci
     replace gv:=ya gv;refine B 35 ?_;exact Ci
    replace gL:=ya gL;refine B 42 ?_;exact Ci
   replace cO:=ya cO;refine B 48 ?_;exact Ci
  replace aJ:=ya aJ;refine B 54 ?_;exact Ci
 replace ah:=ya ah;refine B 60 ?_;exact Ci
theorem xZ(hZ:FxOk Z)(x:Int)(f:Nat->Int)(hf:iJ f)(b t:Nat)(fr:Nat×Nat)(w:World)(h:w.heap[b]? =some (.cells (dg f) t fr))(hg:Glb w):Calls prog 27 #[.int .i64 x,.slice (some ⟨b,0,none⟩) 32 32] w (ay w (qL Z x (dc f))):=by
 have:=nfo hZ x (dc f) b 0 32 (by rw[nQ];decide) w (cC.dg h hf) hg;rwa[nQ]at this
theorem nVj(hZ:FxOk Z)(x:Int)(hx:jt x)(f:Nat->Int)(hf:iJ f)(r s:Int)(hr:kn Z x (dc f)=r)(hs:mX Z x (dc f)=s)(b t:Nat)(fr:Nat×Nat)(w:World)(h:w.heap[b]? =some (.cells (dg f) t fr))(hg:Glb w):Calls prog 27 #[.int .i64 x,.slice (some ⟨b,0,none⟩) 32 32] w (ay w (.tuple #[.agg #[.int .i64 r,.int .i64 s],.int .i64 0])):=by
 have:=xZ hZ x f hf b t fr w h hg;unfold qL at this;rw[if_pos hx,hr,hs]at this;exact this
theorem nBo(hZ:FxOk Z)(x:Int)(hx:¬jt x)(f:Nat->Int)(hf:iJ f)(b t:Nat)(fr:Nat×Nat)(w:World)(h:w.heap[b]? =some (.cells (dg f) t fr))(hg:Glb w):Calls prog 27 #[.int .i64 x,.slice (some ⟨b,0,none⟩) 32 32] w (ay w (.tuple #[.agg #[.int .i64 0,.int .i64 0],.int .i64 50])):=by
 have:=xZ hZ x f hf b t fr w h hg;unfold qL at this;rw[if_neg hx]at this;exact this
theorem nFm(hZ:FxOk Z)(x:Int)(hx:jt x)(w:World):Calls prog 17 #[.int .i64 x] w (ay w (kW ((Z.ge 4 x).1,0))):=by
 have h:=nyh x w;rw[DM hZ,if_pos hx]at h;exact h
theorem YJ(x:Int)(hx:¬jt x)(w:World):Calls prog 17 #[.int .i64 x] w (ay w (kW (0,50))):=by
 have h:=nyh x w;unfold xe at h;rw[if_neg hx]at h;exact h
theorem P5(hZ:FxOk Z)(l:Lk):iJ (eG Z l):=hZ.byt _ _
theorem Jz(hZ:FxOk Z)(f:Fa):iJ (G9 Z f):=hZ.byt _ _
def sF:Lk:=⟨0,0,0,0,0,false,λ_=>0,0,0⟩
def wo (Z:Fx) (l:Lk) (x:Int):Value:=
 if nu l then if jt x then .tuple #[.agg (lkC {l with sr:=kn Z x (dc (eG Z l)),ss:=mX Z x (dc (eG Z l))}),.int .i64 0]else .tuple #[.agg (lkC sF),.int .i64 50]else .tuple #[.agg (lkC sF),.int .i64 400]
theorem UN(hZ:FxOk Z)(l:Lk)(hl:cY l)(h1:l.sr=0)(h2:l.ss=0)(x:Int)(w:World)(hg:Glb w):Calls prog 15 #[.int .i64 l.fo,.int .i64 l.by_,.int .i64 l.pub,.int .i64 l.ver,.int .i64 l.exp,.bool l.resh,.agg (dg l.par),.int .i64 x] w (ay w (wo Z l x)):=by
 have eE:=hg.lt;have hB:=P5 hZ l;obtain⟨mf,DX⟩:∃mf,eG Z l=mf:=⟨_,rfl⟩;rw[DX]at hB;obtain⟨r,hr⟩:∃r,kn Z x (dc mf)=r:=⟨_,rfl⟩;obtain⟨sg,nt⟩:∃sg,mX Z x (dc mf)=sg:=⟨_,rfl⟩;refine enter (vs:=[_,_,_,_,_,_,_,_]) func15 rfl ntmps15 rfl ?_;refine B 2 ?_;refine yX ?_;intro b14 w14 YK YL ae6 ae7 ae8;refine Nb ?_;refine yW ?_;intro ey mZ ae9;refine B 11 ?_;refine rv rfl rfl rfl (ae isAgg34 sizeOf34 rfl A0 YK YL zI rfl) ?_;refine rq (.agg (lkC l)) (bY underlying38 zeroValue38 (bA.c sizeOf3 (bA.c sizeOf3 (bA.c sizeOf3 (bA.c sizeOf3 (bA.c sizeOf3 (bA.c sizeOf4 (bA.c sizeOf34 (bA.c sizeOf36 (bA.n))))))))) rfl rfl) (by unfold lkC;rw[h1,h2];rfl) ?_;refine YM ?_;refine UO ?_;refine yW ?_;intro b18 sw Dw;refine Ha ?_;refine B 6 ?_;refine call call26 rfl rfl rfl (λW hS=>nH l W) ?_;refine B 3 ?_;refine aG ?_ ?_
 ·intro ah;refine B 3 ?_;refine bh (i:=1) rfl sizeOf38 rfl rfl rfl rfl rfl rfl ?_;refine B 5 ?_;refine bF (.inl rfl) results15 (RS.wA (i:=1) rfl isAgg38 sizeOf38 rfl (bj rfl) (RS.t rfl (RS.n))) A1 zP ?_;unfold wo;rw[if_neg mH];rfl
 intro ah;refine B 6 ?_;refine nB (v:=λb:Nat=>.slice (some ⟨b,0,none⟩) 32 32) (Φ:=λ(W:World) (b:Nat) (v1:World)=>W.heap.size<=b/\v1.heap[b]? =some (.cells (dg mf) 34 (0,0))) call28 rfl rfl rfl (λW hS=>by rw[<-DX];exact UK hZ l hl W (hg.old hS A1 zS zM)) ?_;rintro W36 b36 w36 P6 YN ⟨afa,JA⟩;have afb:=(aT.1 JA).1;have P7:=P6.sizes;replace P7:=yb P7;have aey:=YN.size;have YO:=P6.under;simp only[nY,cZ,eB]at YO;by_cases hK:jt x
 ·refine call call27 rfl rfl rfl (λW hS=>nVj hZ x hK mf hB r sg hr nt b36 _ _ W (hS.old A0 JA zU qK) (hg.old hS A2 zS zM)) ?_;refine B 3 ?_;refine aZ zeroValue36 rfl rfl ?_;refine yW ?_;intro b19 YP YQ;refine UB ?_;refine B 7 ?_;refine wh ?_;refine B 10 ?_;refine kf (i:=1) rfl sizeOf36 rfl rfl rfl rfl (bj rfl) rfl ?_;refine B 5 ?_;refine rv rfl rfl rfl (dd (i:=1) rfl isAgg38 sizeOf38 rfl (bj rfl)) ?_;refine bh (i:=2) rfl sizeOf38 rfl rfl rfl rfl rfl rfl ?_;refine B 4 ?_;refine zhh ?_;unfold wo;rw[if_pos mH,if_pos hK,DX,hr,nt];rfl
 refine call call27 rfl rfl rfl (λW hS=>nBo hZ x hK mf hB b36 _ _ W (hS.old A0 JA zU qK) (hg.old hS A2 zS zM)) ?_;refine B 3 ?_;refine aZ zeroValue36 rfl rfl ?_;refine yW ?_;intro b19 YP YQ;refine UB ?_;refine B 7 ?_;refine P8 ?_;refine B 5 ?_;refine rv rfl rfl rfl (aO (i:=2) rfl isAgg38 sizeOf38 rfl rfl) ?_;refine B 1 ?_;refine bh (i:=2) rfl sizeOf38 rfl rfl rfl rfl rfl rfl ?_;refine B 5 ?_;refine zhh ?_;unfold wo;rw[if_pos mH,if_neg hK];rfl
structure Ek where
 com:Nat->Int
 sec:Nat->Int
def ekC (k:Ek):Array Value:=#[.int .u8 (k.com 0),.int .u8 (k.com 1),.int .u8 (k.com 2),.int .u8 (k.com 3),.int .u8 (k.com 4),.int .u8 (k.com 5),.int .u8 (k.com 6),.int .u8 (k.com 7),.int .u8 (k.com 8),.int .u8 (k.com 9),.int .u8 (k.com 10),.int .u8 (k.com 11),.int .u8 (k.com 12),.int .u8 (k.com 13),.int .u8 (k.com 14),.int .u8 (k.com 15),.int .u8 (k.com 16),.int .u8 (k.com 17),.int .u8 (k.com 18),.int .u8 (k.com 19),.int .u8 (k.com 20),.int .u8 (k.com 21),.int .u8 (k.com 22),.int .u8 (k.com 23),.int .u8 (k.com 24),.int .u8 (k.com 25),.int .u8 (k.com 26),.int .u8 (k.com 27),.int .u8 (k.com 28),.int .u8 (k.com 29),.int .u8 (k.com 30),.int .u8 (k.com 31),.int .u8 (k.sec 0),.int .u8 (k.sec 1),.int .u8 (k.sec 2),.int .u8 (k.sec 3),.int .u8 (k.sec 4),.int .u8 (k.sec 5),.int .u8 (k.sec 6),.int .u8 (k.sec 7),.int .u8 (k.sec 8),.int .u8 (k.sec 9),.int .u8 (k.sec 10),.int .u8 (k.sec 11),.int .u8 (k.sec 12),.int .u8 (k.sec 13),.int .u8 (k.sec 14),.int .u8 (k.sec 15),.int .u8 (k.sec 16),.int .u8 (k.sec 17),.int .u8 (k.sec 18),.int .u8 (k.sec 19),.int .u8 (k.sec 20),.int .u8 (k.sec 21),.int .u8 (k.sec 22),.int .u8 (k.sec 23),.int .u8 (k.sec 24),.int .u8 (k.sec 25),.int .u8 (k.sec 26),.int .u8 (k.sec 27),.int .u8 (k.sec 28),.int .u8 (k.sec 29),.int .u8 (k.sec 30),.int .u8 (k.sec 31)]
def Cj:Fa:=⟨λ_=>0,λ_=>0,0,0,0,0⟩
def u3 (Z:Fx) (k:Ek) (sec:Int):Int:=(jA sec (mR (G4 Z k.sec (⟨#[108,105,110,107]⟩:ByteArray))).1).1
def sG (Z:Fx) (l:Lk) (k:Ek) (by_ sec:Int):Fa:=⟨lV Z l,k.com,by_,u3 Z k sec,0,0⟩
def oc (Z:Fx) (l:Lk) (k:Ek) (by_ x sec:Int):Value:=
 if nu l=true/\ -1<=by_/\by_<512 then
  if jt x then
   if jt sec then
    if(Z.ge 4 sec).1=l.pub then .tuple #[.agg (oR {sG Z l k by_ sec with sr:=kn Z x (dc (G9 Z (sG Z l k by_ sec))),ss:=mX Z x (dc (G9 Z (sG Z l k by_ sec)))}),.int .i64 0]
    else .tuple #[.agg (oR Cj),.int .i64 400]
   else .tuple #[.agg (oR Cj),.int .i64 50]
  else .tuple #[.agg (oR Cj),.int .i64 50]
 else .tuple #[.agg (oR Cj),.int .i64 400]
theorem yg(hZ:FxOk Z)(f:Nat->Int)(s:ByteArray):jt (G4 Z f s):=by
 have:=hZ.bd (⟨#[115,99,97,108,97,114]⟩:ByteArray) (dc (uY Z f s));unfold G4;exact⟨this.1,this.2⟩
theorem DY(Z:Fx)(k:Ek)(sec:Int):fl (u3 Z k sec):=by
 have:=n4m sec (mR (G4 Z k.sec (⟨#[108,105,110,107]⟩:ByteArray))).1;unfold u3;exact⟨by have:=this.1;omega,by have:=this.2;omega⟩
theorem nug(hZ:FxOk Z)(l:Lk)(hl:cY l)(k:Ek)(hkc:iJ k.com)(hks:iJ k.sec)(b x sec:Int)(w:World)(aQ:fl b)(hg:Glb w):Calls prog 16 #[.agg (lkC l),.agg (ekC k),.int .i64 b,.int .i64 x,.int .i64 sec] w (ay w (oc Z l k b x sec)):=by
 have eE:=hg.lt;have T6:=aQ;clear aQ;obtain⟨tX,P9⟩:∃tX,lV Z l=tX:=⟨_,rfl⟩;obtain⟨Qa,YR⟩:∃Qa,G4 Z k.sec (⟨#[108,105,110,107]⟩:ByteArray)=Qa:=⟨_,rfl⟩;have Qc:=yg hZ k.sec (⟨#[108,105,110,107]⟩:ByteArray);rw[YR]at Qc;obtain⟨nn,hnn⟩:∃nn,(jA sec (mR Qa).1).1=nn:=⟨_,rfl⟩;have hnb:=DY Z k sec;have hfn:u3 Z k sec=nn:=by unfold u3;rw[YR];exact hnn
 rw[hfn]at hnb;have hF0:sG Z l k b sec=⟨tX,k.com,b,nn,0,0⟩:=by unfold sG;rw[P9,hfn]
 have hB:=Jz hZ (⟨tX,k.com,b,nn,0,0⟩:Fa);obtain⟨mf,DX⟩:∃mf,G9 Z (⟨tX,k.com,b,nn,0,0⟩:Fa)=mf:=⟨_,rfl⟩;rw[DX]at hB;obtain⟨r,hr⟩:∃r,kn Z x (dc mf)=r:=⟨_,rfl⟩;obtain⟨sg,nt⟩:∃sg,mX Z x (dc mf)=sg:=⟨_,rfl⟩;refine enter (vs:=[_,_,_,_,_]) func16 rfl ntmps16 rfl ?_;refine B 2 ?_;refine yX ?_;intro b5 w5 eo eH oQ iH iI;refine yX ?_;intro b6 w6 MS MT hz6 gV lP;refine aZ zeroValue59 rfl rfl ?_;refine yW ?_;intro kj qN qO;refine B 6 ?_;refine rv rfl rfl rfl (ae isAgg38 sizeOf38 rfl A1 eo eH zI rfl) ?_;refine YM ?_;refine call call26 rfl rfl rfl (λW hS=>nH l W) ?_;refine B 2 ?_;refine nh (t:=20) rfl (λah=>?_) (λah=>?_)
 ·replace ah:=ya ah;refine B 13 ?_;exact YS
 replace ah:=ya ah;refine B 4 ?_;refine nh (t:=24) rfl (λaJ=>?_) (λaJ=>?_)
 ·replace aJ:=ya aJ;refine B 9 ?_;exact YS
 replace aJ:=ya aJ;refine B 5 ?_;refine aG ?_ ?_
 ·intro cO;refine B 3 ?_;exact YS
 intro cO;refine B 6 ?_;by_cases JB:jt x
 ·refine call call17 rfl rfl rfl (λW hS=>nFm hZ x JB W) ?_;refine B 10 ?_;refine wh ?_;refine B 8 ?_;by_cases u4:jt sec
  ·refine call call17 rfl rfl rfl (λW hS=>nFm hZ sec u4 W) ?_;refine B 11 ?_;refine wh ?_;refine B 14 ?_;refine aG ?_ ?_
   ·intro gL;refine B 3 ?_;refine UP ?_;unfold oc;rw[if_pos (show nu l=true/\ -1<=b/\b<512 from⟨by simp_all,by omega,by omega⟩),if_pos JB,if_pos u4,if_neg gw];rfl
   intro gL;refine B 3 ?_;refine ng (E':=[(0,_),(1,_),(2,_),(3,_),(4,_),(5,_),(6,_),(10,_),(11,_),(13,_),(14,_),(16,_),(17,_),(18,_),(19,_),(20,_),(21,_),(22,_),(23,_),(24,_),(25,_),(26,_),(27,_),(29,_),(30,_),(31,_),(32,_),(33,_),(34,_),(35,_),(38,_),(39,_),(40,_),(41,_),(42,_),(43,_),(44,_),(47,_),(48,_),(49,_),(50,_)]) zR ?_;refine nP 7 [6] [([],some (.agg (lkC l))),([0],some (.agg (dg tX))),([],some _),([2],some (.agg (dg k.com))),([],some _),([1,3,4],some _),([],none)] (λcv L' H'=>match cv with| []=>L'=[w6,w5,w]/\H'=[(kj,.cells (oR Cj) 59 (0,0))]| [v1]=>∃(dR:Nat),v1=ptr dR 0/\L'=[w6,w5,w]/\H'=[(dR,.cells (oR Cj) 59 (0,0)),(kj,.cells (oR Cj) 59 (0,0))]/\w6.heap.size<=dR/\w5.heap.size<=dR/\w.heap.size<=dR/\kj≠dR|_=>False) zQ ⟨rfl,rfl⟩ zQ zQ zQ zQ zQ zQ (pc YT (pc YT (pc (by exact λcv L' H' hd hP=>X.val rfl rfl (al underlying76 rfl sizeOf34 rfl) R2) (pc YT (pc zT (pc (by exact λcv L' H' hd hP=>X.val rfl rfl (RV.re (v':=.agg (oR ⟨tX,k.com,b,0,0,0⟩)) (bY underlying59 zeroValue59 (bA.c sizeOf34 (bA.c sizeOf34 (bA.c sizeOf3 (bA.c sizeOf3 (bA.c sizeOf36 (bA.n)))))) rfl rfl) (rfl)) R2) (pk (pn)))))))) ?_ ?_
   ·refine sc rfl rfl rfl ?_ ?_
    ·intro cv L' H' hl hP F Q' hk;obtain rfl:=iZ hl;obtain⟨rfl,rfl⟩:=hP;refine aZ zeroValue59 rfl rfl ?_;intro dR ha ho;exact OJ.done (hk _ _ _ ⟨dR,rfl,rfl,rfl,ha.1,ha.2.1,ha.2.2.1,ho.1⟩)
    exact sn
   intro cv L' H' hl hP;obtain⟨v1,rfl⟩:=cM hl;obtain⟨dR,rfl,rfl,rfl,gU,YU,YV,DR⟩:=hP;refine UQ ?_;refine B 6 ?_;refine rv rfl rfl rfl (ai isAgg61 sizeOf61 rfl A0 MS MT zI (bj rfl)) ?_;refine call call30 rfl rfl rfl (λW hS=>by rw[<-YR];exact npk hZ k.sec hks W (hg.old hS A2 zS zM)) (v:=.int .i64 Qa) ?_;refine B 1 ?_;refine call call29 rfl rfl rfl (λW hS=>by have:=nzl Qa sec Qc u4 W;rw[hnn]at this;exact this) (v:=.tuple #[.int .i64 nn,.int .i64 0]) ?_;refine B 4 ?_;refine Uj ?_;refine OJ.reH (H':=[(dR,.cells (oR ⟨tX,k.com,b,nn,0,0⟩) 59 (0,0)),(kj,.cells (oR Cj) 59 (0,0))]) rfl ?_;refine GW ?_;refine B 10 ?_;refine nB (v:=λb:Nat=>.slice (some ⟨b,0,none⟩) 32 32) (Φ:=λ(W:World) (b:Nat) (v1:World)=>W.heap.size<=b/\v1.heap[b]? =some (.cells (dg mf) 34 (0,0))) call31 rfl rfl rfl (λW hS=>by rw[<-DX];exact nXi hZ (⟨tX,k.com,b,nn,0,0⟩:Fa) T6 hnb W (hg.old hS A2 zS zM)) ?_;rintro W74 b74 w74 Qd YW ⟨afc,Qe⟩;have afd:=(aT.1 Qe).1;have Qf:=Qd.sizes;replace Qf:=yb Qf;have aez:=YW.size;have YX:=Qd.under;simp only[nY,cZ,eB]at YX;refine call call27 rfl rfl rfl (λW hS=>nVj hZ x JB mf hB r sg hr nt b74 _ _ W (hS.old A0 Qe zU qK) (hg.old hS A3 zS zM)) ?_;refine B 4 ?_;refine kf (i:=0) rfl sizeOf36 rfl rfl rfl rfl (bj rfl) rfl ?_
   refine GW ?_;refine B 8 ?_;refine bh (i:=1) rfl sizeOf59 rfl rfl rfl rfl rfl rfl ?_;refine B 4 ?_;refine bF (.inl rfl) results16 (RS.wA (i:=1) rfl isAgg59 sizeOf59 rfl (bj rfl) (RS.t rfl (RS.n))) A3 zP ?_;unfold oc;rw[if_pos (show nu l=true/\ -1<=b/\b<512 from⟨by simp_all,by omega,by omega⟩),if_pos JB,if_pos u4,if_pos mH,hF0,DX,hr,nt];rfl
  refine call call17 rfl rfl rfl (λW hS=>YJ sec u4 W) ?_;refine B 11 ?_;refine Qg ?_;refine UP ?_;unfold oc;rw[if_pos (show nu l=true/\ -1<=b/\b<512 from⟨by simp_all,by omega,by omega⟩),if_pos JB,if_neg u4];rfl
 refine call call17 rfl rfl rfl (λW hS=>YJ x JB W) ?_;refine B 10 ?_;refine Qg ?_;refine UP ?_;unfold oc;rw[if_pos (show nu l=true/\ -1<=b/\b<512 from⟨by simp_all,by omega,by omega⟩),if_neg JB];rfl

def Hd:Array Value:=#[.slice none 0 0,.slice none 0 0,.slice none 0 0,.slice none 0 0,.slice none 0 0,.slice none 0 0,.slice none 0 0,.slice none 0 0,.slice none 0 0]
def Qh:Array Value:=#[.slice none 0 0,.slice none 0 0,.slice none 0 0,.slice none 0 0,.slice none 0 0,.slice none 0 0,.slice none 0 0,.slice none 0 0]
section
variable {C:Cx} {fn:Func} {R:Ending->World->Prop} {E:Env} {G:Gh} {L:List World} {H:ab}
theorem yh{Dk t ct:Nat}{e:Exit}(he:e= .ret\/e= .normal)(hr:fn.results=#[.cell t T])(hA:eZ C.P T false)(hx:look E t=some (ptr b 0))(hm:(Dk,.deferred (some []))∈H)(hb:(b,.cells cs ct fr)∈H)(dn:b≠Dk)(hv:cs[0]? =some v)(h:∀W H',St G L H' W->H'.map (·.1)=H.map (·.1)->R (.returned v) W):PJ C (bodyPostM (FW none) 0 C.P fn R) e E [ec Dk] G L H:=
 u5 he hm λa W H' hF hS bV bO=>by
  obtain⟨i,hi⟩:=ju.1 (bV _ hb dn);exact⟨v,(RS.w (C:=C) hi hA hx hv RS.n).res hr hF hS,h W H' hS bO⟩
end
theorem nmh(fv:Value)(w:World):Calls prog 84 #[.slice none 0 0,fv] w (ay w (.int .i64 (-1))):=by
 refine enter (vs:=[_,_]) func84 rfl ntmps84 rfl ?_;refine B 14 ?_;refine CJ.loop (α:=Nat) (λj=>[(7,.int .i64 0),(8,.int .i64 0)]) (λj=>[]) (λj=>[w]) (λj=>Gh.no) (λj=>True) (λj=>0) 0 True.intro ⟨rfl,rfl,trivial⟩ rfl rfl zX ?_;rintro j _;refine Jr ?_;refine B 15 ?_;refine ax results84 rfl A0 ?_;rfl
theorem njl(YY:Array Value)(iW:YY.size=9)(n:Int)(w:World):Calls prog 41 #[.agg YY,.int .i64 n] w (cJ w (λb:Nat×Nat=>.func (.func 83) #[] #[ptr b.1 0,ptr b.2 0]) (λb w1=>w.heap.size<=b.1/\w.heap.size<=b.2/\w1.heap[b.1]? =some (.cells YY 81 (0,0))/\w1.heap[b.2]? =some (.cells #[.int .i64 n] 3 (0,0)))):=by
 refine enter (vs:=[_,_]) func41 rfl ntmps41 rfl ?_;refine B 2 ?_;refine yX ?_;intro b2 w2 aU aN dY cR cX;refine yX ?_;intro b3 w3 aM aD da cd cP;refine B 10 ?_;refine kH (b2,b3) results41 rfl A2 rfl ?_;exact λW hS=>⟨cR.1,cd.2.1,hS.old A1 aU aN trivial,hS.old A0 aM aD trivial⟩
theorem nkl(b c:Nat)(W:World)(aQ:W.heap[b]? =some (.cells Hd 81 (0,0))):MP prog 83 [ptr b 0,ptr c 0] (λ_:Unit=>[.bool true]) ([]) (λ_=>False) (λk=>k=b) W:=by
 intro l M I X0 hM hI hX hy h0;have aX:¬M b:=λh=>(hM b h).2.2 rfl;refine nL (B0 hM (hI [])) [] (vs:=[_,_,_]) func83 rfl ntmps83 rfl (wU hM (hI []) h0) ?_;refine B 4 ?_;refine rr (.slice none 0 0) (aa isAgg22 rfl A0 aQ aX trivial rfl) ?_;refine B 1 ?_;refine call call84 rfl rfl rfl (λW hS=>nmh _ W) ?_;refine B 7 ?_;refine He ?_;refine B 5 ?_;exact OI (.inl rfl) results83 A0 (λA hA=>.inl hA)
theorem n8n(l:Lk)(w:World):Calls prog 35 #[.agg Hd,.agg (lkC l)] w (ay w (.bool false)):=by
 refine B1 Gh.no [] (vs:=[_,_]) func35 rfl ntmps35 rfl (uK w) ?_;refine B 2 ?_;refine yX ?_;intro b2 w2 aU aN dY cR cX;refine yX ?_;intro b3 w3 aM aD da cd cP;refine aZ zeroValue4 rfl rfl ?_;refine yW ?_;intro b4 dO dU;refine B 5 ?_;refine rv rfl rfl rfl (ae isAgg81 sizeOf81 rfl A1 aU aN zI rfl) ?_;refine B 3 ?_;refine nB (α:=Nat×Nat) (v:=λb:Nat×Nat=>.func (.func 83) #[] #[ptr b.1 0,ptr b.2 0]) (Φ:=λ(W:World) (b:Nat×Nat) (w1:World)=>W.heap.size<=b.1/\W.heap.size<=b.2/\w1.heap[b.1]? =some (.cells Hd 81 (0,0))/\w1.heap[b.2]? =some (.cells #[.int .i64 l.fo] 3 (0,0))) call41 rfl rfl rfl (λW hS=>njl Hd rfl _ W) ?_;rintro Wd ⟨bd,be⟩ wd qh OK ⟨IS,YZ,mP,Y0⟩;simp only at IS YZ mP Y0;have OL:=qh.under;simp only[nY,cZ,eB]at OL;have GL:=qh.sizes;replace GL:=yb GL;have Xy:=OK.size;refine B 3 ?_;refine CJ.range (f:=83) (cap:=[ptr bd 0,ptr be 0]) (α:=Unit) (enc:=(λ_:Unit=>[.bool true])) (xs:=[]) (MI:=λ_=>False) (RO:=λk=>k=bd) rfl call83 (λW W2 hS hB=>nkl bd be W2 (by rw[hB.block bd Xz];exact hS.old A0 mP zU pz)) (λ_ _ _ hk=>hk.elim) (λW hS k hk=>by subst hk;have:=hS.sizes;simp only[ad]at this;have:=(aT.1 mP).1;refine⟨by omega,by simp only[cZ,eB,eh,iB,cI,fu,or_false,not_or];omega,λh=>h⟩) (λ_=>rfl) (λ_ Hc=>Hc=[(b4,.cells #[.bool false] 4 (0,0))]) (λ_ _=>False) rfl (by rintro pre Hc rfl;rfl) (λ_ _ hk=>hk.elim) zO ?_ ?_ ?_
 ·exact λpre x _ _ _ _ _ _ _ hp=>absurd hp.length_le zX
 ·rintro l Dk rec Hc dZ gM rfl;replace dZ:=yb dZ;refine B 4 ?_;refine Qi ?_;refine B 3 ?_;refine yh (b:=b4) (.inl rfl) results35 isAgg4 rfl wW (cs:=#[.bool false]) (ct:=4) (fr:=(0,0)) (by exact .head _) zJ rfl (λW H' hS bO=>⟨?_,?_⟩)
  ·exact congrArg Ending.returned rfl
  refine(hS.links w A3).below λk hk hx=>?_;rw[bO]at hx;simp[Gh.no,book]at hx;omega
 exact λ_ _ _ _ _ _ _ hk=>hk.elim
theorem nHg(l:Lk)(hE:nu l=false\/l.by_≠ -1)(w:World):Calls prog 19 #[.agg Hd,.agg (lkC l),.int .i64 256] w (ay w (.bool false)):=by
 refine JC ?_;refine yV ?_;intro b3 w3 aM aD da cd cP;refine yX ?_;intro b4 w4 ew eR pA dO dU;refine B 6 ?_;refine Qj ?_;refine call call26 rfl rfl rfl (λW hS=>nH l W) ?_;refine B 3 ?_;refine aG ?_ ?_
 ·intro ah;refine B 7 ?_;refine ax results19 rfl A2 ?_;rfl
 intro ah;refine B 8 ?_;refine rq (.bool true) (cq rfl rfl) (by rw[decide_eq_false (hE.resolve_left mH)];rfl) ?_;refine B 5 ?_;refine rr (.agg Hd) (ae isAgg81 sizeOf81 rfl A1 aM aD trivial rfl) ?_;refine Qj ?_;refine call call35 rfl rfl rfl (λW hS=>n8n l W) ?_;refine B 5 ?_;refine ax results19 rfl A2 ?_;rfl
theorem n6j(l:Lk)(hE:nu l=false\/l.by_≠ -1)(w:World):Calls prog 9 #[.agg Qh,.slice none 0 0,.agg (lkC l)] w (ay w (.bool false)):=by
 refine enter (vs:=[_,_,_]) func9 rfl ntmps9 rfl ?_;refine B 2 ?_;refine yX ?_;intro b3 w3 aM aD da cd cP;refine yX ?_;intro b5 w5 eo eH oQ iH iI;refine B 5 ?_;refine rv rfl rfl rfl (ae isAgg31 sizeOf31 rfl A1 aM aD trivial rfl) ?_;refine B 1 ?_;refine Y1 ?_;refine rv rfl rfl rfl (ae isAgg38 sizeOf38 rfl A0 eo eH trivial rfl) ?_;refine Y2 ?_;refine B 4 ?_;refine ax results9 rfl A2 ?_;rfl
theorem JD(l:Lk)(hE:nu l=false\/l.by_≠ -1)(w:World):Calls prog 8 #[.agg Qh,.slice none 0 0,.agg (lkC l)] w (ay w (.slice none 0 0)):=by
 refine enter (vs:=[_,_,_]) func8 rfl ntmps8 rfl ?_;refine B 2 ?_;refine yX ?_;intro b3 w3 aM aD da cd cP;refine yX ?_;intro b5 w5 eo eH oQ iH iI;refine aZ zeroValue41 rfl rfl ?_;refine yW ?_;intro b6 gV lP;refine B 4 ?_;refine rv rfl rfl rfl (ae isAgg31 sizeOf31 rfl A1 aM aD zI rfl) ?_;refine B 1 ?_;refine Y1 ?_;refine aZ zeroValue81 rfl rfl ?_;refine yW ?_;intro b7 gd oN;refine zQh ?_;refine rv rfl rfl rfl (ae isAgg38 sizeOf38 rfl A0 eo eH zI rfl) ?_;refine Y2 ?_;refine B 6 ?_;refine bh (i:=1) rfl sizeOf41 rfl rfl rfl rfl rfl rfl ?_;refine B 4 ?_;refine bF (.inl rfl) results8 (RS.w (i:=1) rfl isAgg41 rfl rfl (RS.n)) A2 zP ?_;rfl
def Y3:Array Value:=#[.int .i64 0,.int .i64 0,.int .u8 0,.int .u8 0,.int .u8 0,.int .u8 0,.int .u8 0,.int .u8 0,.int .u8 0,.int .u8 0,.int .u8 0,.int .u8 0,.int .u8 0,.int .u8 0,.int .u8 0,.int .u8 0,.int .u8 0,.int .u8 0,.int .u8 0,.int .u8 0,.int .u8 0,.int .u8 0,.int .u8 0,.int .u8 0,.int .u8 0,.int .u8 0,.int .u8 0,.int .u8 0,.int .u8 0,.int .u8 0,.int .u8 0,.int .u8 0,.int .u8 0,.int .u8 0]
theorem Qk(l:Lk)(hE:nu l=false\/l.by_≠ -1)(it:Array Value)(w:World):Calls prog 14 #[.agg Qh,.slice none 0 0,.agg (lkC l),.agg it] w (ay w (.tuple #[.agg Y3,.int .i64 400])):=by
 refine enter (vs:=[_,_,_,_]) func14 rfl ntmps14 rfl ?_;refine B 2 ?_;refine yX ?_;intro b4 w4 ew eR pA dO dU;refine yX ?_;intro b6 w6 MS MT hz6 gV lP;refine yX ?_;intro b7 w7 Uo Up hz7 gd oN;refine aZ zeroValue63 rfl rfl ?_;refine yW ?_;intro b8 vU vV;refine aZ zeroValue67 rfl rfl ?_;refine yW ?_;intro b9 qD I0;refine B 4 ?_;refine rv rfl rfl rfl (ae isAgg31 sizeOf31 rfl A2 ew eR zI rfl) ?_;refine B 1 ?_;refine Y1 ?_;refine aZ zeroValue81 rfl rfl ?_;refine yW ?_;intro kj qN qO;refine zQh ?_;refine rv rfl rfl rfl (ae isAgg38 sizeOf38 rfl A1 MS MT zI rfl) ?_;refine Y2 ?_;refine B 6 ?_;refine rv rfl rfl rfl (aO (i:=2) rfl isAgg63 sizeOf63 rfl rfl) ?_;refine bh (i:=2) rfl sizeOf63 rfl rfl rfl rfl rfl rfl ?_;refine bh (i:=1) rfl sizeOf67 rfl rfl rfl rfl rfl rfl ?_;refine B 4 ?_;refine bF (.inl rfl) results14 (RS.wA (i:=2) rfl isAgg63 sizeOf63 rfl (bj rfl) (RS.w (i:=1) rfl isAgg67 rfl rfl (RS.n))) A3 zP ?_;rfl
end Px
