/- Contracts of functions of the program. No condition beyond those stated. -/
import Derived.Test.YtpgobjebhigaoaaGreatDoorKa
import Derived.Test.YtpgobjebhigaoaaGreatDoorProg
set_option linter.unusedSimpArgs false
set_option linter.unusedVariables false
set_option linter.unusedSectionVars false
set_option linter.unnecessarySimpa false
set_option maxRecDepth 20000
set_option maxHeartbeats 8000000
namespace Px
open Go Go.RowKit Go.Proofs Go.Proofs.Tryz
theorem V.encL_drop(l:List V)(i:Nat)(h:i<l.length):V.encL (l.drop i)=(l[i]).enc++V.encL (l.drop (i+1)):=by
 rw[List.drop_eq_getElem_cons h,V.encL]
theorem zc(x:V):dR prog x.fn:=by
 cases x
 ·exact call232
 ·exact call235
 exact call236
theorem neo(x:ByteArray)(hn:(V.text x).fine)(xs:List UInt8)(b cap:Nat)(sp:List Value)(qm:cJ xs cap sp)(w:World)(hb:w.heap[b]? =some (bh 5 xs sp))(gU:xs.length+(V.text x).enc.length<=800000000000):Calls prog 235 #[bA b xs.length cap,vT x] w (Kt w b 5 (xs++(V.text x).enc)):=by
 have jH:=(aM.1 hb).1;simp only[V.fine]at hn;simp only[V.enc,dW,cF]at gU;have cb:x.data.toList.length=x.size:=Array.length_toList;refine nN (vs:=[_,_]) (Gh.lent (· =b)) [(b,bh 5 xs sp)] func235 rfl ntmps235 rfl (y6 hb) ?_;refine B 2 ?_;refine yX ?_;intro b3 w3 aC ay cS bV cL;refine ZF ?_;refine nJ 10 [1,2,7] [([],some _),([],none),([0,1],none),([],some _),([3],some (.string x)),([4],some _),([5],some _),([2,6],none),([],some _),([8],some (.string x))] (λcv L' H'=>match cv with| []=>L'=[w3,w]/\H'=[(b,bh 5 xs sp)]| [v1]=>∃(b6:Nat),v1=bA b6 ([2]:List UInt8).length 1/\L'=[w3,w]/\H'=[(b6,bh 5 [2] []),(b,bh 5 xs sp)]/\w3.heap.size<=b6/\w.heap.size<=b6| [v1,v2]=>∃(b6:Nat) (b7:Nat) (c7:Nat) (s7:List Value),v1=bA b6 ([2]:List UInt8).length 1/\v2=bA b7 (xs++[2]).length c7/\L'=[w3,w]/\H'=[(b6,bh 5 [2] []),(b7,bh 5 (xs++[2]) s7)]/\w3.heap.size<=b6/\w.heap.size<=b6/\Fr (Gh.lent (· =b)) [w3,w] b7/\(b7=b\/w3.heap.size<=b7/\w.heap.size<=b7)/\cJ (xs++[2]) c7 s7| [v1,v2,v3]=>∃(b6:Nat) (b7:Nat) (c7:Nat) (s7:List Value) (kV:Nat) (VX:Nat) (QS:List Value),v1=bA b6 ([2]:List UInt8).length 1/\v2=bA b7 (xs++[2]).length c7/\v3=bA kV (xs++[2]++num x.size).length VX/\L'=[w3,w]/\H'=[(b6,bh 5 [2] []),(kV,bh 5 (xs++[2]++num x.size) QS)]/\w3.heap.size<=b6/\w.heap.size<=b6/\Fr (Gh.lent (· =b)) [w3,w] b7/\(b7=b\/w3.heap.size<=b7/\w.heap.size<=b7)/\cJ (xs++[2]) c7 s7/\Fr (Gh.lent (· =b)) [w3,w] kV/\(kV=b\/w3.heap.size<=kV/\w.heap.size<=kV)/\cJ (xs++[2]++num x.size) VX QS|_=>False) zT ⟨rfl,rfl⟩ zT zT zT zT zT zT (pc zW (pk (pk (pc (by exact λcv L' H' hd hP=>X.val rfl rfl (ak underlying149 rfl sizeOf9 rfl) R2) (pc zci (pc (by exact λcv L' H' hd hP=>X.val rfl rfl (rL underlying9 rfl) R2) (pc ZH (pk (pc (by exact λcv L' H' hd hP=>X.val rfl rfl (ak underlying149 rfl sizeOf9 rfl) R2) (pc zci (pn))))))))))) ?_ ?_
 ·refine sc rfl rfl rfl ?_ ?_
  ·intro cv L' H' hl hP F Q' hk;obtain rfl:=ja hl;obtain⟨rfl,rfl⟩:=hP;refine OI [2] bt zeroValue5 rfl rfl rfl rfl rfl rfl rfl rfl rfl ?_;intro b6 ha ho hx hr;exact OJ.done (hk _ _ _ ⟨b6,rfl,rfl,rfl,ha.1,ha.2.1⟩)
  refine sc rfl rfl rfl ?_ ?_
  ·intro cv L' H' hl hP F Q' hk;obtain⟨v1,rfl⟩:=dd hl;obtain⟨b6,rfl,rfl,rfl,gS,xR⟩:=hP;refine It (i:=1) (xs:=xs) (zs:=[2]) (sp:=sp) rfl bt rfl rfl rfl rfl (iw.own (i:=0) underlying64 rfl) qm (.inl rfl) xQ ?_;exact zqk
  refine sc rfl rfl rfl ?_ ?_
  ·intro cv L' H' hl hP F Q' hk;obtain⟨v1,v2,rfl⟩:=jj hl;obtain⟨b6,b7,c7,s7,rfl,rfl,rfl,rfl,gS,xR,oy,OK,vj⟩:=hP;refine OL (i:=1) (ys:=xs++[2]++num x.size) (first:=[]) (cap:=[]) rfl rfl call233 rfl rfl rfl oy (λW hS hW=>VS (xs++[2]) x.size zM b7 c7 s7 vj xQ W hW) ?_;intro bn cn sn hfn VY;have OM:=hfn;replace OM:=yf OM;exact OJ.done (hk _ _ _ ⟨b6,b7,c7,s7,bn,cn,sn,rfl,rfl,rfl,rfl,rfl,gS,xR,oy,OK,vj,hfn,by simpa only[Fr,Gh.lent,ad,and_true]using hfn,VY⟩)
  exact sn
 intro cv L' H' hl hP;obtain⟨v1,v2,v3,rfl⟩:=fM hl;obtain⟨b6,b7,c7,s7,kV,VX,QS,rfl,rfl,rfl,rfl,rfl,gS,xR,oy,OK,vj,QT,ZI,QU⟩:=hP;refine It (i:=1) (xs:=xs++[2]++num x.size) (zs:=x.data.toList) (sp:=QS) rfl bt rfl rfl rfl rfl (iw.str underlying9) QU QT xQ ?_;intro ei VZ V3 oR zd;have rM:=oR;replace rM:=yf rM;refine B 4 ?_;have Ky:xs++(V.text x).enc=xs++[2]++num x.size++x.data.toList:=by simp[V.enc]
 rw[Ky];exact VU (i:=1) (.inl rfl) results235 rfl rfl A1 (by simp only[jz,dz,fj,qo,rJ,and_true];simp only[Fr,Gh.lent,ad]at oR;omega) zd
theorem n6n(l:List V)(ih:∀y∈l,ZE y)(bZ:(V.list l).fine)(N:Nat)(base:Option Addr)(lc bv bw:Nat)(xs:List UInt8)(b cap:Nat)(sp:List Value)(qm:cJ xs cap sp)(w:World)(hb:w.heap[b]? =some (bh 5 xs sp))(hN:N<=w.heap.size)(hNb:N<=b)(pE:ES N w base l)(vk:Wr N w bv bw)(gU:xs.length+(V.list l).enc.length<=800000000000):Calls prog 236 #[bA b xs.length cap,vL base l.length lc,ptr bv 0] w (Kt w b 5 (xs++(V.list l).enc)):=by
 have jH:=(aM.1 hb).1;simp only[V.fine]at bZ;obtain⟨ue,wB,Kx⟩:=bZ;have hlv:=vk.ltv;have hlw:=vk.ltw;simp only[V.enc,dW,cF]at gU;refine nN (vs:=[_,_,_]) (Gh.lent (· =b)) [(b,bh 5 xs sp)] func236 rfl ntmps236 rfl (y6 hb) ?_;refine B 2 ?_;refine yX ?_;intro b4 w4 dm eb mI dQ dV;refine B 4 ?_;refine ZJ ?_;refine nJ 7 [1,2] [([],some _),([],none),([0,1],none),([],some _),([3],some (.slice base l.length lc)),([4],some _),([5],some _)] (λcv L' H'=>match cv with| []=>L'=[w4,w]/\H'=[(b,bh 5 xs sp)]| [v1]=>∃(b9:Nat),v1=bA b9 ([3]:List UInt8).length 1/\L'=[w4,w]/\H'=[(b9,bh 5 [3] []),(b,bh 5 xs sp)]/\w4.heap.size<=b9/\w.heap.size<=b9| [v1,v2]=>∃(b9:Nat) (kW:Nat) (wC:Nat) (xS:List Value),v1=bA b9 ([3]:List UInt8).length 1/\v2=bA kW (xs++[3]).length wC/\L'=[w4,w]/\H'=[(b9,bh 5 [3] []),(kW,bh 5 (xs++[3]) xS)]/\w4.heap.size<=b9/\w.heap.size<=b9/\Fr (Gh.lent (· =b)) [w4,w] kW/\(kW=b\/w4.heap.size<=kW/\w.heap.size<=kW)/\cJ (xs++[3]) wC xS|_=>False) zT ⟨rfl,rfl⟩ zT zT zT zT zT zT (pc zW (pk (pk (pc QV (pc zcj (pc (by exact λcv L' H' hd hP=>X.val rfl rfl (iK underlying146 rfl) R2) (pc ZH (pn)))))))) ?_ ?_
 ·refine sc rfl rfl rfl ?_ ?_
  ·exact zYj
  refine sc rfl rfl rfl ?_ ?_
  ·intro cv L' H' hl hP F Q' hk;obtain⟨v1,rfl⟩:=dd hl;obtain⟨b9,rfl,rfl,rfl,rE,EV⟩:=hP;refine It (i:=1) (xs:=xs) (zs:=[3]) (sp:=sp) rfl bt rfl rfl rfl rfl (iw.own (i:=0) underlying64 rfl) qm (.inl rfl) xQ ?_;intro b7 c7 s7 oy vj;exact OJ.done (hk _ _ _ ⟨b9,b7,c7,s7,rfl,rfl,rfl,rfl,rE,EV,oy,by simpa only[Fr,Gh.lent,ad,and_true]using oy,vj⟩)
  exact sn
 intro cv L' H' hl hP;obtain⟨v1,v2,rfl⟩:=jj hl;obtain⟨b9,kW,wC,xS,rfl,rfl,rfl,rfl,rE,EV,EW,KA,ug⟩:=hP;refine OJ.dropF (i:=0) rfl (.inr ⟨rE,EV,trivial⟩) ?_;refine OL (i:=0) (ys:=xs++[3]++num l.length) (first:=[]) (cap:=[]) rfl rfl call233 rfl rfl rfl EW (λW hS hW=>VS (xs++[3]) l.length zM kW wC xS ug xQ W hW) ?_;intro ei VZ V3 oR zd;have rM:=oR;replace rM:=yf rM;refine B 13 ?_;refine CJ.loop (α:=List UInt8×Nat×Nat×Nat×List Value) (λp=>[(0,bA p.2.2.1 p.1.length p.2.2.2.1),(2,ptr bv 0),(17,.slice base l.length lc),(18,.int .i64 (l.length:Int)),(19,.int .i64 (p.2.1:Int))]) (λp=>[(p.2.2.1,bh 5 p.1 p.2.2.2.2)]) (λp=>[w4,w]) (λp=>Gh.lent (· =b)) (λp=>p.1++V.encL (l.drop p.2.1)=xs++(V.list l).enc/\p.2.1<=l.length/\Fr (Gh.lent (· =b)) [w4,w] p.2.2.1/\(p.2.2.1=b\/w4.heap.size<=p.2.2.1/\w.heap.size<=p.2.2.1)/\cJ p.1 p.2.2.2.1 p.2.2.2.2) (λp=>l.length-p.2.1) (xs++[3]++num l.length,0,ei,VZ,V3) ⟨by simp[V.enc],cZ _,oR,by simpa only[Fr,Gh.lent,Gh.no,ad,and_true,false_or]using oR,zd⟩ zR rfl rfl z1 ?_;rintro⟨ys,i,b1,c1,s1⟩ ⟨hinv,hi,hf,hg,hr⟩;dsimp only at hinv hi hf hg hr ⊢;have ua:=congrArg List.length hinv;simp only[V.enc,cF,dW]at ua;refine B 6 ?_;refine aK ?_ ?_
 ·intro aj;refine B 5 ?_;obtain⟨bl,cs,te,fre,rfl,jH,hcs,hcz,a1,a2,p3,n3,c3,rK,tb⟩:=pE i zM;have y7:=(aM.1 hcs).1;obtain⟨y,hy⟩:∃y,l[i]'zM=y:=⟨_,rfl⟩;rw[hy]at rK tb;have ET:y∈l:=hy▸Qm _;have hkb:=V.kind_bd y;have ZK:=congrArg List.length (V.encL_drop l i zM);rw[cF,hy]at ZK;refine B 2 ?_;refine rq (.agg #[.int .i64 y.kind,.int .i64 a1,.string a2,.slice p3 n3 c3]) (ag isAgg149 sizeOf149 rfl A1 hcs (by show ¬(_=_);omega) zL zM) (va (by rw[<-rK];congr 1;omega)) ?_;refine y9 ?_;refine yW ?_;intro b7 gg ow;refine zEi ?_;refine nl 9 [.det [] _,.det [] _,.det [1] _,.det [0] _,.det [2,3] _,.det [4] _,.det [5] _,.det [] _,.det [] _] zT (xc (by exact λab=>X.val rfl rfl (aa isAgg264 rfl A1 vk.atv (by show ¬(_=_);omega) rN rfl) (λ_ _=>rfl)) (xc (by exact λab=>X.val rfl rfl (ak underlying149 rfl sizeOf3 rfl) (λ_ _=>rfl)) (xc z2 (xc EH (xc zme (xc (by exact λab=>X.val rfl rfl (ak underlying263 rfl sizeOf261 rfl) (λ_ _=>rfl)) (xc (by exact λab=>X.val rfl rfl (aa (v:=.func (.func y.fn) #[] (y.cap bv).toArray) isAgg261 rfl A1 vk.atw (by show ¬(_=_);omega) rN (zb bv _ _ (by show((0+Int.toNat y.kind*1+0:Nat):Int)=_;omega))) (λ_ _=>rfl)) (xc zO (xc zke (xn)))))))))) zT zT zT (λab=>?_);refine OL (i:=1) (ys:=ys++y.enc) (first:=[]) (cap:=y.cap bv) rfl rfl (zc _) rfl rfl rfl hf (λW hS hW=>ih y ET N b1 c1 bv bw ys s1 W _ (ef.up (ao _) (hS.same A1 hN (λk hk (h:k=b)=>by omega) zP) _ _ tb) (V.fineL_mem Kx y ET) (vk.up (ao _) (hS.same A1 hN (λk hk (h:k=b)=>by omega) zP)) zM (aS hN (hS.links _ A1).size) hr zM hW) ?_
  exact zFj
 intro aj;refine B 12 ?_;have e:i=l.length:=by omega
 subst e;rw[List.drop_of_length_le (ao _)]at hinv;simp only[V.encL,dE]at hinv;rw[<-hinv];exact VU (i:=0) (.inl rfl) results236 rfl rfl A1 (by simp only[jz,dz,fj,qo,rJ,and_true];omega) hr
theorem nlj(l:List V)(ih:∀y∈l,ZE y)(bZ:(V.list l).fine)(N:Nat)(base:Option Addr)(lc bv bw:Nat)(w:World)(hN:N<=w.heap.size)(pE:ES N w base l)(vk:Wr N w bv bw)(gU:(V.list l).enc.length<=800000000000):Calls prog 236 #[.slice none 0 0,vL base l.length lc,ptr bv 0] w (ZL w 5 ((V.list l).enc)):=by
 simp only[V.fine]at bZ;obtain⟨ue,wB,Kx⟩:=bZ;have hlv:=vk.ltv;have hlw:=vk.ltw;simp only[V.enc,dW,cF]at gU;refine enter (vs:=[_,_,_]) func236 rfl ntmps236 rfl ?_;refine B 2 ?_;refine yX ?_;intro b4 w4 dm eb mI dQ dV;refine B 4 ?_;refine ZJ ?_;refine nJ 7 [1,2] [([],some _),([],none),([0,1],none),([],some _),([3],some (.slice base l.length lc)),([4],some _),([5],some _)] (λcv L' H'=>match cv with| []=>L'=[w4,w]/\H'=[]| [v1]=>∃(b9:Nat),v1=bA b9 ([3]:List UInt8).length 1/\L'=[w4,w]/\H'=[(b9,bh 5 [3] [])]/\w4.heap.size<=b9/\w.heap.size<=b9| [v1,v2]=>∃(b9:Nat) (kW:Nat) (wC:Nat) (xS:List Value),v1=bA b9 ([3]:List UInt8).length 1/\v2=bA kW ([3]:List UInt8).length wC/\L'=[w4,w]/\H'=[(kW,bh 5 [3] xS),(b9,bh 5 [3] [])]/\w4.heap.size<=b9/\w.heap.size<=b9/\w4.heap.size<=kW/\w.heap.size<=kW/\cJ [3] wC xS|_=>False) zT ⟨rfl,rfl⟩ zT zT zT zT zT zT (pc zW (pk (pk (pc QV (pc zcj (pc (by exact λcv L' H' hd hP=>X.val rfl rfl (iK underlying146 rfl) R2) (pc ZH (pn)))))))) ?_ ?_
 ·refine sc rfl rfl rfl ?_ ?_
  ·exact zYj
  refine sc rfl rfl rfl ?_ ?_
  ·intro cv L' H' hl hP F Q' hk;obtain⟨v1,rfl⟩:=dd hl;obtain⟨b9,rfl,rfl,rfl,rE,EV⟩:=hP;refine apN (zs:=[3]) bt rfl rfl rfl rfl (iw.own (i:=0) underlying64 rfl) zQ zQ ?_;intro b7 c7 s7 gg ow hx7 vj;exact OJ.done (hk _ _ _ ⟨b9,b7,c7,s7,rfl,rfl,rfl,rfl,rE,EV,gg.1,gg.2.1,vj⟩)
  exact sn
 intro cv L' H' hl hP;obtain⟨v1,v2,rfl⟩:=jj hl;obtain⟨b9,kW,wC,xS,rfl,rfl,rfl,rfl,rE,EV,EW,KA,ug⟩:=hP;refine OJ.dropF (i:=1) rfl (.inr ⟨rE,EV,trivial⟩) ?_;refine OL (i:=0) (ys:=[3]++num l.length) (first:=[]) (cap:=[]) rfl rfl call233 rfl rfl rfl (.inr ⟨EW,KA,trivial⟩) (λW hS hW=>VS ([3]) l.length zM kW wC xS ug xQ W hW) ?_;intro ei VZ V3 oR zd;have rM:=oR;replace rM:=yf rM;refine B 13 ?_;refine CJ.loop (α:=List UInt8×Nat×Nat×Nat×List Value) (λp=>[(0,bA p.2.2.1 p.1.length p.2.2.2.1),(2,ptr bv 0),(17,.slice base l.length lc),(18,.int .i64 (l.length:Int)),(19,.int .i64 (p.2.1:Int))]) (λp=>[(p.2.2.1,bh 5 p.1 p.2.2.2.2)]) (λp=>[w4,w]) (λp=>Gh.no) (λp=>p.1++V.encL (l.drop p.2.1)=(V.list l).enc/\p.2.1<=l.length/\Fr (Gh.no) [w4,w] p.2.2.1/\(w4.heap.size<=p.2.2.1/\w.heap.size<=p.2.2.1)/\cJ p.1 p.2.2.2.1 p.2.2.2.2) (λp=>l.length-p.2.1) ([3]++num l.length,0,ei,VZ,V3) ⟨by simp[V.enc],cZ _,oR,by simpa only[Fr,Gh.lent,Gh.no,ad,and_true,false_or]using oR,zd⟩ zR rfl rfl z1 ?_;rintro⟨ys,i,b1,c1,s1⟩ ⟨hinv,hi,hf,hg,hr⟩;dsimp only at hinv hi hf hg hr ⊢;have ua:=congrArg List.length hinv;simp only[V.enc,cF,dW]at ua;refine B 6 ?_;refine aK ?_ ?_
 ·intro aj;refine B 5 ?_;obtain⟨bl,cs,te,fre,rfl,jH,hcs,hcz,a1,a2,p3,n3,c3,rK,tb⟩:=pE i zM;have y7:=(aM.1 hcs).1;obtain⟨y,hy⟩:∃y,l[i]'zM=y:=⟨_,rfl⟩;rw[hy]at rK tb;have ET:y∈l:=hy▸Qm _;have hkb:=V.kind_bd y;have ZK:=congrArg List.length (V.encL_drop l i zM);rw[cF,hy]at ZK;refine B 2 ?_;refine rq (.agg #[.int .i64 y.kind,.int .i64 a1,.string a2,.slice p3 n3 c3]) (ag isAgg149 sizeOf149 rfl A1 hcs zX zL zM) (va (by rw[<-rK];congr 1;omega)) ?_;refine y9 ?_;refine yW ?_;intro b7 gg ow;refine zEi ?_;refine nl 9 [.det [] _,.det [] _,.det [1] _,.det [0] _,.det [2,3] _,.det [4] _,.det [5] _,.det [] _,.det [] _] zT (xc (by exact λab=>X.val rfl rfl (aa isAgg264 rfl A1 vk.atv zX rN rfl) (λ_ _=>rfl)) (xc (by exact λab=>X.val rfl rfl (ak underlying149 rfl sizeOf3 rfl) (λ_ _=>rfl)) (xc z2 (xc EH (xc zme (xc (by exact λab=>X.val rfl rfl (ak underlying263 rfl sizeOf261 rfl) (λ_ _=>rfl)) (xc (by exact λab=>X.val rfl rfl (aa (v:=.func (.func y.fn) #[] (y.cap bv).toArray) isAgg261 rfl A1 vk.atw zX rN (zb bv _ _ (by show((0+Int.toNat y.kind*1+0:Nat):Int)=_;omega))) (λ_ _=>rfl)) (xc zO (xc zke (xn)))))))))) zT zT zT (λab=>?_);refine OL (i:=1) (ys:=ys++y.enc) (first:=[]) (cap:=y.cap bv) rfl rfl (zc _) rfl rfl rfl hf (λW hS hW=>ih y ET N b1 c1 bv bw ys s1 W _ (ef.up (ao _) (hS.same A1 hN zU zP) _ _ tb) (V.fineL_mem Kx y ET) (vk.up (ao _) (hS.same A1 hN zU zP)) zM (aS hN (hS.links _ A1).size) hr zM hW) ?_
  exact zFj
 intro aj;refine B 12 ?_;have e:i=l.length:=by omega
 subst e;rw[List.drop_of_length_le (ao _)]at hinv;simp only[V.encL,dE]at hinv;rw[<-hinv];exact KB (i:=0) (.inl rfl) results236 rfl rfl A1 wx hr
theorem ze:∀x,ZE x:=by
 refine V.ind ?_ ?_ ?_
 ·intro n N b cap bv bw xs sp w v hv hf _ _ _ hr hl hb;simp only[ef]at hv;subst hv;exact nwo n hf xs b cap sp hr w hb hl
 ·intro s N b cap bv bw xs sp w v hv hf _ _ _ hr hl hb;simp only[ef]at hv;subst hv;exact neo s hf xs b cap sp hr w hb hl
 intro l ih N b cap bv bw xs sp w v hv hf vk hNb hN hr hl hb;obtain⟨base,lc,rfl,hc,pE⟩:=hv.list;exact n6n l ih hf N base lc bv bw xs b cap sp hr w hb hN hNb pE vk hl
theorem nQe(l:List V)(bZ:(V.list l).fine)(hd:(V.list l).depth<=16)(gU:(V.list l).enc.length<=800000000000)(N:Nat)(base:Option Addr)(lc:Nat)(w:World)(hN:N<=w.heap.size)(tb:ef N w (.list l) (vL base l.length lc)):Calls prog 107 #[vL base l.length lc] w (ZM w 5 (V.list l).enc):=by
 obtain⟨QW,lc',ZN,ZO,ZP⟩:=tb.list;obtain⟨rfl,rfl⟩:base=QW/\lc=lc':=by simpa[vL]using ZN
 refine enter (vs:=[_]) func107 rfl ntmps107 rfl ?_;refine B 2 ?_;refine yX ?_;intro b1 w1 aR aY gA eK iH;refine B 7 ?_;refine rv rfl rfl rfl (af isAgg149 sizeOf149 rfl A0 aR aY trivial rfl) ?_;refine call call168 rfl rfl rfl (λW hS=>nsm (.list l) _ _ _ _ _ bZ hd N W (aS hN (hS.links _ A1).size) (ef.up zM (hS.same A1 hN zU zP) _ _ tb)) ?_;refine Iv ?_;refine B 6 ?_;refine ng (E':=[(0,_),(1,_),(2,_),(3,_),(4,_),(5,_),(6,_),(7,_),(8,_)]) zR ?_;refine nJ 8 [0,3,4,5,6] [([],none),([],some _),([1],some (.int .i64 3)),([0],none),([2,3],none),([4],none),([5],none),([],some (vL base l.length lc))] (λcv L' H'=>match cv with| []=>L'=[w1,w]/\H'=[]| [v1]=>∃(bw:Nat) (bv:Nat) (eM:World),v1=ptr bw 0/\L'=[eM,w1,w]/\H'=[]/\w1.heap.size<=bw/\w1.heap.size<=bv/\bw<eM.heap.size/\bv<eM.heap.size/\eM.heap[bv]? =some (.cells #[ptr bw 0] 264 (0,0))/\eM.heap[bw]? =some (.cells (EU bv) 332 (0,0))/\w1.heap.size<=eM.heap.size| [v1,v2]=>∃(bw:Nat) (bv:Nat) (eM:World),v1=ptr bw 0/\v2=ptr bw 0/\L'=[eM,w1,w]/\H'=[]/\w1.heap.size<=bw/\w1.heap.size<=bv/\bw<eM.heap.size/\bv<eM.heap.size/\eM.heap[bv]? =some (.cells #[ptr bw 0] 264 (0,0))/\eM.heap[bw]? =some (.cells (EU bv) 332 (0,0))/\w1.heap.size<=eM.heap.size| [v1,v2,v3]=>∃(bw:Nat) (bv:Nat) (eM:World),v1=ptr bw 0/\v2=ptr bw 0/\v3=ptr bw 3/\L'=[eM,w1,w]/\H'=[]/\w1.heap.size<=bw/\w1.heap.size<=bv/\bw<eM.heap.size/\bv<eM.heap.size/\eM.heap[bv]? =some (.cells #[ptr bw 0] 264 (0,0))/\eM.heap[bw]? =some (.cells (EU bv) 332 (0,0))/\w1.heap.size<=eM.heap.size| [v1,v2,v3,v4]=>∃(bw:Nat) (bv:Nat) (eM:World),v1=ptr bw 0/\v2=ptr bw 0/\v3=ptr bw 3/\v4=ptr bw 3/\L'=[eM,w1,w]/\H'=[]/\w1.heap.size<=bw/\w1.heap.size<=bv/\bw<eM.heap.size/\bv<eM.heap.size/\eM.heap[bv]? =some (.cells #[ptr bw 0] 264 (0,0))/\eM.heap[bw]? =some (.cells (EU bv) 332 (0,0))/\w1.heap.size<=eM.heap.size| [v1,v2,v3,v4,v5]=>∃(bw:Nat) (bv:Nat) (eM:World),v1=ptr bw 0/\v2=ptr bw 0/\v3=ptr bw 3/\v4=ptr bw 3/\v5= .func (.func 236) #[] #[ptr bv 0]/\L'=[eM,w1,w]/\H'=[]/\w1.heap.size<=bw/\w1.heap.size<=bv/\bw<eM.heap.size/\bv<eM.heap.size/\eM.heap[bv]? =some (.cells #[ptr bw 0] 264 (0,0))/\eM.heap[bw]? =some (.cells (EU bv) 332 (0,0))/\w1.heap.size<=eM.heap.size|_=>False) zT ⟨rfl,rfl⟩ zT zT zT zT zT zT (pk (pc (by exact λcv L' H' hd hP=>X.val rfl rfl (ak underlying149 rfl sizeOf3 rfl) R2) (pc zck (pk (pk (pk (pk (pc zck (pn))))))))) ?_ ?_
 ·refine sc rfl rfl rfl ?_ ?_
  ·intro cv L' H' hl hP F Q' hk;obtain rfl:=ja hl;obtain⟨rfl,rfl⟩:=hP;refine nu (Φ:=λ(W:World) (p:Nat×Nat) (v1:World)=>W.heap.size<=p.1/\W.heap.size<=p.2/\v1.heap[p.2]? =some (.cells #[ptr p.1 0] 264 (0,0))/\v1.heap[p.1]? =some (.cells (EU p.2) 332 (0,0))) call169 rfl rfl rfl (λW hS=>nSi W) ?_;rintro W ⟨bw,bv⟩ eM hSW ZQ ⟨h1,h2,h3,h4⟩;have h5:=hSW.sizes;replace h5:=yb h5;dsimp only at h1 h2 h3 h4;have e3:=(aM.1 h4).1;have e4:=(aM.1 h3).1;have e7:=ZQ.size;exact OJ.done (hk _ _ _ ⟨bw,bv,eM,rfl,rfl,rfl,by omega,by omega,e3,e4,h3,h4,by omega⟩)
  refine sc rfl rfl rfl ?_ ?_
  ·intro cv L' H' hl hP F Q' hk;obtain⟨v1,rfl⟩:=dd hl;obtain⟨bw,bv,eM,rfl,rfl,rfl,e1,e2,e3,e4,e5,e6,e7⟩:=hP;refine B 1 ?_;exact OJ.done (hk _ _ _ ⟨bw,bv,eM,rfl,rfl,rfl,rfl,e1,e2,e3,e4,e5,e6,e7⟩)
  refine sc rfl rfl rfl ?_ ?_
  ·intro cv L' H' hl hP F Q' hk;obtain⟨v1,v2,rfl⟩:=jj hl;obtain⟨bw,bv,eM,rfl,rfl,rfl,rfl,e1,e2,e3,e4,e5,e6,e7⟩:=hP;refine B 1 ?_;exact OJ.done (hk _ _ _ ⟨bw,bv,eM,rfl,rfl,rfl,rfl,rfl,e1,e2,e3,e4,e5,e6,e7⟩)
  refine sc rfl rfl rfl ?_ ?_
  ·intro cv L' H' hl hP F Q' hk;obtain⟨v1,v2,v3,rfl⟩:=fM hl;obtain⟨bw,bv,eM,rfl,rfl,rfl,rfl,rfl,e1,e2,e3,e4,e5,e6,e7⟩:=hP;refine B 1 ?_;exact OJ.done (hk _ _ _ ⟨bw,bv,eM,rfl,rfl,rfl,rfl,rfl,rfl,e1,e2,e3,e4,e5,e6,e7⟩)
  refine sc rfl rfl rfl ?_ ?_
  ·intro cv L' H' hl hP F Q' hk;obtain⟨v1,v2,v3,v4,rfl⟩:=qp hl;obtain⟨bw,bv,eM,rfl,rfl,rfl,rfl,rfl,rfl,e1,e2,e3,e4,e5,e6,e7⟩:=hP;refine rv rfl rfl rfl (aa (v:=.func (.func 236) #[] #[ptr bv 0]) isAgg261 rfl A0 e6 zX trivial rfl) ?_;exact OJ.done (hk _ _ _ ⟨bw,bv,eM,rfl,rfl,rfl,rfl,rfl,rfl,rfl,e1,e2,e3,e4,e5,e6,e7⟩)
  exact sn
 intro cv L' H' hl hP;obtain⟨v1,v2,v3,v4,v5,rfl⟩:=eZ hl;obtain⟨bw,bv,eM,rfl,rfl,rfl,rfl,rfl,rfl,rfl,e1,e2,e3,e4,e5,e6,e7⟩:=hP;refine KC (ys:=(V.list l).enc) (first:=[]) (cap:=[ptr bv 0]) rfl call236 rfl rfl rfl (λW hS=>nlj l (λy _=>ze y) bZ eM.heap.size base lc bv bw W (hS.links _ A0).size (λi hi=>by
  obtain⟨bl,cs,t,fr,h1,h2,h3,h4,a1,a2,p3,n3,c3,h5,h6⟩:=ZP i hi;have Dp:=hS.same A2 hN zU zP;exact⟨bl,cs,t,fr,h1,by omega,(Dp bl h2).trans h3,h4,a1,a2,p3,n3,c3,h5,ef.up zM Dp _ _ h6⟩) ⟨e4,e3,hS.old A0 e5 zX trivial,hS.old A0 e6 zX trivial⟩ gU) ?_
 intro b18 c18 s18 uc ER Zy QM;replace uc:=yb uc;refine B 5 ?_;exact KD (i:=0) (.inl rfl) results107 rfl rfl rfl A2 wx QM


def cG (w:World) (b off:Nat) (zs:List UInt8):Prop:=∃cs t fr,w.heap[b]? =some (.cells cs t fr)/\off+zs.length<=cs.size/\∀i,i<zs.length->cs[off+i]? =some (.int .u8 (fU zs i))
variable {cs:Array Value} {C:Cx} {E:Env} {G:Gh} {H:ae} {zs:List UInt8} {sp:List Value} {L:List World} {N T b e i tx:Nat} {fr:Nat×Nat} {x:Operand} {v:Value} {W w' w1:World}
theorem cG.up{w:World}{off:Nat}(h:cG w b off zs)(hb:w'.heap[b]? =w.heap[b]?):cG w' b off zs:=by
 obtain⟨cs,t,fr,h1,h2,h3⟩:=h;exact⟨cs,t,fr,hb.trans h1,h2,h3⟩
theorem cG.lt{w:World}{off:Nat}(h:cG w b off zs):b<w.heap.size:=by
 obtain⟨cs,t,fr,h1,_⟩:=h;exact(aM.1 h1).1
theorem cG.old{w:World}{off:Nat}(h:cG w b off zs)(hS:St G L H W)(hw:w∈L)(hX:¬G.X b)(hO:bE H b):cG W b off zs:=by
 obtain⟨cs,t,fr,h1,h2,h3⟩:=h;exact⟨cs,t,fr,hS.old hw h1 hX hO,h2,h3⟩
theorem cG.row(h:W.heap[b]? =some (bh e zs sp)):cG W b 0 zs:=
 ⟨_,_,_,h,by simp only[rH,cF,wD];omega,λi hi=>QX _ _ i hi⟩
theorem iw.seg{e' off c:Nat}(hU:C.P.underlying tx=some (.slice e'))(hm:w1∈L)(h:cG w1 b off zs)(hG:¬G.X b)(hO:bE H b):iw C G L H tx (.slice (some ⟨b,off,none⟩) zs.length c) zs:=by
 obtain⟨cs,t,fr,h1,h2,h3⟩:=h;exact jJ.sl hU (Rd.old hm h1 hG hO zM (by rw[Zq h2 h3,<-nsn])) (by rw[wD,tX]) (ZR _)
def Glb (w:World):Prop:=(∃t fr,w.heap[0]? =some (.cells S8.init.cells t fr))/\(∃t fr,w.heap[4]? =some (.cells (cf 64 (λi=>u32 (kk i))) t fr))
theorem Glb.lt{w:World}(h:Glb w):5<=w.heap.size:=by
 obtain⟨_,t,fr,h⟩:=h;have:=(aM.1 h).1;omega
theorem Glb.old{w:World}(h:Glb w)(hS:St G L H W)(hw:w∈L)(hX:∀k,k<5->¬G.X k)(hH:Over 5 H):Glb W:=by
 have hs:=hS.same hw h.lt hX hH;obtain⟨⟨t,fr,h1⟩,t',fr',h2⟩:=h;exact⟨⟨t,fr,(hs 0 zM).trans h1⟩,t',fr',(hs 4 zM).trans h2⟩
def scalL (s:ByteArray) (xs:List UInt8):Int:=yZ s xs.length (fU xs)
theorem zf(s:ByteArray)(xs:List UInt8):1<=scalL s xs/\scalL s xs<2305843009213688669:=by
 have Kg:=Y7 2305843009213688668 zQ (qY (tagged s xs.length (fU xs))) 0 zQ zQ;unfold scalL yZ;omega
structure Fx where
 sc:ByteArray->List UInt8->Int
 tg:ByteArray->List UInt8->Nat->Int
 ge:Int->Int->Int×Int
structure FxOk (Z:Fx):Prop where
 sc:∀s xs,scalL s xs=Z.sc s xs
 tg:∀s xs,tagged s xs.length (fU xs)=Z.tg s xs
 ge:∀a k,gExp a k=Z.ge a k
variable {Z:Fx}
theorem FxOk.bd(hZ:FxOk Z)(s:ByteArray)(xs:List UInt8):1<=Z.sc s xs/\Z.sc s xs<2305843009213688669:=by
 rw[<-hZ.sc];exact zf s xs
theorem FxOk.byt(hZ:FxOk Z)(s:ByteArray)(xs:List UInt8):jh (Z.tg s xs):=by
 rw[<-hZ.tg];exact nsi _ _ _
theorem Iw(hZ:FxOk Z)(k:Int)(w:World):Calls prog 65 #[.int .i64 k] w (av w (lP (Z.ge 4 k))):=by
 rw[<-hZ.ge];exact nvi k w
theorem EX(hZ:FxOk Z)(a:Int)(w:World):Calls prog 33 #[.int .i64 a] w (av w (.int .i64 (Z.ge 4 a).1)):=by
 rw[<-hZ.ge];exact nEh a w
theorem Ix(hZ:FxOk Z)(s:ByteArray)(hs0:s.size<1000)(xs:List UInt8)(hn:xs.length<900000000000)(b off c:Nat)(hc:xs.length<=c)(w:World)(h:cG w b off xs)(hg:Glb w):Calls prog 110 #[.string s,.slice (some ⟨b,off,none⟩) xs.length c] w (av w (.int .i64 (Z.sc s xs))):=by
 rw[<-hZ.sc];obtain⟨cs,t,fr,h1,h2,h3⟩:=h;obtain⟨⟨t2,qj,g1⟩,t3,tT,g2⟩:=hg;exact nRk s xs.length (fU xs) b off c t t2 t3 fr qj tT cs hs0 hc zM w h1 h2 h3 g1 g2
def b8 (n:Int) (i:Nat):UInt8:=UInt8.ofNat ((n%18446744073709551616).toNat/2^(56-8*i)%256)
def EY (n:Int):List UInt8:=(List.range 8).map (b8 n)
theorem ZS(n:Int):(EY n).length=8:=by simp[EY]
theorem nfl(n:Int)(i:Nat)(h:i<8):(EY n).take (i+1)=(EY n).take i++[b8 n i]:=by
 have hl:i<(EY n).length:=by rw[ZS];exact h
 rw[Ij hl];congr 2;simp[EY]
theorem QY(n k:Int)(i:Nat)(hi:i<8)(hk:k=56-8*(i:Int)):(n%18446744073709551616).fdiv (2^(min (Int.toNat k) IntKind.u64.bits))%256=((b8 n i).toNat:Int):=by
 subst hk;have e1:min (Int.toNat (56-8*(i:Int))) IntKind.u64.bits=56-8*i:=by simp[IntKind.bits];omega
 obtain⟨m,hm⟩:∃m:Nat,n%18446744073709551616=(m:Int):=⟨(n%18446744073709551616).toNat,by omega⟩;rw[e1];unfold b8;rw[hm,QZ,wE];simp only[UInt8.toNat_ofNat'];rw[V4];omega
def wF (ns:List Int):List UInt8:=ns.flatMap EY
theorem nQj(ns:List Int):(wF ns).length=8*ns.length:=by
 induction ns with
 |nil=>rfl
 |cons n ns ih=>simp only[wF,Iy,cF,dW]at *;rw[ZS];omega
theorem n5n(ns:List Int)(j:Nat)(h:j<ns.length):wF (ns.take (j+1))=wF (ns.take j)++EY ns[j]:=by
 rw[Ij h];unfold wF;rw[List.flatMap_append];simp
def roV (ro:Option (Nat×Nat×List Value)) (ys:List UInt8):Value:=match ro with|none=>.slice none 0 0|some (b,c,_)=>bA b ys.length c
def roH (e:Nat) (ro:Option (Nat×Nat×List Value)) (ys:List UInt8):ae:=match ro with|none=>[]|some (b,_,sp)=>[(b,bh e ys sp)]
def Q0 (G:Gh) (L:List World) (ro:Option (Nat×Nat×List Value)) (ys:List UInt8):Prop:=match ro with|none=>ys=[]|some (b,c,sp)=>cJ ys c sp/\Fr G L b
theorem nMj(hZ:FxOk Z)(s:ByteArray)(hs0:s.size<1000)(msg:List UInt8)(bm om cm:Nat)(q4:msg.length<=100000000000)(ns:List Int)(bn cn tn:Nat)(Iz:Nat×Nat)(ZT:0<ns.length)(u9:ns.length<=1000)(w:World)(kX:cG w bm om msg)(kG:w.heap[bn]? =some (.cells (ns.map (Value.int .i64)).toArray tn Iz))(hg:Glb w):Calls prog 64 #[.string s,.slice (some ⟨bm,om,none⟩) msg.length cm,.slice (some ⟨bn,0,none⟩) ns.length cn] w (av w (.int .i64 (Z.sc s (wF ns++msg)))):=by
 have agU:=(aM.1 kG).1;have Q1:=kX.lt;have eC:=hg.lt;refine enter (vs:=[_,_,_]) func64 rfl ntmps64 rfl ?_;refine B 19 ?_;refine CJ.loop (α:=List UInt8×Nat×Option (Nat×Nat×List Value)) (λp=>[(0,.string s),(1,.slice (some ⟨bm,om,none⟩) msg.length cm),(7,roV p.2.2 p.1),(11,.slice (some ⟨bn,0,none⟩) ns.length cn),(12,.int .i64 (ns.length:Int)),(13,.int .i64 (p.2.1:Int))]) (λp=>roH 5 p.2.2 p.1) (λp=>[w]) (λp=>Gh.no) (λp=>p.1=wF (ns.take p.2.1)/\p.2.1<=ns.length/\Q0 Gh.no [w] p.2.2 p.1) (λp=>ns.length-p.2.1) ([],0,none) ⟨rfl,cZ _,rfl⟩ zR rfl rfl z1 ?_;rintro⟨V5,j,ZU⟩ ⟨uh,hj,zg⟩;dsimp only at uh hj zg ⊢;refine B 6 ?_;refine aK ?_ ?_
 ·intro aj;refine B 7 ?_;obtain⟨n,hn⟩:∃n,ns[j]'zM=n:=⟨_,rfl⟩;refine rv rfl rfl rfl (aa (v:=.int .i64 n) isAgg3 rfl A0 kG zX (by cases ZU with|none=>trivial|some p=>obtain⟨b1,c1,s1⟩:=p;obtain⟨hr,hf⟩:=zg;simp only[Fr,Gh.no,ad,and_true,false_or]at hf;exact⟨by dsimp only;omega,trivial⟩) (by simp only[Dr,ra];rw[gV zM];simp[<-hn])) ?_;refine B 9 ?_;have Q2:V5.length<=8000:=by rw[uh,nQj,kj];omega
  refine CJ.loop (α:=List UInt8×Nat×Option (Nat×Nat×List Value)) (λp=>[(0,.string s),(1,.slice (some ⟨bm,om,none⟩) msg.length cm),(7,roV p.2.2 p.1),(9,.int .i64 n),(10,.int .i64 (56-8*(p.2.1:Int))),(11,.slice (some ⟨bn,0,none⟩) ns.length cn),(12,.int .i64 (ns.length:Int)),(13,.int .i64 (j:Int))]) (λp=>roH 5 p.2.2 p.1) (λp=>[w]) (λp=>Gh.no) (λp=>p.1=V5++(EY n).take p.2.1/\p.2.1<=8/\Q0 Gh.no [w] p.2.2 p.1) (λp=>8-p.2.1) (V5,0,ZU) ⟨by simp,by dsimp only;omega,zg⟩ zR rfl rfl z1 ?_;rintro⟨ys,i,ro⟩ ⟨oS,hi,ON⟩;dsimp only at oS hi ON ⊢;have IA:ys.length<=8008:=by rw[oS,cF,kj,ZS];omega
  refine B 7 ?_;refine aK ?_ ?_
  ·intro aN;refine B 7 ?_;refine rq (.int .u64 (n%18446744073709551616)) (iI underlying3 underlying202 rfl) (vu (nD n)) ?_;refine B 1 ?_;refine rv rfl rfl rfl (iG rfl rfl zM) ?_;refine rq (.int .u8 ((b8 n i).toNat:Int)) (mJ underlying202 underlying5 rfl) (congrArg (Value.int .u8) (QY n _ i zM rfl)) ?_;refine OI [b8 n i] bt zeroValue5 rfl rfl rfl rfl rfl rfl rfl rfl rfl ?_;intro ix zh KE agV agW;replace zh:=yb zh;replace KE:=ye KE;rcases ro with _|⟨b1,c1,s1⟩
   ·have e0:ys=[]:=ON;subst e0;refine apN (zs:=[b8 n i]) bt rfl rfl rfl rfl (iw.own (i:=0) underlying64 rfl) z1 z1 ?_;intro V6 ZV ZX KF Q3 agX KG;replace KF:=yb KF;replace Q3:=ye Q3;have EZ:Fr Gh.no [w] V6:=.inr ⟨KF.1,trivial⟩;refine OJ.dropF (i:=1) rfl (.inr ⟨zh.1,trivial⟩) ?_;refine B 9 ?_;refine PJ.again ([b8 n i],i+1,some (V6,ZV,ZX)) ⟨by dsimp only;rw[nfl n i zM,<-i7,<-oS];first|done|rfl,by dsimp only;omega,KG,EZ⟩ dL ⟨rfl,rfl,rfl,rfl,congrArg some (vi dL),rfl,rfl,rfl,trivial⟩ rfl rfl z1
   obtain⟨hr,hf⟩:=ON;refine It (i:=1) (xs:=ys) (zs:=[b8 n i]) (sp:=s1) rfl bt rfl rfl rfl rfl (iw.own (i:=0) underlying64 rfl) hr hf xQ ?_;intro V6 ZV ZX EZ KG;have Q4:=EZ;replace Q4:=yf Q4;refine OJ.dropF (i:=0) rfl (.inr ⟨zh.1,trivial⟩) ?_;refine B 9 ?_;refine PJ.again (ys++[b8 n i],i+1,some (V6,ZV,ZX)) ⟨by dsimp only;rw[nfl n i zM,<-i7,<-oS];first|done|rfl,by dsimp only;omega,KG,EZ⟩ dL ⟨rfl,rfl,rfl,rfl,congrArg some (vi dL),rfl,rfl,rfl,trivial⟩ rfl rfl z1
  intro aN;refine B 10 ?_;refine PJ.again (ys,j+1,ro) ⟨by dsimp only;rw[n5n ns j zM,hn,oS,show i=8 by omega,uh];first|done|rfl,by dsimp only;omega,ON⟩ dL zR rfl rfl z1
 intro aj;refine B 6 ?_;have ej:j=ns.length:=by omega
 subst ej;rw[iZ (ao _)]at uh;have IA:=nQj ns;rcases ZU with _|⟨b1,c1,s1⟩
 ·exact absurd (show V5=[]from zg) (by intro e;rw[e]at uh;rw[<-uh]at IA;simp at IA;omega)
 obtain⟨hr,hf⟩:=zg;subst uh;have hg1:=hf;simp only[Fr,Gh.no,ad,and_true,false_or]at hg1;refine CJ.reH (H':=[(b1,bh 5 (wF ns) s1)]) rfl ?_;refine B 4 ?_;refine It (i:=0) (xs:=wF ns) (zs:=msg) (sp:=s1) rfl bt rfl rfl rfl rfl (iw.seg underlying64 A0 kX zX rN) hr hf (by rw[IA];omega) ?_;intro Q5 c33 s33 ZY ZZ;have Q6:=ZY;replace Q6:=yf Q6;refine call call110 rfl rfl rfl (λW hS=>Ix hZ s hs0 (wF ns++msg) (by rw[cF,IA];omega) Q5 0 c33 ZZ.le W (cG.row (hS.own _ A0)) (hg.old hS A0 zU zP)) ?_;refine B 4 ?_;refine bJ (.inl rfl) results64 (RS.t rfl (RS.n)) A0 zS ?_;rfl
def Dv (Z:Fx) (x:Int) (msg:List UInt8):Int:=Z.sc (⟨#[110,111,110,99,101]⟩:ByteArray) (wF [x]++msg)
def E1 (Z:Fx) (r p:Int) (msg:List UInt8):Int:=Z.sc (⟨#[115,105,103,110]⟩:ByteArray) (wF [r,p]++msg)
def kY (Z:Fx) (x:Int) (msg:List UInt8):Int:=(Z.ge 4 (Dv Z x msg)).1
def oT (Z:Fx) (x:Int) (msg:List UInt8):Int:=(qg (Dv Z x msg) (kh (E1 Z (kY Z x msg) (Z.ge 4 x).1 msg) x).1).1
def rO (Z:Fx) (x:Int) (msg:List UInt8):Value:=if jY x then .tuple #[.agg #[.int .i64 (kY Z x msg),.int .i64 (oT Z x msg)],.int .i64 0]else .tuple #[.agg #[.int .i64 0,.int .i64 0],.int .i64 50]
theorem nln(a b:Int):oM (kh a b).1:=by
 unfold kh;exact zdl
theorem zi(hZ:FxOk Z)(x:Int)(msg:List UInt8):oM (Dv Z x msg):=by have:=hZ.bd (⟨#[110,111,110,99,101]⟩:ByteArray) (wF [x]++msg);unfold Dv;exact⟨by omega,by omega⟩
theorem zj(hZ:FxOk Z)(x:Int)(msg:List UInt8):(qg (Dv Z x msg) (kh (E1 Z (kY Z x msg) (Z.ge 4 x).1 msg) x).1).2=0:=by
 unfold qg;rw[if_pos ⟨zi hZ _ _,nln _ _⟩]
theorem E2(hZ:FxOk Z)(x k e:Int)(msg:List UInt8)(hK:jY x)(hk:Dv Z x msg=k)(he:E1 Z (Z.ge 4 k).1 (Z.ge 4 x).1 msg=e):Value.tuple #[.agg #[.int .i64 (Z.ge 4 k).1,.int .i64 (qg k (kh e x).1).1],.int .i64 (qg k (kh e x).1).2]=rO Z x msg:=by
 have hE:=zj hZ x msg;subst hk;subst he;unfold rO;rw[if_pos hK];exact congrArg (λz=>Value.tuple #[.agg #[.int .i64 (kY Z x msg),.int .i64 (oT Z x msg)],.int .i64 z]) hE
theorem E3(Z:Fx)(x:Int)(msg:List UInt8)(hK:¬jY x):Value.tuple #[.agg #[.int .i64 0,.int .i64 0],.int .i64 50]=rO Z x msg:=by
 unfold rO;rw[if_neg hK]
theorem n2n(hZ:FxOk Z)(x k:Int)(msg:List UInt8)(hk:Dv Z x msg=k)(q4:msg.length<=100000000000)(bm om cm bn cn tn:Nat)(Iz:Nat×Nat)(w:World)(kX:cG w bm om msg)(kG:w.heap[bn]? =some (.cells #[.int .i64 x] tn Iz))(hg:Glb w):Calls prog 64 #[.string (⟨#[110,111,110,99,101]⟩:ByteArray),.slice (some ⟨bm,om,none⟩) msg.length cm,.slice (some ⟨bn,0,none⟩) 1 cn] w (av w (.int .i64 k)):=by
 subst hk;exact nMj hZ (⟨#[110,111,110,99,101]⟩:ByteArray) zQ msg bm om cm q4 [x] bn cn tn Iz z1 z1 w kX kG hg
theorem nOi(hZ:FxOk Z)(r p e:Int)(msg:List UInt8)(he:E1 Z r p msg=e)(q4:msg.length<=100000000000)(bm om cm bn cn tn:Nat)(Iz:Nat×Nat)(w:World)(kX:cG w bm om msg)(kG:w.heap[bn]? =some (.cells #[.int .i64 r,.int .i64 p] tn Iz))(hg:Glb w):Calls prog 64 #[.string (⟨#[115,105,103,110]⟩:ByteArray),.slice (some ⟨bm,om,none⟩) msg.length cm,.slice (some ⟨bn,0,none⟩) 2 cn] w (av w (.int .i64 e)):=by
 subst he;exact nMj hZ (⟨#[115,105,103,110]⟩:ByteArray) zQ msg bm om cm q4 [r,p] bn cn tn Iz z1 z1 w kX kG hg
theorem nfp(hZ:FxOk Z)(x:Int)(msg:List UInt8)(bm om cm:Nat)(q4:msg.length<=100000000000)(w:World)(kX:cG w bm om msg)(hg:Glb w):Calls prog 27 #[.int .i64 x,.slice (some ⟨bm,om,none⟩) msg.length cm] w (av w (rO Z x msg)):=by
 have Q1:=kX.lt;have eC:=hg.lt;obtain⟨k,hk⟩:∃k,Dv Z x msg=k:=⟨_,rfl⟩;obtain⟨e,he⟩:∃e,E1 Z (Z.ge 4 k).1 (Z.ge 4 x).1 msg=e:=⟨_,rfl⟩;refine enter (vs:=[_,_]) func27 rfl ntmps27 rfl ?_;refine B 2 ?_;refine aU zeroValue36 rfl rfl ?_;refine yW ?_;intro b4 dQ dV;refine B 12 ?_;refine Qy ?_;refine B 1 ?_;refine Qy ?_;refine B 8 ?_;refine Q7 (first:=[.int .i64 x]) (cap:=[]) rfl call32 rfl rfl rfl (λW hS=>nBi x W) ?_;refine B 3 ?_;refine aK ?_ ?_
 ·intro aj;refine B 3 ?_;refine V7 ?_;refine B 5 ?_;refine bJ (.inl rfl) results27 (RS.wA (i:=0) rfl isAgg36 sizeOf36 rfl (aV rfl) (RS.t rfl (RS.n))) A0 zS ?_;exact E3 Z x msg gO
 intro aj;refine B 6 ?_;refine EA ?_;refine yV ?_;intro Dw Dx E4 E5 agY Q8 KH;refine call call64 rfl rfl rfl (λW hS=>n2n hZ x k msg hk q4 bm om cm Dw _ _ _ W (kX.old hS A1 zX rN) (hS.old A0 E4 E5 rN) (hg.old hS A1 zU zP)) ?_;refine B 6 ?_;refine call call65 rfl rfl rfl (λW hS=>Iw hZ _ W) ?_;refine B 4 ?_;refine VL ?_;refine B 3 ?_;refine ng (E':=[(0,_),(1,_),(4,_),(5,_),(6,_),(7,_),(8,_),(9,_),(12,_),(13,_),(14,_),(15,_),(16,_),(17,_),(18,_),(19,_),(21,_),(22,_),(23,_),(24,_),(25,_),(26,_),(27,_),(28,_),(30,_)]) zR ?_;refine nJ 13 [5] [([],some _),([],some _),([1],some (.int .i64 (Z.ge 4 k).1)),([],some _),([3],some _),([2,4],none),([0,5],some (.int .i64 e)),([],some _),([6,7],some _),([8],some _),([9],some _),([9],some _),([10],some _)] (λcv L' H'=>match cv with| []=>L'=[Dx,w]/\H'=[(b4,.cells #[.int .i64 (Z.ge 4 k).1,.int .i64 0] 36 (0,0))]| [v1]=>∃(wG:Nat) (IB:World),v1= .slice (some ⟨wG,0,none⟩) 2 2/\L'=[IB,Dx,w]/\H'=[(b4,.cells #[.int .i64 (Z.ge 4 k).1,.int .i64 0] 36 (0,0))]/\IB.heap[wG]? =some (.cells #[.int .i64 (Z.ge 4 k).1,.int .i64 (Z.ge 4 x).1] 3 (0,0))/\(Dx.heap.size<=wG/\w.heap.size<=wG)/\b4≠wG/\¬Gh.no.X wG/\IB.heap.size=wG+1|_=>False) zT ⟨rfl,rfl⟩ zT zT zT zT zT zT (pc zW (pc KI (pc (λcv L' H' hd hP=>match cv,hd,hP with| [],hd,hP=>(by obtain⟨rfl,rfl⟩:=hP;exact X.val rfl rfl (aO (i:=0) rfl isAgg3 rfl rfl) R2)| [v1],hd,hP=>(by obtain⟨wG,IB,rfl,rfl,rfl,zk,zl,E6,zm,E7⟩:=hP;exact X.val rfl rfl (aO (i:=0) rfl isAgg3 rfl rfl) R2)|_::_::_,_,hP=>hP.elim) (pc zW (pc (by exact λcv L' H' hd hP=>nXm (first:=[.int .i64 x]) (cap:=[]) rfl call33 rfl rfl (λW hS _=>EX hZ x W) (λ_=>rfl)) (pk (pc (λcv L' H' hd hP=>match cv,hd,hP with| [],hd,hP=>(absurd (show false=true from hd) zQ)| [v1],hd,hP=>(by obtain⟨wG,IB,rfl,rfl,rfl,zk,zl,E6,zm,E7⟩:=hP;exact nf call64 rfl rfl (λW hS _=>nOi hZ _ _ e msg he q4 bm om cm wG _ _ _ W (kX.old hS A2 zX rN) (hS.old A0 zk zm rN) (hg.old hS A2 zU zP)) (λ_=>rfl))|_::_::_,_,hP=>hP.elim) (pc zW (pc (by exact λcv L' H' hd hP=>nf call66 rfl rfl (λW hS _=>n5j _ _ W) (λ_=>rfl)) (pc zW (pc (by exact λcv L' H' hd hP=>X.val rfl rfl (gE rfl rfl) R2) (pc (by exact λcv L' H' hd hP=>X.val rfl rfl (gE rfl rfl) R2) (pc (by exact λcv L' H' hd hP=>X.val rfl rfl (kg rfl) R2) (pn)))))))))))))) ?_ ?_
 ·refine sc rfl rfl rfl ?_ ?_
  ·intro cv L' H' hl hP F Q' hk;obtain rfl:=ja hl;obtain⟨rfl,rfl⟩:=hP;refine EA ?_;intro wG IB zk zl E6 zm E7;exact OJ.done (hk _ _ _ ⟨wG,IB,rfl,rfl,rfl,zk,⟨zl.1,zl.2.1⟩,E6.1,zm,E7⟩)
  exact sn
 intro cv L' H' hl hP;obtain⟨v1,rfl⟩:=dd hl;obtain⟨wG,IB,rfl,rfl,rfl,zk,zl,E6,zm,E7⟩:=hP;refine B 7 ?_;refine call call67 rfl rfl rfl (λW hS=>nip _ _ W) ?_;refine B 4 ?_;refine VL ?_;refine B 7 ?_;refine V7 ?_;refine B 4 ?_;refine bJ (.inl rfl) results27 (RS.wA (i:=0) rfl isAgg36 sizeOf36 rfl (aV rfl) (RS.t rfl (RS.n))) A2 zS ?_;exact E2 hZ x k e msg gO hk he
theorem E8(hZ:FxOk Z)(x:Int):yL x=if jY x then((Z.ge 4 x).1,0)else(0,50):=by
 unfold yL;split
 ·rename_i h;rw[<-hZ.ge,VM h]
 rfl
theorem zn{P:Program}{ms:Array (String×TypeId)}(hU:P.underlying T=some (.interface ms))(d:Nat)(W:World):(Op.equalIn (d+1) T .nilIface .nilIface).run P W= .ok true W:=by
 exact Q9
theorem E9{U:Nat}{ms:Array (String×TypeId)}(hU:C.P.underlying T=some (.interface ms))(hx:ev E x=some .nilIface):RV C G L H E (.binOp .eql T x (.const .nilIface) U) (.bool true):=λd ty pos aD g a W hF _=>by
 have h0:a.eval (.const .nilIface)= .nilIface:=rfl;have h1:(eqGuard .eql T x (.const .nilIface) .nilIface .nilIface).run C.P W= .ok () W:=by simp[eqGuard]
 have h2:(binOp .eql T .nilIface .nilIface).run C.P W= .ok (.bool true) W:=by
  have e:binOp .eql T .nilIface .nilIface=(do pure (.bool (<-Op.equalIn (9999+1) T .nilIface .nilIface))):=rfl;rw[e,Sem.run_bind,zn hU];rfl
 simp only[execOp,hF.ev hx,h0,Sem.run_bind,h1,h2,Result.andThen];rfl
theorem nui(a:Int)(w:World):Calls prog 59 #[.int .i64 a] w (av w (.bool (decide (jY a)))):=by
 refine enter (vs:=[_]) func59 rfl ntmps59 rfl ?_;refine B 10 ?_;refine nh (t:=5) rfl (λaj=>?_) (λaj=>?_)
 ·replace aj:=ya aj;refine B 7 ?_;refine ax results59 rfl A0 ?_;refine vb (xM.2 ?_)
  (try simp only[decide_eq_true_eq,Bool.false_eq_true,false_iff,true_iff])
  first|omega|(intro h;omega)
 replace aj:=ya aj;refine B 7 ?_;refine ax results59 rfl A0 ?_;refine vb (xM.2 ?_)
 (try simp only[decide_eq_true_eq,Bool.false_eq_true,false_iff,true_iff])
 first|omega|(intro h;omega)
theorem nZd(a:Int)(h:jY a)(w:World):Calls prog 59 #[.int .i64 a] w (av w (.bool true)):=by
 have:=nui a w;rw[decide_eq_true h]at this;exact this
theorem n8k(b:Nat)(w:World):Calls prog 57 #[.nilIface,ptr b 0] w (av w (.tuple #[])):=by
 refine enter (vs:=[_,_]) func57 rfl ntmps57 rfl ?_;refine B 8 ?_;refine rv rfl rfl rfl (E9 underlying20 rfl) ?_;refine B 7 ?_;refine bJ (.inr rfl) results57 (RS.n) A0 trivial ?_;rfl
theorem nSl(e:Int)(w:World):Calls prog 58 #[.bool true,.int .i64 e] w (av w (.tuple #[])):=by
 refine enter (vs:=[_,_]) func58 rfl ntmps58 rfl ?_;refine B 8 ?_;refine bJ (.inr rfl) results58 (RS.n) A0 trivial ?_;rfl
theorem nti(n e:Int)(he:e=0)(w:World):Calls prog 61 #[.int .i64 n,.int .i64 e] w (av w (.int .i64 n)):=by
 refine enter (vs:=[_,_]) func61 rfl ntmps61 rfl ?_;refine B 9 ?_;refine rq (.bool false) (cy rfl rfl) (vb (by simp[he])) ?_;refine B 12 ?_;refine ax results61 rfl A0 ?_;rfl
theorem nok(b:Nat)(w:World):CallsDIn (FW none) 0 prog 68 #[ptr b 0] .returning w (λe u' w'=>u'= .returning/\(∃v,e= .returned v)/\Below w.heap.size w w'):=by
 refine(Fb (vs:=[ptr b 0]) (R:=av w (.tuple #[])) .returning .returning .nilIface nFk func68 rfl ntmps68 rfl rfl (u7 w) ?_).mono ?_
 ·refine call call57 rfl rfl rfl (λW hS=>n8k b W) ?_;refine B 1 ?_;exact bJ (.inr rfl) results68 (RS.n) A0 trivial rfl
 rintro e u' w' ⟨rfl,rfl,hb⟩;exact⟨rfl,⟨_,rfl⟩,hb⟩
theorem nvl(a b:Int)(ha:jY a)(hb:jY b)(w:World):Calls prog 29 #[.int .i64 a,.int .i64 b] w (av w (.tuple #[.int .i64 (kh b (oN a).1).1,.int .i64 0])):=by
 have hsi:(oN a).2=0/\oM (oN a).1:=by
  unfold oN;have h1:oM a:=⟨by unfold jY at ha;omega,by unfold jY at ha;omega⟩;rw[if_pos h1,if_neg (by unfold jY at ha;omega)];exact⟨rfl,VE _ _ _ zQ⟩
 have Dp:(kh b (oN a).1).2=0:=by
  unfold kh;rw[if_pos ⟨⟨by unfold jY at hb;omega,by unfold jY at hb;omega⟩,hsi.2⟩]
 refine KJ (vs:=[_,_]) Gh.no [] func29 rfl ntmps29 rfl (u7 w) ?_;refine B 3 ?_;refine aU zeroValue67 rfl rfl ?_;refine yW ?_;intro b5 gQ gR;refine B 5 ?_;refine OJ.defer (cap:=[ptr b5 0]) rfl rfl ?_;refine B 5 ?_;refine call call59 rfl rfl rfl (λW hS=>nZd a ha W) ?_;refine B 2 ?_;refine call call59 rfl rfl rfl (λW hS=>nZd b hb W) ?_;refine B 1 ?_;refine call call58 rfl rfl rfl (λW hS=>nSl _ W) ?_;refine B 6 ?_;refine call call69 rfl rfl rfl (λW hS=>nKo _ W) ?_;refine B 2 ?_;refine call call61 rfl rfl rfl (λW hS=>nti _ _ hsi.1 W) ?_;refine call call66 rfl rfl rfl (λW hS=>n5j _ _ W) ?_;refine B 2 ?_;refine call call61 rfl rfl rfl (λW hS=>nti _ _ Dp W) ?_;refine B 1 ?_;refine aZ (i:=0) rfl sizeOf67 rfl rfl rfl rfl rfl rfl ?_;refine B 3 ?_;refine Z0 (.inl rfl) call68 (λW hS=>nok b5 W) results29 (RS.t rfl (RS.w (i:=0) rfl isAgg67 rfl rfl RS.n)) (λW hS=>⟨rfl,hS.base A0 wH⟩)
def dn (f:Nat->Int):List UInt8:=(List.range 32).map λi=>UInt8.ofNat (f i).toNat
theorem nO(f:Nat->Int):(dn f).length=32:=by simp[dn]
theorem V8(f:Nat->Int)(hf:jh f)(i:Nat)(h:i<32):fU (dn f) i=f i:=by
 have:=hf i;simp only[fU,dn,ra,List.getElem?_range h,wI,Option.getD_some,UInt8.toNat_ofNat'];omega
theorem cG.dg{w:World}{t:Nat}{f:Nat->Int}(h:w.heap[b]? =some (.cells (dg f) t fr))(hf:jh f):cG w b 0 (dn f):=
 ⟨_,_,_,h,by rw[nO];exact ao 32,λi hi=>by rw[nO]at hi;rw[i6,pC f i hi,V8 f hf i hi]⟩
theorem nJj(hZ:FxOk Z)(s:ByteArray)(hs0:s.size<1000)(xs:List UInt8)(hn:xs.length<900000000000)(b off c:Nat)(hc:xs.length<=c)(w:World)(h:cG w b off xs)(hg:Glb w):Calls prog 108 #[.string s,.slice (some ⟨b,off,none⟩) xs.length c] w (av w (.agg (Px.dg (Z.tg s xs)))):=by
 rw[<-hZ.tg];obtain⟨cs,t,fr,h1,h2,h3⟩:=h;obtain⟨⟨t2,qj,g1⟩,t3,tT,g2⟩:=hg;exact nsg s xs.length (fU xs) b off c t t2 t3 fr qj tT cs hs0 hc zM w h1 h2 h3 g1 g2
def cA (s:Value) (r:Int):Array Value:=#[s,.int .i64 0,.int .i8 r]
def rf (n:Nat):List Value:=List.replicate n (.int .u8 0)
theorem Fc(bI:Nat)(lr:Int)(t:Nat)(fr:Nat×Nat)(w:World)(mq:w.heap[bI]? =some (.cells (cA (.slice none 0 0) lr) t fr)):Calls prog 286 #[ptr bI 0] w (av w (.int .i64 0)):=by
 have tM:¬Gh.no.X bI:=λh=>h;refine enter (vs:=[_]) func286 rfl ntmps286 rfl ?_;refine B 6 ?_;refine ng (E':=[(0,_),(2,_)]) ⟨rfl,rfl,trivial⟩ ?_;refine nl 9 [.det [] _,.det [0] _,.det [1] _,.det [2] _,.det [3] _,.det [] _,.det [5] _,.det [6] _,.det [7] _] zT (xc zO (xc EH (xc (by exact λab=>X.val rfl rfl (ak underlying281 rfl sizeOf64 rfl) (λ_ _=>rfl)) (xc zue (xc (by exact λab=>X.val rfl rfl (iK underlying64 rfl) (λ_ _=>rfl)) (xc zO (xc EH (xc (by exact λab=>X.val rfl rfl (ak underlying281 rfl sizeOf3 rfl) (λ_ _=>rfl)) (xc zwe (xn)))))))))) zT zT zT (λab=>?_);refine B 5 ?_;refine ax results286 rfl A0 ?_;rfl
theorem nHh(bI:Nat)(lr:Int)(t:Nat)(fr:Nat×Nat)(n:Nat)(hn:0<n)(w:World)(mq:w.heap[bI]? =some (.cells (cA (.slice none 0 0) lr) t fr)):Calls prog 245 #[ptr bI 0,.int .i64 (n:Int)] w (av w (.tuple #[.int .i64 0,.bool false])):=by
 have tM:¬Gh.no.X bI:=λh=>h;refine enter (vs:=[_,_]) func245 rfl ntmps245 rfl ?_;refine B 27 ?_;refine zBg ?_;refine B 12 ?_;refine nT results245 rfl rfl A0 ?_ ?_;all_goals rfl
theorem nxm(bI bR m c n:Nat)(lr:Int)(t:Nat)(hc:m+n<=c)(aN:c<=1000000)(w:World)(hb:w.heap[bI]? =some (.cells (cA (bA bR m c) lr) t (0,0))):Calls prog 245 #[ptr bI 0,.int .i64 (n:Int)] w (rP w [bI] (λ_:Unit=>.tuple #[.int .i64 (m:Int),.bool true]) (λ_=>[(bI,.cells (cA (bA bR (m+n) c) lr) t (0,0))]) (λ_=>True)):=by
 have jH:=(aM.1 hb).1;refine nN (vs:=[_,_]) (Gh.lent (λk=>k∈keys [(bI,.cells (cA (bA bR m c) lr) t (0,0))])) [(bI,.cells (cA (bA bR m c) lr) t (0,0))] func245 rfl ntmps245 rfl (Ra (gW.mem ⟨hb,trivial⟩) (Rb _)) ?_;refine B 27 ?_;refine V9 ?_;refine B 12 ?_;refine rq (.int .i64 ((m+n:Nat):Int)) (ql rfl rfl zM zM) (vi zM) ?_;refine rv rfl rfl rfl (gq (h:=m+n) underlying64 sizeOf5 rfl ⟨_,_,rfl,rfl⟩ zM) ?_;refine B 2 ?_;refine kS (i:=0) rfl sizeOf64 rfl rfl rfl rfl (aV rfl) rfl ?_;refine B 11 ?_;exact zo (Hz:=[(bI,.cells (cA (bA bR m c) lr) t (0,0))]) (H0:=[]) () (.inl rfl) results245 ((RS.t rfl (RS.t rfl RS.n))) A0 Rc rfl Re
theorem mkz(c:Nat):cf c (λ_=>Value.int .u8 0)=(ub ([]:List UInt8)++rf c).toArray:=by
 apply Array.ext';simp[cf,ub,rf,List.map_const']
theorem zp(c n:Nat):(rf c).drop n=rf (c-n):=by simp[rf,List.drop_replicate]
theorem Z1(n:Nat):(rf n).length=n:=by simp[rf]
theorem nJl(xs zs:List UInt8)(sp:List Value)(h:zs.length<=sp.length):setCells (ub xs++sp).toArray xs.length (ub zs)=(ub (xs++zs)++sp.drop zs.length).toArray:=by
 apply Array.ext';rw[OO];show gX (ub xs++sp) xs.length (ub zs)=ub (xs++zs)++sp.drop zs.length;have hs:sp=sp.take zs.length++sp.drop zs.length:=(Dy _ _).symm;conv=>lhs;rw[hs]
 rw[<-wD xs,Wa _ _ _ _ (by rw[wD,kj];omega),zq,i7]
theorem zr(bI n:Nat)(lr:Int)(t:Nat)(ZT:0<n)(hn:n<=64)(w:World)(hb:w.heap[bI]? =some (.cells (cA (.slice none 0 0) lr) t (0,0))):Calls prog 246 #[ptr bI 0,.int .i64 (n:Int)] w (rP w [bI] (λ_:Nat=>.int .i64 0) (λbR=>[(bI,.cells (cA (bA bR n 64) lr) t (0,0)),(bR,.cells (cf 64 (λ_=>.int .u8 0)) 5 (0,0))]) (λ_=>True)):=by
 have jH:=(aM.1 hb).1;refine nN (vs:=[_,_]) (Gh.lent (λk=>k∈keys [(bI,.cells (cA (.slice none 0 0) lr) t (0,0))])) [(bI,.cells (cA (.slice none 0 0) lr) t (0,0))] func246 rfl ntmps246 rfl (Ra (gW.mem ⟨hb,trivial⟩) (Rb _)) ?_;refine B 8 ?_;refine call call286 rfl rfl rfl (λW hS=>Fc bI lr _ _ W (hS.own _ A0)) ?_;refine B 7 ?_;refine De ?_;refine B 5 ?_;refine xT ?_;refine B 11 ?_;refine call call245 rfl rfl rfl (λW hS=>nHh bI lr _ _ n ZT W (hS.own _ A0)) ?_;refine B 22 ?_;refine rv rfl rfl rfl (KK underlying64 rfl rfl) ?_;refine B 2 ?_;refine V9 ?_;refine B 8 ?_;refine Qz (ln:=n) (cp:=64) underlying64 Qw rfl rfl rfl rfl rfl rfl rfl zM zQ zM ?_;intro b41 Rf Z2;replace Rf:=yb Rf;try simp only[bE,ne_eq,and_true]at Z2
 refine B 2 ?_;refine kS (i:=1) rfl sizeOf64 rfl rfl rfl rfl (aV rfl) rfl ?_;refine B 9 ?_;refine PJ.swp ?_;exact zo (Hz:=[(bI,.cells (cA (.slice none 0 0) lr) t (0,0))]) (H0:=[]) b41 (.inl rfl) results246 (RS.t rfl RS.n) A0 Rc rfl Re
theorem Rd.seg{off c:Nat}(hm:w1∈L)(h:cG w1 b off zs)(hG:¬G.X b)(hO:bE H b):Rd C G L H 1 zs.length (.slice (some ⟨b,off,none⟩) zs.length c) (ub zs):=by
 obtain⟨cs,t,fr,h1,h2,h3⟩:=h;exact Rd.old hm h1 hG hO zM (by rw[Zq h2 h3,<-nsn])
theorem Rg(zs:List UInt8):nV (ub zs)=true:=by
 induction zs with
 |nil=>rfl
 |cons z zs ih=>simp only[ub,eE,nV,tU,Bool.true_and];exact ih
theorem nrk(bI:Nat)(lr:Int)(t:Nat)(zs:List UInt8)(bz oz cz:Nat)(Z3:0<zs.length)(gA:zs.length<=64)(w:World)(hb:w.heap[bI]? =some (.cells (cA (.slice none 0 0) lr) t (0,0)))(zt:cG w bz oz zs)(dc:bz≠bI):Calls prog 182 #[ptr bI 0,.slice (some ⟨bz,oz,none⟩) zs.length cz] w (rP w [bI] (λ_:Nat=>.tuple #[.int .i64 (zs.length:Int),.nilIface]) (λbR=>[(bI,.cells (cA (bA bR zs.length 64) 0) t (0,0)),(bR,bh 5 zs (rf (64-zs.length)))]) (λ_=>True)):=by
 have jH:=(aM.1 hb).1;have aJ:=zt.lt;refine nN (vs:=[_,_]) (Gh.lent (λk=>k∈keys [(bI,.cells (cA (.slice none 0 0) lr) t (0,0))])) [(bI,.cells (cA (.slice none 0 0) lr) t (0,0))] func182 rfl ntmps182 rfl (Ra (gW.mem ⟨hb,trivial⟩) (Rb _)) ?_;refine B 11 ?_;refine kS (i:=0) rfl sizeOf279 rfl rfl rfl rfl (aV rfl) rfl ?_;refine B 7 ?_;refine call call245 rfl rfl rfl (λW hS=>nHh bI 0 _ _ zs.length Z3 W (hS.own _ A0)) ?_;refine B 19 ?_;refine Rh (Hz:=[(bI,.cells (cA (.slice none 0 0) 0) t (0,0))]) (H0:=[]) (first:=[]) (cap:=[]) (v:=λ_:Nat=>.int .i64 0) (Hn:=λbR=>[(bI,.cells (cA (bA bR zs.length 64) 0) t (0,0)),(bR,.cells (cf 64 (λ_=>.int .u8 0)) 5 (0,0))]) (Φ:=λ_=>True) rfl rfl call246 rfl rfl rfl ⟨.inl (by simp[Gh.lent,keys]),trivial⟩ (λW hS=>zr bI zs.length 0 t Z3 gA W (hS.own _ A0)) ?_;rintro bR-rh;have Ri:bR=bI\/w.heap.size<=bR:=by
  rcases rh (bR,_) A1 with h|h
  ·left;simpa[keys]using h
  right;exact h.1.1
 refine OJ.reH (H':=[(bI,.cells (cA (bA bR zs.length 64) 0) t (0,0)),(bR,bh 5 [] (rf 64))]) (by rw[mkz];rfl) ?_;refine B 10 ?_;refine rv rfl rfl rfl (il (l:=0) (h:=zs.length) (off':=0) underlying64 sizeOf5 rfl ⟨_,_,rfl,rfl⟩ rfl zM zM (by rw[if_neg zM])) ?_;refine B 1 ?_;refine VN (i:=1) (m:=1) (n:=zs.length) (k:=zs.length) (news:=ub zs) rfl underlying64 sizeOf5 rfl rfl rfl rfl (λ_=>rfl) zM (Rd.seg A0 zt (by simp[Gh.lent,keys]<;>omega) rN) (by simp only[rH,cF,wD,Z1];omega) (Rg _) ?_;refine B 5 ?_;refine PJ.reH (H':=[(bI,.cells (cA (bA bR zs.length 64) 0) t (0,0)),(bR,bh 5 zs (rf (64-zs.length)))]) (by have:=nJl [] zs (rf 64) (by rw[Z1];omega);simp only[lC,dX]at this;simp only[fj,dz,bh];rw[this,zp]) ?_;exact zo (Hz:=[(bI,.cells (cA (.slice none 0 0) lr) t (0,0))]) (H0:=[]) bR (.inl rfl) results182 (RS.t rfl (RS.t rfl RS.n)) A0 Rc rfl Re
theorem nGk(bI bR t:Nat)(xs:List UInt8)(sp:List Value)(zs:List UInt8)(bz oz cz:Nat)(gA:xs.length+zs.length<=64)(zu:sp.length=64-xs.length)(hx:xs.length<64)(w:World)(hb:w.heap[bI]? =some (.cells (cA (bA bR xs.length 64) 0) t (0,0)))(Ri:w.heap[bR]? =some (bh 5 xs sp))(Z4:bI≠bR)(zt:cG w bz oz zs)(dc:bz≠bI)(wJ:bz≠bR):Calls prog 182 #[ptr bI 0,.slice (some ⟨bz,oz,none⟩) zs.length cz] w (rP w [bI,bR] (λ_:Unit=>.tuple #[.int .i64 (zs.length:Int),.nilIface]) (λ_=>[(bI,.cells (cA (bA bR (xs++zs).length 64) 0) t (0,0)),(bR,bh 5 (xs++zs) (sp.drop zs.length))]) (λ_=>True)):=by
 have jH:=(aM.1 hb).1;have y7:=(aM.1 Ri).1;have aJ:=zt.lt;refine nN (vs:=[_,_]) (Gh.lent (λk=>k∈keys [(bI,.cells (cA (bA bR xs.length 64) 0) t (0,0)),(bR,bh 5 xs sp)])) [(bI,.cells (cA (bA bR xs.length 64) 0) t (0,0)),(bR,bh 5 xs sp)] func182 rfl ntmps182 rfl (Ra (gW.mem ⟨hb,Ri,trivial⟩) (Rj Z4)) ?_;refine B 11 ?_;refine kS (i:=0) rfl sizeOf279 rfl rfl rfl rfl (aV rfl) rfl ?_;refine B 7 ?_;refine Rh (Hz:=[(bI,.cells (cA (bA bR xs.length 64) 0) t (0,0))]) (H0:=[(bR,bh 5 xs sp)]) (first:=[]) (cap:=[]) (v:=λ_:Unit=>.tuple #[.int .i64 (xs.length:Int),.bool true]) (Hn:=λ_=>[(bI,.cells (cA (bA bR (xs.length+zs.length) 64) 0) t (0,0))]) (Φ:=λ_=>True) rfl rfl call245 rfl rfl rfl ⟨.inl (by simp[Gh.lent,keys]),trivial⟩ (λW hS=>nxm bI bR xs.length 64 zs.length 0 t zM zQ W (hS.own _ A0)) ?_;rintro _-rh;refine OJ.reH (H':=[(bI,.cells (cA (bA bR (xs.length+zs.length) 64) 0) t (0,0)),(bR,bh 5 xs sp)]) rfl ?_;refine B 24 ?_;refine rv rfl rfl rfl (il (l:=xs.length) (h:=xs.length+zs.length) (off':=xs.length) underlying64 sizeOf5 rfl ⟨_,_,rfl,rfl⟩ rfl zM zM (by rw[if_neg zM];omega)) ?_;refine B 1 ?_;refine VN (i:=1) (m:=1) (n:=zs.length) (k:=zs.length) (news:=ub zs) rfl underlying64 sizeOf5 rfl rfl rfl rfl (λ_=>rfl) zM (Rd.seg A0 zt (by simp[Gh.lent,keys]<;>omega) rN) (by simp only[rH,cF,wD];omega) (Rg _) ?_
 refine B 5 ?_;refine PJ.reH (H':=[(bI,.cells (cA (bA bR (xs++zs).length 64) 0) t (0,0)),(bR,bh 5 (xs++zs) (sp.drop zs.length))]) (by have:=nJl xs zs sp zM;show[(bI,_),(bR,Obj.cells (setCells (ub xs++sp).toArray xs.length (ub zs)) _ _)]=_;rw[this,cF];first|done|rfl) ?_;exact zo (Hz:=[(bI,.cells (cA (bA bR xs.length 64) 0) t (0,0)),(bR,bh 5 xs sp)]) (H0:=[]) () (.inl rfl) results182 (RS.t rfl (RS.t rfl RS.n)) A0 Rc rfl Re
theorem n3o(bI bR n:Nat)(lr:Int)(t:Nat)(fr:Nat×Nat)(hn:n<=64)(w:World)(mq:w.heap[bI]? =some (.cells (cA (bA bR n 64) lr) t fr)):Calls prog 247 #[ptr bI 0] w (av w (bA bR n 64)):=by
 have tM:¬Gh.no.X bI:=λh=>h;refine enter (vs:=[_]) func247 rfl ntmps247 rfl ?_;refine B 6 ?_;refine ng (E':=[(0,_),(2,_)]) ⟨rfl,rfl,trivial⟩ ?_;refine nl 8 [.det [] _,.det [0] _,.det [1] _,.det [2] _,.det [] _,.det [4] _,.det [5] _,.det [6] _] zT (xc zO (xc EH (xc (by exact λab=>X.val rfl rfl (ak underlying281 rfl sizeOf64 rfl) (λ_ _=>rfl)) (xc zue (xc zO (xc EH (xc (by exact λab=>X.val rfl rfl (ak underlying281 rfl sizeOf3 rfl) (λ_ _=>rfl)) (xc zwe (xn))))))))) zT zT zT (λab=>?_);refine rv rfl rfl rfl (il (l:=0) (h:=n) (off':=0) underlying64 sizeOf5 rfl ⟨_,_,rfl,rfl⟩ rfl zM zM (by rw[if_neg zM])) ?_;refine B 4 ?_;refine ax results247 rfl A0 ?_;rfl
theorem nvk(bI t:Nat)(f:Nat->Int)(b3 t3:Nat)(tT:Nat×Nat)(hf:jh f)(w:World)(hb:w.heap[bI]? =some (.cells (cA (.slice none 0 0) 0) t (0,0)))(aC:w.heap[b3]? =some (.cells (dg f) t3 tT))(dc:b3≠bI):Calls prog 182 #[ptr bI 0,.slice (some ⟨b3,0,none⟩) 32 32] w (rP w [bI] (λ_:Nat=>.tuple #[.int .i64 32,.nilIface]) (λbR=>[(bI,.cells (cA (bA bR 32 64) 0) t (0,0)),(bR,bh 5 (dn f) (rf 32))]) (λ_=>True)):=by
 have h:=nrk bI 0 t (dn f) b3 0 32 (by rw[nO];decide) (by rw[nO];decide) w hb (cG.dg aC hf) dc;simp only[nO]at h;exact h
theorem n8n(bI t:Nat)(f:Nat->Int)(hf:jh f)(w:World)(hb:w.heap[bI]? =some (.cells (cA (.slice none 0 0) 0) t (0,0))):Calls prog 181 #[ptr bI 0,.agg (dg f)] w (rP w [bI] (λ_:Nat=>ptr bI 0) (λbR=>[(bI,.cells (cA (bA bR 32 64) 0) t (0,0)),(bR,bh 5 (dn f) (rf 32))]) (λ_=>True)):=by
 have jH:=(aM.1 hb).1;refine nN (vs:=[_,_]) (Gh.lent (λk=>k∈keys [(bI,.cells (cA (.slice none 0 0) 0) t (0,0))])) [(bI,.cells (cA (.slice none 0 0) 0) t (0,0))] func181 rfl ntmps181 rfl (Ra (gW.mem ⟨hb,trivial⟩) (Rb _)) ?_;refine B 2 ?_;refine yX ?_;intro b3 w3 aC ay cS bV cL;refine ZF ?_;refine nl 4 [.det [] _,.det [0] _,.det [1] _,.det [] _] zT (xc zO (xc EH (xc (by exact λab=>X.val rfl rfl (ak underlying283 rfl sizeOf281 rfl) (λ_ _=>rfl)) (xc (by exact λab=>X.val rfl rfl (kT (h:=32) underlying61 sizeOf5 rfl rfl zM) (λ_ _=>rfl)) (xn))))) zT zT zT (λab=>?_);refine Rh (Hz:=[(bI,.cells (cA (.slice none 0 0) 0) t (0,0))]) (H0:=[]) (first:=[]) (cap:=[]) (v:=λ_:Nat=>.tuple #[.int .i64 32,.nilIface]) (Hn:=λbR=>[(bI,.cells (cA (bA bR 32 64) 0) t (0,0)),(bR,bh 5 (dn f) (rf 32))]) (Φ:=λ_=>True) rfl rfl call182 rfl rfl rfl ⟨.inl (by simp[Gh.lent,keys]),trivial⟩ (λW hS=>nvk bI t f b3 _ _ hf W (hS.own _ A0) (hS.old A0 aC ay (by simp[bE]<;>omega)) zM) ?_;rintro bR-rh;have Ri:bR=bI\/w.heap.size<=bR:=by
  rcases rh (bR,_) A1 with h|h
  ·left;simpa[keys]using h
  right;exact h.1.2.1
 refine B 9 ?_;exact zo (Hz:=[(bI,.cells (cA (.slice none 0 0) 0) t (0,0))]) (H0:=[]) bR (.inl rfl) results181 (RS.t rfl RS.n) A1 Rc rfl Re
theorem ndl(hZ:FxOk Z)(bI bR t:Nat)(s:ByteArray)(hs0:s.size<1000)(xs:List UInt8)(cb:xs.length<=64)(w:World)(hb:w.heap[bI]? =some (.cells (cA (bA bR xs.length 64) 0) t (0,0)))(hR:cG w bR 0 xs)(hg:Glb w):Calls prog 183 #[ptr bI 0,.string s] w (av w (.agg (dg (Z.tg s xs)))):=by
 have jH:=(aM.1 hb).1;have hRl:=hR.lt;have eC:=hg.lt;obtain⟨df,jk⟩:∃df,Z.tg s xs=df:=⟨_,rfl⟩;refine enter (vs:=[_,_]) func183 rfl ntmps183 rfl ?_;refine B 2 ?_;refine aU zeroValue61 rfl rfl ?_;refine yW ?_;intro b4 dQ dV;refine B 8 ?_;refine call call247 rfl rfl rfl (λW hS=>n3o bI bR xs.length 0 t _ cb W (hS.old A0 hb zX rN)) ?_;refine call call108 rfl rfl rfl (λW hS=>by rw[<-jk];exact nJj hZ s hs0 xs zM bR 0 64 cb W (hR.old hS A0 zX rN) (hg.old hS A0 zU zP)) (v:=.agg (dg df)) ?_;refine aZ (i:=0) rfl sizeOf61 rfl rfl rfl rfl rfl rfl ?_;refine B 3 ?_;refine bJ (.inl rfl) results183 (RS.wA (i:=0) rfl isAgg61 sizeOf61 rfl (aV rfl) (RS.n)) A0 zS ?_;rw[jk];rfl
def km (s:ByteArray):List UInt8:=(V.list [.text s]).enc
theorem Z5(s:ByteArray)(h:s.size<128):(km s).length=4+s.size:=by
 have h1:num 1=[UInt8.ofNat 1]:=QP zQ;have h2:=QP h;have h3:s.data.toList.length=s.size:=Array.length_toList;simp[km,V.enc,V.encL,h1,h2,h3];omega
theorem zw(s:ByteArray)(h:s.size<128):(V.list [.text s]).fine:=by
 simp[V.fine,V.fineL,V.depthL,V.depth];omega
theorem nTo(s:ByteArray):(V.list [.text s]).depth<=16:=by simp[V.depth,V.depthL]
theorem KL(s:ByteArray)(N b t:Nat)(fr:Nat×Nat)(w:World)(hb:b<N)(h:w.heap[b]? =some (.cells #[.int .i64 2,.int .i64 0,.string s,.slice none 0 0] t fr)):ef N w (.list [.text s]) (vL (some ⟨b,0,none⟩) 1 1):=by
 simp only[ef,fb];exact⟨_,_,rfl,ao _,.inr ⟨b,_,t,fr,rfl,hb,h,ao 4,rfl,trivial⟩⟩
def zK:Array Value:=cf 32 (λ_=>.int .u8 0)
def wK (Z:Fx) (f:Nat->Int) (s:ByteArray):Nat->Int:=Z.tg (⟨#[100,101,114,105,118,101]⟩:ByteArray) (dn f++km s)
def IC (Z:Fx) (f:Nat->Int) (s:ByteArray):Int:=Z.sc (⟨#[115,99,97,108,97,114]⟩:ByteArray) (dn (wK Z f s))
theorem njk(hZ:FxOk Z)(f:Nat->Int)(hf:jh f)(s:ByteArray)(Rk:s.size<=28)(w:World)(hg:Glb w):Calls prog 114 #[.agg (dg f),.string s,.slice none 0 0] w (av w (.agg (dg (wK Z f s)))):=by
 have jy:s.size<128:=by omega
 have hpl:=Z5 s jy;have eC:=hg.lt;obtain⟨df,jk⟩:∃df,Z.tg (⟨#[100,101,114,105,118,101]⟩:ByteArray) (dn f++km s)=df:=⟨_,rfl⟩;refine enter (vs:=[_,_,_]) func114 rfl ntmps114 rfl ?_;refine B 2 ?_;refine yX ?_;intro b3 w3 aC ay cS bV cL;refine aU zeroValue61 rfl rfl ?_;refine yW ?_;intro b6 gS lB;refine B 5 ?_;refine Wf ?_;refine Z6 ?_;refine yV ?_;intro ei Z7 Z8 Z9 agZ iy Fe;refine B 12 ?_;refine CJ.loop (α:=Unit) (λp=>[(3,ptr b3 0),(6,ptr b6 0),(7,.slice (some ⟨ei,0,none⟩) 1 1),(17,.int .i64 0),(18,.int .i64 0)]) (λp=>[(b6,.cells (zK) 61 (0,0))]) (λp=>[Z7,w3,w]) (λp=>Gh.no) (λp=>True) (λp=>0) () trivial zR rfl rfl z1 ?_;rintro⟨⟩ -;refine KM ?_;refine B 12 ?_;refine Wf ?_;refine n7i (ys:=km s) call107 rfl rfl rfl (λW hS=>nQe [.text s] (zw s jy) (nTo s) (by have:=Z5 s jy;unfold km at this;omega) Z7.heap.size (some ⟨ei,0,none⟩) 1 W (hS.links _ A0).size (KL s _ ei _ _ W zM (hS.old A0 Z8 Z9 rN))) ?_;intro gF c31 s31 jK KN ag0 ag1;replace jK:=yb jK;replace KN:=ye KN;refine B 9 ?_;refine aU zeroValue283 rfl rfl ?_;refine yW ?_;intro kV Rl Rm;refine B 4 ?_;refine rv rfl rfl rfl (af isAgg61 sizeOf61 rfl A1 aC ay zL rfl) ?_;refine Rh (Hz:=[(kV,.cells (cA (.slice none 0 0) 0) 283 (0,0))]) (H0:=[(gF,bh 5 (km s) s31),(b6,.cells (zK) 61 (0,0))]) (first:=[]) (cap:=[]) (v:=λ_:Nat=>ptr kV 0) (Hn:=λbR=>[(kV,.cells (cA (bA bR 32 64) 0) 283 (0,0)),(bR,bh 5 (dn f) (rf 32))]) (Φ:=λ_=>True) rfl rfl call181 rfl rfl rfl ⟨.inr ⟨by omega,by omega,by omega,trivial⟩,trivial⟩ (λW hS=>n8n kV 283 f hf W (hS.own _ A0)) ?_
 rintro bR-rh;have Ri:bR=kV\/(Z7.heap.size<=bR/\w3.heap.size<=bR/\w.heap.size<=bR/\gF≠bR/\b6≠bR):=by
  rcases rh (bR,_) A1 with h|h
  ·left;simpa[keys]using h
  right;obtain⟨⟨h1,h2,h3,_⟩,h4⟩:=h;simp only[bE]at h4;exact⟨h1,h2,h3,h4.2.1,h4.2.2.1⟩
 refine B 3 ?_;refine nRi (i:=0) (j:=1) rfl rfl zQ λZ4=>?_;refine nRi (i:=1) (j:=2) rfl rfl zQ λag2=>?_;refine Rh (Hz:=[(kV,.cells (cA (bA bR (dn f).length 64) 0) 283 (0,0)),(bR,bh 5 (dn f) (rf 32))]) (H0:=[(gF,bh 5 (km s) s31),(b6,.cells (zK) 61 (0,0))]) (first:=[]) (cap:=[]) (v:=λ_:Unit=>.tuple #[.int .i64 ((km s).length:Int),.nilIface]) (Hn:=λ_=>[(kV,.cells (cA (bA bR (dn f++km s).length 64) 0) 283 (0,0)),(bR,bh 5 (dn f++km s) ((rf 32).drop (km s).length))]) (Φ:=λ_=>True) (by rw[nO]) rfl call182 rfl rfl rfl ⟨.inr ⟨by omega,by omega,by omega,trivial⟩,.inr ⟨by omega,by omega,by omega,trivial⟩,trivial⟩ (λW hS=>nGk kV bR 283 (dn f) (rf 32) (km s) gF 0 c31 (by rw[nO,Z5 s jy];omega) (by rw[Z1,nO]) (by rw[nO];decide) W (hS.own _ A0) (hS.own _ A1) Z4 (cG.row (hS.own _ A2)) zM zM) ?_;rintro _-mM;refine B 4 ?_;refine call call183 rfl rfl rfl (λW hS=>by rw[<-jk];exact ndl hZ kV bR 283 (⟨#[100,101,114,105,118,101]⟩:ByteArray) zQ (dn f++km s) (by rw[cF,nO];omega) W (hS.own _ A0) (cG.row (hS.own _ A1)) (hg.old hS A2 zU (by simp[Over]<;>omega))) (v:=.agg (dg df)) ?_;refine aZ (i:=3) rfl sizeOf61 rfl rfl rfl rfl rfl rfl ?_;refine B 3 ?_;refine bJ (.inl rfl) results114 (RS.wA (i:=3) rfl isAgg61 sizeOf61 rfl (aV rfl) (RS.n)) A2 zS ?_
 rw[show wK Z f s=df from jk];rfl
theorem zx(hZ:FxOk Z)(s:ByteArray)(hs0:s.size<1000)(f:Nat->Int)(hf:jh f)(b t:Nat)(fr:Nat×Nat)(w:World)(h:w.heap[b]? =some (.cells (dg f) t fr))(hg:Glb w):Calls prog 110 #[.string s,.slice (some ⟨b,0,none⟩) 32 32] w (av w (.int .i64 (Z.sc s (dn f)))):=by
 have:=Ix hZ s hs0 (dn f) (by rw[nO];decide) b 0 32 (by rw[nO];decide) w (cG.dg h hf) hg;rwa[nO]at this
theorem Ff(hZ:FxOk Z)(f:Nat->Int)(s:ByteArray):jh (wK Z f s):=hZ.byt _ _
theorem nAk(hZ:FxOk Z)(f:Nat->Int)(hf:jh f)(s:ByteArray)(Rk:s.size<=28)(w:World)(hg:Glb w):Calls prog 70 #[.agg (dg f),.string s] w (av w (.int .i64 (IC Z f s))):=by
 have eC:=hg.lt;have hB:=Ff hZ f s;obtain⟨df,jk⟩:∃df,wK Z f s=df:=⟨_,rfl⟩;rw[jk]at hB;refine enter (vs:=[_,_]) func70 rfl ntmps70 rfl ?_;refine B 2 ?_;refine yX ?_;intro b2 w2 aH aF dS cE cX;refine B 5 ?_;refine rv rfl rfl rfl (af isAgg61 sizeOf61 rfl A0 aH aF trivial rfl) ?_;refine B 1 ?_;refine call call114 rfl rfl rfl (λW hS=>by rw[<-jk];exact njk hZ f hf s Rk W (hg.old hS A1 zU zP)) (v:=.agg (dg df)) ?_;refine aU zeroValue61 rfl rfl ?_;refine yW ?_;intro b5 gQ gR;refine aZ (i:=0) rfl sizeOf61 rfl rfl rfl rfl rfl rfl ?_;refine B 4 ?_;refine rv rfl rfl rfl (kT (h:=32) underlying61 sizeOf5 rfl rfl zM) ?_;refine call call110 rfl rfl rfl (λW hS=>zx hZ (⟨#[115,99,97,108,97,114]⟩:ByteArray) zQ df hB b5 _ _ W (hS.own _ A0) (hg.old hS A1 zU zP)) ?_;refine B 4 ?_;refine bJ (.inl rfl) results70 (RS.t rfl (RS.n)) A1 zS ?_;unfold IC;rw[jk];rfl
theorem nmk(hZ:FxOk Z)(f:Nat->Int)(hf:jh f)(w:World)(hg:Glb w):Calls prog 30 #[.agg (dg f)] w (av w (.int .i64 (IC Z f (⟨#[108,105,110,107]⟩:ByteArray)))):=by
 have eC:=hg.lt;refine enter (vs:=[_]) func30 rfl ntmps30 rfl ?_;refine B 2 ?_;refine yX ?_;intro b1 w1 aR aY gA eK iH;refine B 5 ?_;refine rv rfl rfl rfl (af isAgg61 sizeOf61 rfl A0 aR aY trivial rfl) ?_;refine call call70 rfl rfl rfl (λW hS=>nAk hZ f hf (⟨#[108,105,110,107]⟩:ByteArray) zQ W (hg.old hS A1 zU zP)) ?_;refine B 4 ?_;refine ax results30 rfl A1 ?_;rfl
structure Lk where
 fo:Int
 by_:Int
 pub:Int
 ver:Int
 exp:Int
 resh:Bool
 par:Nat->Int
 sr:Int
 ss:Int
def lkC (l:Lk):Array Value:=#[.int .i64 l.fo,.int .i64 l.by_,.int .i64 l.pub,.int .i64 l.ver,.int .i64 l.exp,.bool l.resh,.int .u8 (l.par 0),.int .u8 (l.par 1),.int .u8 (l.par 2),.int .u8 (l.par 3),.int .u8 (l.par 4),.int .u8 (l.par 5),.int .u8 (l.par 6),.int .u8 (l.par 7),.int .u8 (l.par 8),.int .u8 (l.par 9),.int .u8 (l.par 10),.int .u8 (l.par 11),.int .u8 (l.par 12),.int .u8 (l.par 13),.int .u8 (l.par 14),.int .u8 (l.par 15),.int .u8 (l.par 16),.int .u8 (l.par 17),.int .u8 (l.par 18),.int .u8 (l.par 19),.int .u8 (l.par 20),.int .u8 (l.par 21),.int .u8 (l.par 22),.int .u8 (l.par 23),.int .u8 (l.par 24),.int .u8 (l.par 25),.int .u8 (l.par 26),.int .u8 (l.par 27),.int .u8 (l.par 28),.int .u8 (l.par 29),.int .u8 (l.par 30),.int .u8 (l.par 31),.int .i64 l.sr,.int .i64 l.ss]
abbrev fY (n:Int):Prop:= -9223372036854775808<=n/\n<=9223372036854775807
structure cT (l:Lk):Prop where
 fo:fY l.fo
 by_:fY l.by_
 pub:fY l.pub
 ver:fY l.ver
 exp:fY l.exp
 par:jh l.par
 sr:fY l.sr
 ss:fY l.ss
def KO:V->List Value
 | .int n=>[.int .i64 1,.int .i64 n,.string ⟨#[]⟩,.slice none 0 0]
 | .text s=>[.int .i64 2,.int .i64 0,.string s,.slice none 0 0]
 | .list _=>[]
def oU:V->Bool
 | .list _=>false
 |_=>true
def nF (l:List V):List Value:=l.flatMap KO
theorem nAg(x:V)(h:oU x=true):(KO x).length=4:=by cases x<;>simp_all[oU,KO]
theorem Rn(l:List V)(h:l.all oU=true):(nF l).length=l.length*4:=by
 induction l with
 |nil=>rfl
 |cons x l ih=>
  simp only[List.all_cons,gb]at h;simp only[nF,Iy,cF,dW]at *;rw[nAg x h.1,ih h.2];omega
theorem zy(N:Nat)(w:World):∀(l:List V),l.all oU=true->∀(pre sp:List Value),fb N w (pre++(nF l++sp)).toArray pre.length l
 | [],_,_,_=>by simp only[fb]
 |x::l,h,pre,sp=>by
  simp only[List.all_cons,gb]at h;have ih:=zy N w l h.2 (pre++KO x) sp;have e:pre++KO x++(nF l++sp)=pre++(nF (x::l)++sp):=by simp[nF]
  rw[e,cF,nAg x h.1]at ih;have hc:cut (pre++(nF (x::l)++sp)).toArray pre.length 4=(KO x).toArray:=by
   unfold cut;simp only[nF,Iy,i7];rw[List.drop_left' rfl,<-nAg x h.1,Ro rfl]
  simp only[fb];refine⟨?_,?_,ih⟩
  ·simp only[rH,cF,Rn (x::l) (by simp[h.1,h.2]),dW];omega
  rw[hc];cases x with
  |int n=>simp only[ef];rfl
  |text s=>simp only[ef];rfl
  |list l'=>simp[oU]at h
theorem Rp{t cap:Nat}{w:World}{l:List V}(hl:l.all oU=true)(hb:b<N)(hc:l.length<=cap)(h:w.heap[b]? =some (.cells (nF l++sp).toArray t fr)):ef N w (.list l) (vL (some ⟨b,0,none⟩) l.length cap):=by
 simp only[ef];exact⟨_,_,rfl,hc,.inr ⟨b,_,t,fr,rfl,hb,h,by have:=zy N w l hl [] sp;simpa using this⟩⟩
theorem ID(x:V)(hf:oU x=true)(h:x.fine):x.enc.length<=1000000020:=by
 cases x with
 |int n=>
  simp only[V.fine]at h;have:=Dt (y4 n h.1 h.2);simp only[V.enc,dW];omega
 |text s=>
  simp only[V.fine]at h;have:=Dt (u:=s.size) zM;have e:s.data.toList.length=s.size:=Array.length_toList;simp only[V.enc,dW,cF,e];omega
 |list l=>simp[oU]at hf
theorem Wg(l:List V)(hf:l.all oU=true)(h:V.fineL l):(V.encL l).length<=l.length*1000000020/\V.depthL l=0:=by
 induction l with
 |nil=>simp[V.encL,V.depthL]
 |cons x l ih=>
  simp only[List.all_cons,gb]at hf;simp only[V.fineL]at h;obtain⟨h1,h2⟩:=ih hf.2 h.2;have h3:=ID x hf.1 h.1;simp only[V.encL,V.depthL,cF,dW,h2];refine⟨by omega,?_⟩;cases x with
  |int n=>simp[V.depth]
  |text s=>simp[V.depth]
  |list l'=>simp[oU]at hf
theorem n9g(l:List V)(hf:l.all oU=true)(h:V.fineL l)(hl:l.length<=100):(V.list l).fine/\(V.list l).depth<=16/\(V.list l).enc.length<=800000000000:=by
 obtain⟨h1,h2⟩:=Wg l hf h;have h3:=Dt (u:=l.length) zM;simp only[V.fine,V.depth,V.enc,dW,cF,h2];exact⟨⟨by omega,by omega,h⟩,by omega,by omega⟩
abbrev dT (f:Nat->Int):ByteArray:=strOfNums (qY f)
theorem nqj(f:Nat->Int):(dT f).size=32:=by rw[strOfNums_size];simp[qY]
theorem KP{src dst t:Nat}{f:Nat->Int}(hs:C.P.underlying src=some (.slice e))(he:C.P.underlying e=some (.int .u8))(hd:C.P.underlying dst=some .string)(hx:ev E x=some (.slice (some ⟨b,0,none⟩) 32 32))(hm:w1∈L)(hb:w1.heap[b]? =some (.cells (dg f) t fr))(hG:¬G.X b)(hO:bE H b):RV C G L H E (.convert src dst x) (.string (dT f)):=λd ty pos aD g a W hF hS=>by
 have hW:=hS.old hm hb hG hO;have hr:=run_convert_bytes_arg (P:=C.P) W src e hs he b 0 32 32 (qY f) (by simp[qY]) (λi hi=>by
  rw[Dz hW,i6,pC f i hi];simp[qY,List.getD,List.getElem?_range hi]) dst hd
 simp[execOp,hF.ev hx,hr]
def KQ (l:Lk) (r:Int):List V:=[.int l.fo,.int l.by_,.int l.pub,.int l.ver,.int l.exp,.int r,.text (dT l.par)]
def cV (l:Lk):List V:=KQ l (if l.resh then 1 else 0)
theorem nej(l:Lk):(cV l).all oU=true:=rfl
theorem Fg(l:Lk)(h:cT l):V.fineL (cV l):=by
 simp only[cV,KQ,V.fineL,V.fine,nqj];exact⟨h.fo,h.by_,h.pub,h.ver,h.exp,by split<;>decide,by decide,trivial⟩
def IE (l:Lk):List V:=cV l++[.int l.sr,.int l.ss]
theorem zz(l:Lk)(h:cT l):V.fineL (IE l):=by
 simp only[IE,cV,KQ,eY,dX,V.fineL,V.fine,nqj];exact⟨h.fo,h.by_,h.pub,h.ver,h.exp,by split<;>decide,by decide,h.sr,h.ss,trivial⟩
theorem nM(n:Int)(w:World):Calls prog 55 #[.int .i64 n] w (av w (vI n)):=by
 refine enter (vs:=[_]) func55 rfl ntmps55 rfl ?_;refine B 2 ?_;refine y9 ?_;refine yW ?_;intro b2 cE cX;refine B 5 ?_;refine Rq ?_;refine bJ (.inl rfl) results55 (RS.wA (i:=0) rfl isAgg149 sizeOf149 rfl (aV rfl) (RS.n)) A0 zS ?_;rfl
theorem Wh(f:Nat->Int)(w:World):Calls prog 71 #[.agg (dg f)] w (av w (vT (dT f))):=by
 refine enter (vs:=[_]) func71 rfl ntmps71 rfl ?_;refine B 2 ?_;refine yX ?_;intro b1 w1 aR aY gA eK iH;refine y9 ?_;refine yW ?_;intro b2 cE cX;refine B 4 ?_;refine QH ?_;refine rv rfl rfl rfl (KP underlying64 underlying5 underlying9 rfl A0 aR aY zL) ?_;refine Rq ?_;refine bJ (.inl rfl) results71 (RS.wA (i:=0) rfl isAgg149 sizeOf149 rfl (aV rfl) (RS.n)) A1 zS ?_;rfl
theorem nzf(l:Lk)(w:World):Calls prog 54 #[.agg (lkC l)] w (cu w (λb:Nat=>.slice (some ⟨b,0,none⟩) 7 7) (λb w1=>w.heap.size<=b/\w1.heap[b]? =some (.cells (nF (cV l)).toArray 149 (0,0)))):=by
 refine enter (vs:=[_]) func54 rfl ntmps54 rfl ?_;refine B 2 ?_;refine yX ?_;intro b1 w1 aR aY gA eK iH;refine B 16 ?_;refine aK ?_ ?_
 ·intro aj;refine B 5 ?_;refine zlf ?_;refine nl 25 [.det [] _,.det [0] _,.det [1] _,.det [2] _,.det [] _,.det [4] _,.det [5] _,.det [6] _,.det [] _,.det [8] _,.det [9] _,.det [10] _,.det [] _,.det [12] _,.det [13] _,.det [14] _,.det [] _,.det [16] _,.det [17] _,.det [18] _,.det [] _,.det [20] _,.det [] _,.det [22] _,.det [23] _] zT (xc qq (xc rQ (xc DA (xc xU (xc qq (xc rQ (xc DA (xc xU (xc qq (xc rQ (xc DA (xc xU (xc qq (xc rQ (xc DA (xc xU (xc qq (xc rQ (xc DA (xc xU (xc zO (xc xU (xc qq (xc zyc (xc zge (xn)))))))))))))))))))))))))) zT zT zT (λab=>?_);refine call call71 rfl rfl rfl (λW hS=>Wh _ W) ?_;refine Z6 ?_;refine yV ?_;intro Q5 w33 KR KS aag KT aah;refine B 4 ?_;exact bH (.inl rfl) results54 (RS.t rfl RS.n) (λW hS=>⟨Q5,rfl,hS.base A2 trivial,by omega,by rw[show cV l=KQ l 1 from by unfold cV;rw[if_pos aj]];exact hS.old A0 KR KS trivial⟩)
 intro aj;refine B 3 ?_;refine zlf ?_;refine nl 25 [.det [] _,.det [0] _,.det [1] _,.det [2] _,.det [] _,.det [4] _,.det [5] _,.det [6] _,.det [] _,.det [8] _,.det [9] _,.det [10] _,.det [] _,.det [12] _,.det [13] _,.det [14] _,.det [] _,.det [16] _,.det [17] _,.det [18] _,.det [] _,.det [20] _,.det [] _,.det [22] _,.det [23] _] zT (xc qq (xc rQ (xc DA (xc xU (xc qq (xc rQ (xc DA (xc xU (xc qq (xc rQ (xc DA (xc xU (xc qq (xc rQ (xc DA (xc xU (xc qq (xc rQ (xc DA (xc xU (xc zO (xc xU (xc qq (xc zyc (xc zge (xn)))))))))))))))))))))))))) zT zT zT (λab=>?_);refine call call71 rfl rfl rfl (λW hS=>Wh _ W) ?_;refine Z6 ?_;refine yV ?_;intro Q5 w33 KR KS aag KT aah;refine B 4 ?_;exact bH (.inl rfl) results54 (RS.t rfl RS.n) (λW hS=>⟨Q5,rfl,hS.base A2 trivial,by omega,by rw[show cV l=KQ l 0 from by unfold cV;rw[if_neg (by rw[aj];decide)]];exact hS.old A0 KR KS trivial⟩)
theorem Wj(hZ:FxOk Z)(s:ByteArray)(hs0:s.size<1000)(l:List V)(bZ:(V.list l).fine)(hd:(V.list l).depth<=16)(gU:(V.list l).enc.length<=800000000000)(N bl lc:Nat)(w:World)(hN:N<=w.heap.size)(tb:ef N w (.list l) (vL (some ⟨bl,0,none⟩) l.length lc))(hg:Glb w):Calls prog 53 #[.string s,.slice (some ⟨bl,0,none⟩) l.length lc] w (av w (.agg (dg (Z.tg s (V.list l).enc)))):=by
 have eC:=hg.lt;obtain⟨df,jk⟩:∃df,Z.tg s (V.list l).enc=df:=⟨_,rfl⟩;refine enter (vs:=[_,_]) func53 rfl ntmps53 rfl ?_;refine B 2 ?_;refine rG ?_;refine yW ?_;intro b4 dQ dV;refine B 5 ?_;refine Wf ?_;refine zJg ?_;intro kW wC xS rR rS aai ug;replace rR:=yb rR;replace rS:=ye rS;refine B 11 ?_;refine zvg ?_;refine B 3 ?_;refine bJ (.inl rfl) results53 (RS.wA (i:=1) rfl isAgg34 sizeOf34 rfl (aV rfl) (RS.n)) A0 zS ?_;rw[jk];rfl
def fe (Z:Fx) (l:Lk):Nat->Int:=Z.tg (⟨#[108,105,110,107,32,115,105,103,110]⟩:ByteArray) (V.list (cV l)).enc
def iL (Z:Fx) (l:Lk):Nat->Int:=Z.tg (⟨#[108,105,110,107]⟩:ByteArray) (V.list (IE l)).enc
theorem Wl(hZ:FxOk Z)(l:Lk)(hl:cT l)(w:World)(hg:Glb w):Calls prog 28 #[.agg (lkC l)] w (cu w (λb:Nat=>.slice (some ⟨b,0,none⟩) 32 32) (λb w1=>w.heap.size<=b/\w1.heap[b]? =some (.cells (dg (fe Z l)) 34 (0,0)))):=by
 have eC:=hg.lt;obtain⟨df,jk⟩:∃df,fe Z l=df:=⟨_,rfl⟩;have kn:=n9g (cV l) (nej l) (Fg l hl) (by simp[cV,KQ]);refine enter (vs:=[_]) func28 rfl ntmps28 rfl ?_;refine B 2 ?_;refine yX ?_;intro b1 w1 aR aY gA eK iH;refine B 5 ?_;refine rv rfl rfl rfl (af isAgg84 sizeOf84 rfl A0 aR aY trivial rfl) ?_;refine nu (Φ:=λ(W:World) (b:Nat) (v1:World)=>W.heap.size<=b/\v1.heap[b]? =some (.cells (nF (cV l)).toArray 149 (0,0))) call54 rfl rfl rfl (λW hS=>nzf l W) ?_;rintro W5 b5 w5 DB IF ⟨qt,eg⟩;have mv:=(aM.1 eg).1;have DC:=DB.sizes;replace DC:=yb DC;have Rr:=IF.size;refine call call53 rfl rfl rfl (λW hS=>by rw[<-jk];exact Wj hZ (⟨#[108,105,110,107,32,115,105,103,110]⟩:ByteArray) zQ (cV l) kn.1 kn.2.1 kn.2.2 w5.heap.size b5 7 W (hS.links _ A0).size (Rp (sp:=[]) (nej l) mv (ao 7) (by rw[dE];exact hS.old A0 eg zX trivial)) (hg.old hS A2 zU zP)) (v:=.agg (dg df)) ?_;refine rG ?_;refine yW ?_;intro b3 bV cL;refine OH ?_;refine B 4 ?_;refine QH ?_;refine B 4 ?_;exact bH (.inl rfl) results28 (RS.t rfl RS.n) (λW hS=>⟨b3,rfl,hS.base A2 zS,by omega,by rw[jk];exact hS.own _ A0⟩)
theorem Fh:prog.info? 149=some Tryz.t149:=by kernel_rfl
theorem njo(l:List V):∀u∈nF l,u.oneCell'=true:=by
 intro u hu;obtain⟨x,_,hx⟩:=OP.1 hu;cases x<;>simp only[KO,cP,fG,or_false]at hx
 ·rcases hx with rfl|rfl|rfl|rfl<;>rfl
 rcases hx with rfl|rfl|rfl|rfl<;>rfl
theorem aaj{e' c t:Nat}{l:List V}(hU:C.P.underlying tx=some (.slice e'))(hf:l.all oU=true)(hi:H[i]? =some (b,.cells (nF l++sp).toArray t fr)):jJ C G L H 4 tx (.slice (some ⟨b,0,none⟩) l.length c) l.length (nF l):=
 jJ.sl hU (Rd.own hi (by simp only[rH,cF,Rn l hf];omega) (by rw[Rs,<-Rn l hf,Ro rfl])) (Rn l hf) (njo l)
abbrev KU (l:List V) (sp:List Value) (t:Nat):Obj:=.cells (nF l++sp).toArray t (0,0)
theorem n4n(a b:List V):nF (a++b)=nF a++nF b:=by simp[nF]
theorem nAi(l:Lk)(w:World):Calls prog 54 #[.agg (lkC l)] w (cu w (λb:Nat=>.slice (some ⟨b,0,none⟩) 7 7) (λb w1=>w.heap.size<=b/\True/\w1.heap[b]? =some (.cells (nF (cV l)++[]).toArray 149 (0,0)))):=
 (nzf l w).mono (by
  rintro e w' ⟨b,rfl,hb,h1,h2⟩;exact⟨b,rfl,hb,h1,trivial,by rw[dE];exact h2⟩)
theorem nmc(hZ:FxOk Z)(l:Lk)(hl:cT l)(w:World)(hg:Glb w):Calls prog 24 #[.agg (lkC l)] w (av w (.agg (dg (iL Z l)))):=by
 have eC:=hg.lt;obtain⟨df,jk⟩:∃df,iL Z l=df:=⟨_,rfl⟩;have kn:=n9g (IE l) rfl (zz l hl) (by simp[IE,cV,KQ]);refine enter (vs:=[_]) func24 rfl ntmps24 rfl ?_;refine B 2 ?_;refine yX ?_;intro b1 w1 aR aY gA eK iH;refine rG ?_;refine yW ?_;intro b2 cE cX;refine B 3 ?_;refine ng (E':=[(0,_),(1,_),(2,_)]) zR ?_;refine nJ 11 [1] [([],some (.agg (lkC l))),([0],none),([],some _),([2],some _),([3],some _),([4],some (.int .i64 l.sr)),([5],some _),([],some _),([7],some _),([8],some _),([9],some (.int .i64 l.ss))] (λcv L' H'=>match cv with| []=>L'=[w1,w]/\H'=[(b2,.cells zK 34 (0,0))]| [v1]=>∃(b4:Nat),v1= .slice (some ⟨b4,0,none⟩) 7 7/\L'=[w1,w]/\H'=[(b4,KU (cV l) [] 149),(b2,.cells zK 34 (0,0))]/\w1.heap.size<=b4/\w.heap.size<=b4/\b2≠b4|_=>False) zT ⟨rfl,rfl⟩ zT zT zT zT zT zT (pc zcl (pk (pc z3 (pc OQ (pc KI (pc zcl (pc (by exact λcv L' H' hd hP=>nf call55 rfl rfl (λW hS _=>nM _ W) (λ_=>rfl)) (pc z3 (pc OQ (pc KI (pc zcl (pn)))))))))))) ?_ ?_
 ·refine sc rfl rfl rfl ?_ ?_
  ·intro cv L' H' hl hP F Q' hk;obtain rfl:=ja hl;obtain⟨rfl,rfl⟩:=hP;refine VO (v:=λb:Nat=>.slice (some ⟨b,0,none⟩) 7 7) (bo:=λb:Nat=>(b,KU (cV l) [] 149)) (Φ:=λ_=>True) call54 rfl rfl rfl (λW hS=>nAi l W) ?_;intro b4 ha ho _;exact OJ.done (hk _ _ _ ⟨b4,rfl,rfl,rfl,ha.1,ha.2.1,ho.1⟩)
  exact sn
 intro cv L' H' hl hP;obtain⟨v1,rfl⟩:=dd hl;obtain⟨b4,rfl,rfl,rfl,dQ,KV,dV⟩:=hP;refine call call55 rfl rfl rfl (λW hS=>nM _ W) ?_;refine IG ?_;refine yW ?_;intro ei iy Fe;refine QC (i:=1) (m:=4) (ys:=nF (cV l)) (sp:=[]) (len:=7) (cap:=7) (news:=nF ([.int l.sr,.int l.ss]:List V)) (n:=2) rfl underlying146 Fh rfl rfl rfl rfl rfl rfl rfl (aaj (l:=[.int l.sr,.int l.ss]) (sp:=[]) (i:=0) underlying146 rfl rfl) (Rn _ (nej l)) rfl (ao _) ⟨by omega,by omega,trivial⟩ zQ zQ ?_;intro cq c16 s16 ff yC ag3;replace ff:=yb ff;refine OJ.reH (H':=[(ei,KU [.int l.sr,.int l.ss] [] 149),(cq,KU (IE l) s16 149),(b2,.cells zK 34 (0,0))]) (by simp only[KU,IE,n4n];rfl) ?_;refine call call53 rfl rfl rfl (λW hS=>by rw[<-jk];exact Wj hZ (⟨#[108,105,110,107]⟩:ByteArray) zQ (IE l) kn.1 kn.2.1 kn.2.2 W.heap.size cq c16 W (ao _) (Rp rfl (hS.lt _ A1) yC (hS.own _ A1)) (hg.old hS A1 zU zP)) (v:=.agg (dg df)) ?_;refine aZ (i:=2) rfl sizeOf34 rfl rfl rfl rfl rfl rfl ?_;refine B 3 ?_;refine bJ (.inl rfl) results24 (RS.wA (i:=2) rfl isAgg34 sizeOf34 rfl (aV rfl) (RS.n)) A1 zS ?_;rw[jk];rfl
theorem Wo(hZ:FxOk Z)(l:Lk)(hl:cT l)(w:World)(hg:Glb w):Calls prog 13 #[.agg (lkC l)] w (av w (.agg (dg (iL Z l)))):=by
 have eC:=hg.lt;obtain⟨df,jk⟩:∃df,iL Z l=df:=⟨_,rfl⟩;refine enter (vs:=[_]) func13 rfl ntmps13 rfl ?_;refine B 2 ?_;refine yX ?_;intro b1 w1 aR aY gA eK iH;refine rG ?_;refine yW ?_;intro b2 cE cX;refine B 4 ?_;refine rv rfl rfl rfl (af isAgg38 sizeOf38 rfl A0 aR aY zL rfl) ?_;refine rv rfl rfl rfl (bS underlying84 zeroValue84 (bC.c sizeOf38 (bC.n)) rfl rfl) ?_;refine call call24 rfl rfl rfl (λW hS=>by rw[<-jk];exact nmc hZ l hl W (hg.old hS A1 zU zP)) (v:=.agg (dg df)) ?_;refine OH ?_;refine B 3 ?_;refine bJ (.inl rfl) results13 (RS.wA (i:=0) rfl isAgg34 sizeOf34 rfl (aV rfl) (RS.n)) A1 zS ?_;rw[jk];rfl
structure Fa where
 lnk:Nat->Int
 com:Nat->Int
 by_:Int
 n:Int
 sr:Int
 ss:Int
def gY (f:Fa):Array Value:=#[.int .u8 (f.lnk 0),.int .u8 (f.lnk 1),.int .u8 (f.lnk 2),.int .u8 (f.lnk 3),.int .u8 (f.lnk 4),.int .u8 (f.lnk 5),.int .u8 (f.lnk 6),.int .u8 (f.lnk 7),.int .u8 (f.lnk 8),.int .u8 (f.lnk 9),.int .u8 (f.lnk 10),.int .u8 (f.lnk 11),.int .u8 (f.lnk 12),.int .u8 (f.lnk 13),.int .u8 (f.lnk 14),.int .u8 (f.lnk 15),.int .u8 (f.lnk 16),.int .u8 (f.lnk 17),.int .u8 (f.lnk 18),.int .u8 (f.lnk 19),.int .u8 (f.lnk 20),.int .u8 (f.lnk 21),.int .u8 (f.lnk 22),.int .u8 (f.lnk 23),.int .u8 (f.lnk 24),.int .u8 (f.lnk 25),.int .u8 (f.lnk 26),.int .u8 (f.lnk 27),.int .u8 (f.lnk 28),.int .u8 (f.lnk 29),.int .u8 (f.lnk 30),.int .u8 (f.lnk 31),.int .u8 (f.com 0),.int .u8 (f.com 1),.int .u8 (f.com 2),.int .u8 (f.com 3),.int .u8 (f.com 4),.int .u8 (f.com 5),.int .u8 (f.com 6),.int .u8 (f.com 7),.int .u8 (f.com 8),.int .u8 (f.com 9),.int .u8 (f.com 10),.int .u8 (f.com 11),.int .u8 (f.com 12),.int .u8 (f.com 13),.int .u8 (f.com 14),.int .u8 (f.com 15),.int .u8 (f.com 16),.int .u8 (f.com 17),.int .u8 (f.com 18),.int .u8 (f.com 19),.int .u8 (f.com 20),.int .u8 (f.com 21),.int .u8 (f.com 22),.int .u8 (f.com 23),.int .u8 (f.com 24),.int .u8 (f.com 25),.int .u8 (f.com 26),.int .u8 (f.com 27),.int .u8 (f.com 28),.int .u8 (f.com 29),.int .u8 (f.com 30),.int .u8 (f.com 31),.int .i64 f.by_,.int .i64 f.n,.int .i64 f.sr,.int .i64 f.ss]
def fV (f:Fa):List V:=[.text (dT f.lnk),.text (dT f.com),.int f.by_,.int f.n]
theorem Fi(f:Fa)(h1:fY f.by_)(h2:fY f.n):V.fineL (fV f):=by
 simp only[fV,V.fineL,V.fine,nqj];exact⟨by decide,by decide,h1,h2,trivial⟩
def rT (Z:Fx) (f:Fa):Nat->Int:=Z.tg (⟨#[102,97,99,116,111,114,32,115,105,103,110]⟩:ByteArray) (V.list (fV f)).enc
theorem nAd(hZ:FxOk Z)(f:Fa)(h1:fY f.by_)(h2:fY f.n)(w:World)(hg:Glb w):Calls prog 31 #[.agg (gY f)] w (cu w (λb:Nat=>.slice (some ⟨b,0,none⟩) 32 32) (λb w1=>w.heap.size<=b/\w1.heap[b]? =some (.cells (dg (rT Z f)) 34 (0,0)))):=by
 have eC:=hg.lt;obtain⟨df,jk⟩:∃df,rT Z f=df:=⟨_,rfl⟩;have kn:=n9g (fV f) rfl (Fi f h1 h2) (by simp[fV]);refine enter (vs:=[_]) func31 rfl ntmps31 rfl ?_;refine B 2 ?_;refine yX ?_;intro b1 w1 aR aY gA eK iH;refine B 4 ?_;refine ng (E':=[(0,_),(1,_),(2,_)]) zR ?_;refine KW 15 [12,14] [([],some _),([0],some (.agg (dg f.lnk))),([1],some _),([],some _),([3],some (.agg (dg f.com))),([4],some _),([],some _),([6],some (.int .i64 f.by_)),([7],some _),([],some _),([9],some (.int .i64 f.n)),([10],some _),([2,5,8,11],none),([12],some (.agg (dg df))),([],none)] [[],[]] (λcv L' H'=>match cv with| [none,none]=>L'=[w1,w]/\H'=[]| [none,some oA]=>∃(b3:Nat),oA=ptr b3 0/\L'=[w1,w]/\H'=[(b3,.cells zK 34 (0,0))]/\w1.heap.size<=b3/\w.heap.size<=b3| [some v12,none]=>∃(cq:Nat),v12= .slice (some ⟨cq,0,none⟩) 4 4/\L'=[w1,w]/\H'=[(cq,KU (fV f) [] 149)]/\w1.heap.size<=cq/\w.heap.size<=cq| [some v12,some oA]=>∃(cq:Nat) (b3:Nat),v12= .slice (some ⟨cq,0,none⟩) 4 4/\oA=ptr b3 0/\L'=[w1,w]/\H'=[(cq,KU (fV f) [] 149),(b3,.cells zK 34 (0,0))]/\w1.heap.size<=cq/\w.heap.size<=cq/\w1.heap.size<=b3/\w.heap.size<=b3|_=>False) zT ⟨rfl,rfl⟩ zT zT zT zT zT zT rfl (qc (by exact λcv L' H' _ _ hP=>X.val rfl rfl (ak underlying59 rfl sizeOf34 rfl) R2) (qc Wt (qc (by exact λcv L' H' _ _ hP=>nf call71 rfl rfl (λW hS _=>Wh _ W) (λ_=>rfl)) (qc (by exact λcv L' H' _ _ hP=>X.val rfl rfl (ak underlying59 rfl sizeOf34 rfl) R2) (qc Wt (qc (by exact λcv L' H' _ _ hP=>nf call71 rfl rfl (λW hS _=>Wh _ W) (λ_=>rfl)) (qc (by exact λcv L' H' _ _ hP=>X.val rfl rfl (ak underlying59 rfl sizeOf3 rfl) R2) (qc Wt (qc (by exact λcv L' H' _ _ hP=>nf call55 rfl rfl (λW hS _=>nM _ W) (λ_=>rfl)) (qc (by exact λcv L' H' _ _ hP=>X.val rfl rfl (ak underlying59 rfl sizeOf3 rfl) R2) (qc Wt (qc (by exact λcv L' H' _ _ hP=>nf call55 rfl rfl (λW hS _=>nM _ W) (λ_=>rfl)) (qk (qc (λcv L' H' hl hd hP=>by obtain⟨fN,kp,rfl⟩:=jj hl;(rcases fN with _|v12<;>rcases kp with _|oA<;>try exact False.elim hP);exact(absurd (show false=true from hd) zQ);exact(absurd (show false=true from hd) zQ);(obtain⟨cq,rfl,rfl,rfl,ff,wL⟩:=hP;exact nf call53 rfl rfl (λW hS _=>by rw[<-jk];exact Wj hZ (⟨#[102,97,99,116,111,114,32,115,105,103,110]⟩:ByteArray) zQ (fV f) kn.1 kn.2.1 kn.2.2 W.heap.size cq 4 W (ao _) (Rp (sp:=[]) rfl (hS.lt _ A0) (ao 4) (hS.own _ A0)) (hg.old hS A1 zU zP)) (λ_=>rfl));(obtain⟨cq,b3,rfl,rfl,rfl,rfl,ff,wL,bV,Rt⟩:=hP;exact nf call53 rfl rfl (λW hS _=>by rw[<-jk];exact Wj hZ (⟨#[102,97,99,116,111,114,32,115,105,103,110]⟩:ByteArray) zQ (fV f) kn.1 kn.2.1 kn.2.2 W.heap.size cq 4 W (ao _) (Rp (sp:=[]) rfl (hS.lt _ A0) (ao 4) (hS.own _ A0)) (hg.old hS A1 zU zP)) (λ_=>rfl))) (qk (qn)))))))))))))))) ?_ ?_
 ·refine nc rfl rfl rfl rfl ?_ ?_
  ·intro cv L' H' hl hr hP F Q' hk;obtain⟨fN,kp,rfl⟩:=jj hl;rcases fN with _|v12<;>rcases kp with _|oA
   ·obtain⟨rfl,rfl⟩:=hP;refine IG ?_;intro cq ha ho;exact OJ.done (hk _ _ _ ⟨cq,rfl,rfl,rfl,ha.1,ha.2.1⟩)
   ·obtain⟨b3,rfl,rfl,rfl,bV,Rt⟩:=hP;refine IG ?_;intro cq ha ho;exact OJ.done (hk _ _ _ ⟨cq,b3,rfl,rfl,rfl,rfl,ha.1,ha.2.1,bV,Rt⟩)
   ·exact aA
   exact aA
  refine nc rfl rfl rfl rfl ?_ ?_
  ·intro cv L' H' hl hr hP F Q' hk;obtain⟨fN,kp,rfl⟩:=jj hl;rcases fN with _|v12<;>rcases kp with _|oA
   ·obtain⟨rfl,rfl⟩:=hP;refine rG ?_;intro b3 ha ho;exact OJ.done (hk _ _ _ ⟨b3,rfl,rfl,rfl,ha.1,ha.2.1⟩)
   ·exact aA
   ·obtain⟨cq,rfl,rfl,rfl,ff,wL⟩:=hP;refine rG ?_;intro b3 ha ho;exact OJ.done (PJ.swp (hk _ _ _ ⟨cq,b3,rfl,rfl,rfl,rfl,ff,wL,ha.1,ha.2.1⟩))
   exact aA
  exact nn
 intro cv L' H' hl hr hP;obtain⟨fN,kp,rfl⟩:=jj hl;rcases fN with _|v12<;>rcases kp with _|oA
 ·exact aA
 ·exact aA
 ·exact aA
 obtain⟨cq,b3,rfl,rfl,rfl,rfl,ff,wL,bV,Rt⟩:=hP;refine aZ (i:=1) rfl sizeOf34 rfl rfl rfl rfl rfl rfl ?_;refine B 4 ?_;refine QH ?_;refine B 4 ?_;exact bH (.inl rfl) results31 (RS.t rfl RS.n) (λW hS=>⟨b3,rfl,hS.base A1 zS,by omega,by rw[jk];exact hS.own (b3,_) A1⟩)
theorem ui:Fj prog 2 34 (kZ 32 [.i]):=Fj.array underlying34 sizeOf5 rfl (wM.int underlying5 isAgg5)
theorem nQ:prog.eqGuardType prog.depth 34=false:=by kernel_rfl
def jl (f g:Nat->Int):Bool:=oB (dg f).toList (dg g).toList
def nB (l:Lk):Bool:=decide (0<=l.fo)&&decide (l.fo<16)&&decide (-1<=l.by_)&&decide (l.by_<512)&&decide (dG l.pub)&&decide (dG l.ver)&&decide (1<=l.exp)&&decide (l.exp<=1099511627776)&&(decide (l.by_= -1)||jl l.par (λ_=>0))
theorem Ru(a:Int):decide ((if dG a then(0:Int)else 40)=0)=decide (dG a):=by by_cases h:dG a<;>simp[h]
theorem nI(l:Lk)(w:World):Calls prog 26 #[.agg (lkC l)] w (av w (.bool (nB l))):=by
 refine enter (vs:=[_]) func26 rfl ntmps26 rfl ?_;refine B 2 ?_;refine yX ?_;intro b1 w1 aR aY gA eK iH;refine B 10 ?_;refine nh (t:=7) rfl (λaj=>?_) (λaj=>?_)
 ·replace aj:=ya aj;refine B 6 ?_;refine nh (t:=13) rfl (λaN=>?_) (λaN=>?_)
  ·replace aN:=ya aN;refine B 6 ?_;refine nh (t:=19) rfl (λcN=>?_) (λcN=>?_)
   ·replace cN:=ya cN;refine B 6 ?_;refine nh (t:=25) rfl (λgf=>?_) (λgf=>?_)
    ·replace gf:=ya gf;refine B 3 ?_;refine call call63 rfl rfl rfl (λW hS=>nL _ W) ?_;refine rq (.bool (decide (dG l.pub))) (dH rfl rfl) (vb (Ru _)) ?_;refine B 2 ?_;refine nh (t:=32) rfl (λgM=>?_) (λgM=>?_)
     ·replace gM:=ya gM;refine B 3 ?_;refine call call63 rfl rfl rfl (λW hS=>nL _ W) ?_;refine rq (.bool (decide (dG l.ver))) (dH rfl rfl) (vb (Ru _)) ?_;refine B 2 ?_;refine nh (t:=39) rfl (λjE=>?_) (λjE=>?_)
      ·replace jE:=ya jE;refine B 6 ?_;refine nh (t:=45) rfl (λjx=>?_) (λjx=>?_)
       ·replace jx:=ya jx;refine B 6 ?_;refine nh (t:=51) rfl (λtJ=>?_) (λtJ=>?_)
        ·replace tJ:=ya tJ;refine B 5 ?_;refine nh (t:=56) rfl (λqX=>?_) (λqX=>?_)
         ·replace qX:=ya qX;refine B 11 ?_;exact DD
         replace qX:=ya qX;refine B 2 ?_;refine rv rfl rfl rfl (ag isAgg34 sizeOf34 rfl A0 aR aY trivial (aV rfl)) ?_;refine B 1 ?_;refine rr (.bool (jl l.par (λ_=>0))) (gZ ui zQ nQ rfl rfl rfl) ?_;refine B 6 ?_;exact DD
        replace tJ:=ya tJ;refine B 16 ?_;exact DD
       replace jx:=ya jx;refine B 22 ?_;exact DD
      replace jE:=ya jE;refine B 28 ?_;exact DD
     replace gM:=ya gM;refine B 35 ?_;exact DD
    replace gf:=ya gf;refine B 42 ?_;exact DD
   replace cN:=ya cN;refine B 48 ?_;exact DD
  replace aN:=ya aN;refine B 54 ?_;exact DD
 replace aj:=ya aj;refine B 60 ?_;exact DD
theorem zA(hZ:FxOk Z)(x:Int)(f:Nat->Int)(hf:jh f)(b t:Nat)(fr:Nat×Nat)(w:World)(h:w.heap[b]? =some (.cells (dg f) t fr))(hg:Glb w):Calls prog 27 #[.int .i64 x,.slice (some ⟨b,0,none⟩) 32 32] w (av w (rO Z x (dn f))):=by
 have:=nfp hZ x (dn f) b 0 32 (by rw[nO];decide) w (cG.dg h hf) hg;rwa[nO]at this
theorem nfk(hZ:FxOk Z)(x:Int)(hx:jY x)(f:Nat->Int)(hf:jh f)(r s:Int)(hr:kY Z x (dn f)=r)(hs:oT Z x (dn f)=s)(b t:Nat)(fr:Nat×Nat)(w:World)(h:w.heap[b]? =some (.cells (dg f) t fr))(hg:Glb w):Calls prog 27 #[.int .i64 x,.slice (some ⟨b,0,none⟩) 32 32] w (av w (.tuple #[.agg #[.int .i64 r,.int .i64 s],.int .i64 0])):=by
 have:=zA hZ x f hf b t fr w h hg;unfold rO at this;rw[if_pos hx,hr,hs]at this;exact this
theorem njp(hZ:FxOk Z)(x:Int)(hx:¬jY x)(f:Nat->Int)(hf:jh f)(b t:Nat)(fr:Nat×Nat)(w:World)(h:w.heap[b]? =some (.cells (dg f) t fr))(hg:Glb w):Calls prog 27 #[.int .i64 x,.slice (some ⟨b,0,none⟩) 32 32] w (av w (.tuple #[.agg #[.int .i64 0,.int .i64 0],.int .i64 50])):=by
 have:=zA hZ x f hf b t fr w h hg;unfold rO at this;rw[if_neg hx]at this;exact this
theorem nfn(hZ:FxOk Z)(x:Int)(hx:jY x)(w:World):Calls prog 17 #[.int .i64 x] w (av w (lP ((Z.ge 4 x).1,0))):=by
 have h:=nNh x w;rw[E8 hZ,if_pos hx]at h;exact h
theorem nij(x:Int)(hx:¬jY x)(w:World):Calls prog 17 #[.int .i64 x] w (av w (lP (0,50))):=by
 have h:=nNh x w;unfold yL at h;rw[if_neg hx]at h;exact h
theorem Rv(hZ:FxOk Z)(l:Lk):jh (fe Z l):=hZ.byt _ _
theorem n0l(hZ:FxOk Z)(f:Fa):jh (rT Z f):=hZ.byt _ _
def kH:Lk:=⟨0,0,0,0,0,false,λ_=>0,0,0⟩
def xV (Z:Fx) (l:Lk) (x:Int):Value:=
 if nB l then if jY x then .tuple #[.agg (lkC {l with sr:=kY Z x (dn (fe Z l)),ss:=oT Z x (dn (fe Z l))}),.int .i64 0]else .tuple #[.agg (lkC kH),.int .i64 50]else .tuple #[.agg (lkC kH),.int .i64 400]
theorem Wv(hZ:FxOk Z)(l:Lk)(hl:cT l)(h1:l.sr=0)(h2:l.ss=0)(x:Int)(w:World)(hg:Glb w):Calls prog 15 #[.int .i64 l.fo,.int .i64 l.by_,.int .i64 l.pub,.int .i64 l.ver,.int .i64 l.exp,.bool l.resh,.agg (dg l.par),.int .i64 x] w (av w (xV Z l x)):=by
 have eC:=hg.lt;have hB:=Rv hZ l;obtain⟨mf,Fk⟩:∃mf,fe Z l=mf:=⟨_,rfl⟩;rw[Fk]at hB;obtain⟨r,hr⟩:∃r,kY Z x (dn mf)=r:=⟨_,rfl⟩;obtain⟨sg,oV⟩:∃sg,oT Z x (dn mf)=sg:=⟨_,rfl⟩;refine enter (vs:=[_,_,_,_,_,_,_,_]) func15 rfl ntmps15 rfl ?_;refine B 2 ?_;refine yX ?_;intro b14 w14 aao aap ag4 ag5 ag6;refine aU zeroValue38 rfl rfl ?_;refine yW ?_;intro cq ff aar;refine B 11 ?_;refine rv rfl rfl rfl (af isAgg34 sizeOf34 rfl A0 aao aap zL rfl) ?_;refine rq (.agg (lkC l)) (bS underlying38 zeroValue38 (bC.c sizeOf3 (bC.c sizeOf3 (bC.c sizeOf3 (bC.c sizeOf3 (bC.c sizeOf3 (bC.c sizeOf4 (bC.c sizeOf34 (bC.c sizeOf36 (bC.n))))))))) rfl rfl) (by unfold lkC;rw[h1,h2];rfl) ?_;refine zqf ?_;refine Rx ?_;refine yW ?_;intro b18 uc ER;refine IH ?_;refine B 6 ?_;refine call call26 rfl rfl rfl (λW hS=>nI l W) ?_;refine B 3 ?_;refine aK ?_ ?_
 ·intro aj;refine B 3 ?_;refine aZ (i:=1) rfl sizeOf38 rfl rfl rfl rfl rfl rfl ?_;refine B 5 ?_;refine bJ (.inl rfl) results15 (RS.wA (i:=1) rfl isAgg38 sizeOf38 rfl (aV rfl) (RS.t rfl (RS.n))) A1 zS ?_;unfold xV;rw[if_neg oC];rfl
 intro aj;refine B 6 ?_;refine nu (v:=λb:Nat=>.slice (some ⟨b,0,none⟩) 32 32) (Φ:=λ(W:World) (b:Nat) (v1:World)=>W.heap.size<=b/\v1.heap[b]? =some (.cells (dg mf) 34 (0,0))) call28 rfl rfl rfl (λW hS=>by rw[<-Fk];exact Wl hZ l hl W (hg.old hS A1 zU zP)) ?_;rintro W36 b36 w36 Ry aat ⟨ag7,KX⟩;have ag8:=(aM.1 KX).1;have Rz:=Ry.sizes;replace Rz:=yb Rz;have agz:=aat.size;have aau:=Ry.under;simp only[n0,dz,fj]at aau;by_cases hK:jY x
 ·refine call call27 rfl rfl rfl (λW hS=>nfk hZ x hK mf hB r sg hr oV b36 _ _ W (hS.old A0 KX zX rN) (hg.old hS A2 zU zP)) ?_;refine B 3 ?_;refine aU zeroValue36 rfl rfl ?_;refine yW ?_;intro b19 aav aaw;refine V7 ?_;refine B 7 ?_;refine xT ?_;refine B 10 ?_;refine kS (i:=1) rfl sizeOf36 rfl rfl rfl rfl (aV rfl) rfl ?_;refine B 5 ?_;refine rv rfl rfl rfl (de (i:=1) rfl isAgg38 sizeOf38 rfl (aV rfl)) ?_;refine aZ (i:=2) rfl sizeOf38 rfl rfl rfl rfl rfl rfl ?_;refine B 4 ?_;refine zZh ?_;unfold xV;rw[if_pos oC,if_pos hK,Fk,hr,oV];rfl
 refine call call27 rfl rfl rfl (λW hS=>njp hZ x hK mf hB b36 _ _ W (hS.old A0 KX zX rN) (hg.old hS A2 zU zP)) ?_;refine B 3 ?_;refine aU zeroValue36 rfl rfl ?_;refine yW ?_;intro b19 aav aaw;refine V7 ?_;refine B 7 ?_;refine Fl ?_;refine B 5 ?_;refine rv rfl rfl rfl (aP (i:=2) rfl isAgg38 sizeOf38 rfl rfl) ?_;refine B 1 ?_;refine aZ (i:=2) rfl sizeOf38 rfl rfl rfl rfl rfl rfl ?_;refine B 5 ?_;refine zZh ?_;unfold xV;rw[if_pos oC,if_neg hK];rfl
structure Ek where
 com:Nat->Int
 sec:Nat->Int
def ekC (k:Ek):Array Value:=#[.int .u8 (k.com 0),.int .u8 (k.com 1),.int .u8 (k.com 2),.int .u8 (k.com 3),.int .u8 (k.com 4),.int .u8 (k.com 5),.int .u8 (k.com 6),.int .u8 (k.com 7),.int .u8 (k.com 8),.int .u8 (k.com 9),.int .u8 (k.com 10),.int .u8 (k.com 11),.int .u8 (k.com 12),.int .u8 (k.com 13),.int .u8 (k.com 14),.int .u8 (k.com 15),.int .u8 (k.com 16),.int .u8 (k.com 17),.int .u8 (k.com 18),.int .u8 (k.com 19),.int .u8 (k.com 20),.int .u8 (k.com 21),.int .u8 (k.com 22),.int .u8 (k.com 23),.int .u8 (k.com 24),.int .u8 (k.com 25),.int .u8 (k.com 26),.int .u8 (k.com 27),.int .u8 (k.com 28),.int .u8 (k.com 29),.int .u8 (k.com 30),.int .u8 (k.com 31),.int .u8 (k.sec 0),.int .u8 (k.sec 1),.int .u8 (k.sec 2),.int .u8 (k.sec 3),.int .u8 (k.sec 4),.int .u8 (k.sec 5),.int .u8 (k.sec 6),.int .u8 (k.sec 7),.int .u8 (k.sec 8),.int .u8 (k.sec 9),.int .u8 (k.sec 10),.int .u8 (k.sec 11),.int .u8 (k.sec 12),.int .u8 (k.sec 13),.int .u8 (k.sec 14),.int .u8 (k.sec 15),.int .u8 (k.sec 16),.int .u8 (k.sec 17),.int .u8 (k.sec 18),.int .u8 (k.sec 19),.int .u8 (k.sec 20),.int .u8 (k.sec 21),.int .u8 (k.sec 22),.int .u8 (k.sec 23),.int .u8 (k.sec 24),.int .u8 (k.sec 25),.int .u8 (k.sec 26),.int .u8 (k.sec 27),.int .u8 (k.sec 28),.int .u8 (k.sec 29),.int .u8 (k.sec 30),.int .u8 (k.sec 31)]
def DE:Fa:=⟨λ_=>0,λ_=>0,0,0,0,0⟩
def wN (Z:Fx) (k:Ek) (sec:Int):Int:=(kh sec (oN (IC Z k.sec (⟨#[108,105,110,107]⟩:ByteArray))).1).1
def uj (Z:Fx) (l:Lk) (k:Ek) (by_ sec:Int):Fa:=⟨iL Z l,k.com,by_,wN Z k sec,0,0⟩
def oW (Z:Fx) (l:Lk) (k:Ek) (by_ x sec:Int):Value:=
 if nB l=true/\ -1<=by_/\by_<512 then
  if jY x then
   if jY sec then
    if(Z.ge 4 sec).1=l.pub then .tuple #[.agg (gY {uj Z l k by_ sec with sr:=kY Z x (dn (rT Z (uj Z l k by_ sec))),ss:=oT Z x (dn (rT Z (uj Z l k by_ sec)))}),.int .i64 0]
    else .tuple #[.agg (gY DE),.int .i64 400]
   else .tuple #[.agg (gY DE),.int .i64 50]
  else .tuple #[.agg (gY DE),.int .i64 50]
 else .tuple #[.agg (gY DE),.int .i64 400]
theorem zB(hZ:FxOk Z)(f:Nat->Int)(s:ByteArray):jY (IC Z f s):=by
 have:=hZ.bd (⟨#[115,99,97,108,97,114]⟩:ByteArray) (dn (wK Z f s));unfold IC;exact⟨this.1,this.2⟩
theorem Fm(Z:Fx)(k:Ek)(sec:Int):fY (wN Z k sec):=by
 have:=nln sec (oN (IC Z k.sec (⟨#[108,105,110,107]⟩:ByteArray))).1;unfold wN;exact⟨by have:=this.1;omega,by have:=this.2;omega⟩
theorem n3g(hZ:FxOk Z)(l:Lk)(hl:cT l)(k:Ek)(hkc:jh k.com)(hks:jh k.sec)(b x sec:Int)(w:World)(aR:fY b)(hg:Glb w):Calls prog 16 #[.agg (lkC l),.agg (ekC k),.int .i64 b,.int .i64 x,.int .i64 sec] w (av w (oW Z l k b x sec)):=by
 have eC:=hg.lt;have Vz:=aR;clear aR;obtain⟨vl,KY⟩:∃vl,iL Z l=vl:=⟨_,rfl⟩;obtain⟨RA,hsc⟩:∃RA,IC Z k.sec (⟨#[108,105,110,107]⟩:ByteArray)=RA:=⟨_,rfl⟩;have RB:=zB hZ k.sec (⟨#[108,105,110,107]⟩:ByteArray);rw[hsc]at RB;obtain⟨nn,hnn⟩:∃nn,(kh sec (oN RA).1).1=nn:=⟨_,rfl⟩;have hnb:=Fm Z k sec;have hfn:wN Z k sec=nn:=by unfold wN;rw[hsc];exact hnn
 rw[hfn]at hnb;have hF0:uj Z l k b sec=⟨vl,k.com,b,nn,0,0⟩:=by unfold uj;rw[KY,hfn]
 have hB:=n0l hZ (⟨vl,k.com,b,nn,0,0⟩:Fa);obtain⟨mf,Fk⟩:∃mf,rT Z (⟨vl,k.com,b,nn,0,0⟩:Fa)=mf:=⟨_,rfl⟩;rw[Fk]at hB;obtain⟨r,hr⟩:∃r,kY Z x (dn mf)=r:=⟨_,rfl⟩;obtain⟨sg,oV⟩:∃sg,oT Z x (dn mf)=sg:=⟨_,rfl⟩;refine enter (vs:=[_,_,_,_,_]) func16 rfl ntmps16 rfl ?_;refine B 2 ?_;refine yX ?_;intro b5 w5 eg eP mv gQ gR;refine yX ?_;intro b6 w6 Oz OA hz6 gS lB;refine aU zeroValue59 rfl rfl ?_;refine yW ?_;intro kW rR rS;refine B 6 ?_;refine rv rfl rfl rfl (af isAgg38 sizeOf38 rfl A1 eg eP zL rfl) ?_;refine zqf ?_;refine call call26 rfl rfl rfl (λW hS=>nI l W) ?_;refine B 2 ?_;refine nh (t:=20) rfl (λaj=>?_) (λaj=>?_)
 ·replace aj:=ya aj;refine B 13 ?_;exact zbl
 replace aj:=ya aj;refine B 4 ?_;refine nh (t:=24) rfl (λaN=>?_) (λaN=>?_)
 ·replace aN:=ya aN;refine B 9 ?_;exact zbl
 replace aN:=ya aN;refine B 5 ?_;refine aK ?_ ?_
 ·intro cN;refine B 3 ?_;exact zbl
 intro cN;refine B 6 ?_;by_cases KZ:jY x
 ·refine call call17 rfl rfl rfl (λW hS=>nfn hZ x KZ W) ?_;refine B 10 ?_;refine xT ?_;refine B 8 ?_;by_cases wO:jY sec
  ·refine call call17 rfl rfl rfl (λW hS=>nfn hZ sec wO W) ?_;refine B 11 ?_;refine xT ?_;refine B 14 ?_;refine aK ?_ ?_
   ·intro gf;refine B 3 ?_;refine Ww ?_;unfold oW;rw[if_pos (show nB l=true/\ -1<=b/\b<512 from⟨by simp_all,by omega,by omega⟩),if_pos KZ,if_pos wO,if_neg gO];rfl
   intro gf;refine B 3 ?_;refine ng (E':=[(0,_),(1,_),(2,_),(3,_),(4,_),(5,_),(6,_),(10,_),(11,_),(13,_),(14,_),(16,_),(17,_),(18,_),(19,_),(20,_),(21,_),(22,_),(23,_),(24,_),(25,_),(26,_),(27,_),(29,_),(30,_),(31,_),(32,_),(33,_),(34,_),(35,_),(38,_),(39,_),(40,_),(41,_),(42,_),(43,_),(44,_),(47,_),(48,_),(49,_),(50,_)]) zR ?_;refine nJ 7 [6] [([],some (.agg (lkC l))),([0],some (.agg (dg vl))),([],some _),([2],some (.agg (dg k.com))),([],some _),([1,3,4],some _),([],none)] (λcv L' H'=>match cv with| []=>L'=[w6,w5,w]/\H'=[(kW,.cells (gY DE) 59 (0,0))]| [v1]=>∃(ei:Nat),v1=ptr ei 0/\L'=[w6,w5,w]/\H'=[(ei,.cells (gY DE) 59 (0,0)),(kW,.cells (gY DE) 59 (0,0))]/\w6.heap.size<=ei/\w5.heap.size<=ei/\w.heap.size<=ei/\kW≠ei|_=>False) zT ⟨rfl,rfl⟩ zT zT zT zT zT zT (pc zcn (pc zcn (pc (by exact λcv L' H' hd hP=>X.val rfl rfl (ak underlying76 rfl sizeOf34 rfl) R2) (pc zcn (pc zW (pc (by exact λcv L' H' hd hP=>X.val rfl rfl (RV.re (v':=.agg (gY ⟨vl,k.com,b,0,0,0⟩)) (bS underlying59 zeroValue59 (bC.c sizeOf34 (bC.c sizeOf34 (bC.c sizeOf3 (bC.c sizeOf3 (bC.c sizeOf36 (bC.n)))))) rfl rfl) (rfl)) R2) (pk (pn)))))))) ?_ ?_
   ·refine sc rfl rfl rfl ?_ ?_
    ·intro cv L' H' hl hP F Q' hk;obtain rfl:=ja hl;obtain⟨rfl,rfl⟩:=hP;refine aU zeroValue59 rfl rfl ?_;intro ei ha ho;exact OJ.done (hk _ _ _ ⟨ei,rfl,rfl,rfl,ha.1,ha.2.1,ha.2.2.1,ho.1⟩)
    exact sn
   intro cv L' H' hl hP;obtain⟨v1,rfl⟩:=dd hl;obtain⟨ei,rfl,rfl,rfl,iy,aaA,aaB,Fe⟩:=hP;refine Wx ?_;refine B 6 ?_;refine rv rfl rfl rfl (ag isAgg61 sizeOf61 rfl A0 Oz OA zL (aV rfl)) ?_;refine call call30 rfl rfl rfl (λW hS=>by rw[<-hsc];exact nmk hZ k.sec hks W (hg.old hS A2 zU zP)) (v:=.int .i64 RA) ?_;refine B 1 ?_;refine call call29 rfl rfl rfl (λW hS=>by have:=nvl RA sec RB wO W;rw[hnn]at this;exact this) (v:=.tuple #[.int .i64 nn,.int .i64 0]) ?_;refine B 4 ?_;refine VL ?_;refine OJ.reH (H':=[(ei,.cells (gY ⟨vl,k.com,b,nn,0,0⟩) 59 (0,0)),(kW,.cells (gY DE) 59 (0,0))]) rfl ?_;refine Iv ?_;refine B 10 ?_;refine nu (v:=λb:Nat=>.slice (some ⟨b,0,none⟩) 32 32) (Φ:=λ(W:World) (b:Nat) (v1:World)=>W.heap.size<=b/\v1.heap[b]? =some (.cells (dg mf) 34 (0,0))) call31 rfl rfl rfl (λW hS=>by rw[<-Fk];exact nAd hZ (⟨vl,k.com,b,nn,0,0⟩:Fa) Vz hnb W (hg.old hS A2 zU zP)) ?_;rintro W74 b74 w74 RC aaC ⟨ag9,RD⟩;have aha:=(aM.1 RD).1;have RE:=RC.sizes;replace RE:=yb RE;have agA:=aaC.size;have aaD:=RC.under;simp only[n0,dz,fj]at aaD;refine call call27 rfl rfl rfl (λW hS=>nfk hZ x KZ mf hB r sg hr oV b74 _ _ W (hS.old A0 RD zX rN) (hg.old hS A3 zU zP)) ?_;refine B 4 ?_;refine kS (i:=0) rfl sizeOf36 rfl rfl rfl rfl (aV rfl) rfl ?_
   refine Iv ?_;refine B 8 ?_;refine aZ (i:=1) rfl sizeOf59 rfl rfl rfl rfl rfl rfl ?_;refine B 4 ?_;refine bJ (.inl rfl) results16 (RS.wA (i:=1) rfl isAgg59 sizeOf59 rfl (aV rfl) (RS.t rfl (RS.n))) A3 zS ?_;unfold oW;rw[if_pos (show nB l=true/\ -1<=b/\b<512 from⟨by simp_all,by omega,by omega⟩),if_pos KZ,if_pos wO,if_pos oC,hF0,Fk,hr,oV];rfl
  refine call call17 rfl rfl rfl (λW hS=>nij sec wO W) ?_;refine B 11 ?_;refine Fl ?_;refine B 7 ?_;refine Ww ?_;unfold oW;rw[if_pos (show nB l=true/\ -1<=b/\b<512 from⟨by simp_all,by omega,by omega⟩),if_pos KZ,if_neg wO];rfl
 refine call call17 rfl rfl rfl (λW hS=>nij x KZ W) ?_;refine B 10 ?_;refine Fl ?_;refine B 7 ?_;refine Ww ?_;unfold oW;rw[if_pos (show nB l=true/\ -1<=b/\b<512 from⟨by simp_all,by omega,by omega⟩),if_neg KZ];rfl

def II:Array Value:=#[.slice none 0 0,.slice none 0 0,.slice none 0 0,.slice none 0 0,.slice none 0 0,.slice none 0 0,.slice none 0 0,.slice none 0 0,.slice none 0 0]
def RF:Array Value:=#[.slice none 0 0,.slice none 0 0,.slice none 0 0,.slice none 0 0,.slice none 0 0,.slice none 0 0,.slice none 0 0,.slice none 0 0]
section
variable {C:Cx} {fn:Func} {R:Ending->World->Prop} {E:Env} {G:Gh} {L:List World} {H:ae}
theorem zC{Dk t ct:Nat}{e:Exit}(he:e= .ret\/e= .normal)(hr:fn.results=#[.cell t T])(hA:fq C.P T false)(hx:look E t=some (ptr b 0))(hm:(Dk,.deferred (some []))∈H)(hb:(b,.cells cs ct fr)∈H)(dc:b≠Dk)(hv:cs[0]? =some v)(h:∀W H',St G L H' W->H'.map (·.1)=H.map (·.1)->R (.returned v) W):PJ C (bodyPostM (FW none) 0 C.P fn R) e E [er Dk] G L H:=
 uk he hm λa W H' hF hS bY bO=>by
  obtain⟨i,hi⟩:=jL.1 (bY _ hb dc);exact⟨v,(RS.w (C:=C) hi hA hx hv RS.n).res hr hF hS,h W H' hS bO⟩
end
theorem nBh(fv:Value)(w:World):Calls prog 84 #[.slice none 0 0,fv] w (av w (.int .i64 (-1))):=by
 refine enter (vs:=[_,_]) func84 rfl ntmps84 rfl ?_;refine B 14 ?_;refine CJ.loop (α:=Nat) (λj=>[(7,.int .i64 0),(8,.int .i64 0)]) (λj=>[]) (λj=>[w]) (λj=>Gh.no) (λj=>True) (λj=>0) 0 True.intro ⟨rfl,rfl,trivial⟩ rfl rfl z1 ?_;rintro j _;refine KM ?_;refine B 15 ?_;refine ax results84 rfl A0 ?_;rfl
theorem n2l(sc_:Array Value)(jy:sc_.size=9)(n:Int)(w:World):Calls prog 41 #[.agg sc_,.int .i64 n] w (cu w (λb:Nat×Nat=>.func (.func 83) #[] #[ptr b.1 0,ptr b.2 0]) (λb w1=>w.heap.size<=b.1/\w.heap.size<=b.2/\w1.heap[b.1]? =some (.cells sc_ 81 (0,0))/\w1.heap[b.2]? =some (.cells #[.int .i64 n] 3 (0,0)))):=by
 refine enter (vs:=[_,_]) func41 rfl ntmps41 rfl ?_;refine B 2 ?_;refine yX ?_;intro b2 w2 aH aF dS cE cX;refine yX ?_;intro b3 w3 aC ay cS bV cL;refine B 10 ?_;refine jG (b2,b3) results41 rfl A2 rfl ?_;exact λW hS=>⟨cE.1,bV.2.1,hS.old A1 aH aF trivial,hS.old A0 aC ay trivial⟩
theorem nbm(b c:Nat)(W:World)(aR:W.heap[b]? =some (.cells II 81 (0,0))):Ow prog 83 [ptr b 0,ptr c 0] (λ_:Unit=>[.bool true]) ([]) (λ_=>False) (λk=>k=b) W:=by
 intro l M I X0 hM hI hX hy h0;have aY:¬M b:=λh=>(hM b h).2.2 rfl;refine nN (Dg hM (hI [])) [] (vs:=[_,_,_]) func83 rfl ntmps83 rfl (yE hM (hI []) h0) ?_;refine B 4 ?_;refine rr (.slice none 0 0) (aa isAgg22 rfl A0 aR aY trivial rfl) ?_;refine B 1 ?_;refine call call84 rfl rfl rfl (λW hS=>nBh _ W) ?_;refine B 7 ?_;refine DF ?_;refine B 5 ?_;exact Qj (.inl rfl) results83 A0 (λA hA=>.inl hA)
theorem nkp(l:Lk)(w:World):Calls prog 35 #[.agg II,.agg (lkC l)] w (av w (.bool false)):=by
 refine xK Gh.no [] (vs:=[_,_]) func35 rfl ntmps35 rfl (u7 w) ?_;refine B 2 ?_;refine yX ?_;intro b2 w2 aH aF dS cE cX;refine yX ?_;intro b3 w3 aC ay cS bV cL;refine aU zeroValue4 rfl rfl ?_;refine yW ?_;intro b4 dQ dV;refine B 5 ?_;refine rv rfl rfl rfl (af isAgg81 sizeOf81 rfl A1 aH aF zL rfl) ?_;refine B 3 ?_;refine nu (α:=Nat×Nat) (v:=λb:Nat×Nat=>.func (.func 83) #[] #[ptr b.1 0,ptr b.2 0]) (Φ:=λ(W:World) (b:Nat×Nat) (w1:World)=>W.heap.size<=b.1/\W.heap.size<=b.2/\w1.heap[b.1]? =some (.cells II 81 (0,0))/\w1.heap[b.2]? =some (.cells #[.int .i64 l.fo] 3 (0,0))) call41 rfl rfl rfl (λW hS=>n2l II rfl _ W) ?_;rintro Wd ⟨bd,be⟩ wd pB Qk ⟨Kf,aaF,oK,aaG⟩;simp only at Kf aaF oK aaG;have Ql:=pB.under;simp only[n0,dz,fj]at Ql;have Ik:=pB.sizes;replace Ik:=yb Ik;have Y5:=Qk.size;refine B 3 ?_;refine CJ.range (f:=83) (cap:=[ptr bd 0,ptr be 0]) (α:=Unit) (enc:=(λ_:Unit=>[.bool true])) (xs:=[]) (MI:=λ_=>False) (RO:=λk=>k=bd) rfl call83 (λW W2 hS hB=>nbm bd be W2 (by rw[hB.block bd Y6];exact hS.old A0 oK zX qf)) (λ_ _ _ hk=>hk.elim) (λW hS k hk=>by subst hk;have:=hS.sizes;simp only[ad]at this;have:=(aM.1 oK).1;refine⟨by omega,by simp only[dz,fj,eE,iD,cP,fG,or_false,not_or];omega,λh=>h⟩) (λ_=>rfl) (λ_ Hc=>Hc=[(b4,.cells #[.bool false] 4 (0,0))]) (λ_ _=>False) rfl (by rintro pre Hc rfl;rfl) (λ_ _ hk=>hk.elim) zQ ?_ ?_ ?_
 ·exact λpre x _ _ _ _ _ _ _ hp=>absurd hp.length_le z1
 ·rintro l Dk rec Hc dr fK rfl;replace dr:=yb dr;refine B 4 ?_;refine OR ?_;refine B 3 ?_;refine zC (b:=b4) (.inl rfl) results35 isAgg4 rfl xL (cs:=#[.bool false]) (ct:=4) (fr:=(0,0)) (by exact .head _) zM rfl (λW H' hS bO=>⟨?_,?_⟩)
  ·exact congrArg Ending.returned rfl
  refine(hS.links w A3).below λk hk hx=>?_;rw[bO]at hx;simp[Gh.no,book]at hx;omega
 exact λ_ _ _ _ _ _ _ hk=>hk.elim
theorem nOg(l:Lk)(hE:nB l=false\/l.by_≠ -1)(w:World):Calls prog 19 #[.agg II,.agg (lkC l),.int .i64 256] w (av w (.bool false)):=by
 refine K0 ?_;refine yV ?_;intro b3 w3 aC ay cS bV cL;refine yX ?_;intro b4 w4 dm eb mI dQ dV;refine B 6 ?_;refine RG ?_;refine call call26 rfl rfl rfl (λW hS=>nI l W) ?_;refine B 3 ?_;refine aK ?_ ?_
 ·intro aj;refine B 7 ?_;refine ax results19 rfl A2 ?_;rfl
 intro aj;refine B 8 ?_;refine rq (.bool true) (cy rfl rfl) (by rw[decide_eq_false (hE.resolve_left oC)];rfl) ?_;refine B 5 ?_;refine rr (.agg II) (af isAgg81 sizeOf81 rfl A1 aC ay trivial rfl) ?_;refine RG ?_;refine call call35 rfl rfl rfl (λW hS=>nkp l W) ?_;refine B 5 ?_;refine ax results19 rfl A2 ?_;rfl
theorem n1j(l:Lk)(hE:nB l=false\/l.by_≠ -1)(w:World):Calls prog 9 #[.agg RF,.slice none 0 0,.agg (lkC l)] w (av w (.bool false)):=by
 refine enter (vs:=[_,_,_]) func9 rfl ntmps9 rfl ?_;refine B 2 ?_;refine yX ?_;intro b3 w3 aC ay cS bV cL;refine yX ?_;intro b5 w5 eg eP mv gQ gR;refine B 5 ?_;refine rv rfl rfl rfl (af isAgg31 sizeOf31 rfl A1 aC ay trivial rfl) ?_;refine B 1 ?_;refine zjg ?_;refine rv rfl rfl rfl (af isAgg38 sizeOf38 rfl A0 eg eP trivial rfl) ?_;refine zxh ?_;refine B 4 ?_;refine ax results9 rfl A2 ?_;rfl
theorem K1(l:Lk)(hE:nB l=false\/l.by_≠ -1)(w:World):Calls prog 8 #[.agg RF,.slice none 0 0,.agg (lkC l)] w (av w (.slice none 0 0)):=by
 refine enter (vs:=[_,_,_]) func8 rfl ntmps8 rfl ?_;refine B 2 ?_;refine yX ?_;intro b3 w3 aC ay cS bV cL;refine yX ?_;intro b5 w5 eg eP mv gQ gR;refine aU zeroValue41 rfl rfl ?_;refine yW ?_;intro b6 gS lB;refine B 4 ?_;refine rv rfl rfl rfl (af isAgg31 sizeOf31 rfl A1 aC ay zL rfl) ?_;refine B 1 ?_;refine zjg ?_;refine aU zeroValue81 rfl rfl ?_;refine yW ?_;intro b7 gg ow;refine zMi ?_;refine rv rfl rfl rfl (af isAgg38 sizeOf38 rfl A0 eg eP zL rfl) ?_;refine zxh ?_;refine B 6 ?_;refine aZ (i:=1) rfl sizeOf41 rfl rfl rfl rfl rfl rfl ?_;refine B 4 ?_;refine bJ (.inl rfl) results8 (RS.w (i:=1) rfl isAgg41 rfl rfl (RS.n)) A2 zS ?_;rfl
def aaJ:Array Value:=#[.int .i64 0,.int .i64 0,.int .u8 0,.int .u8 0,.int .u8 0,.int .u8 0,.int .u8 0,.int .u8 0,.int .u8 0,.int .u8 0,.int .u8 0,.int .u8 0,.int .u8 0,.int .u8 0,.int .u8 0,.int .u8 0,.int .u8 0,.int .u8 0,.int .u8 0,.int .u8 0,.int .u8 0,.int .u8 0,.int .u8 0,.int .u8 0,.int .u8 0,.int .u8 0,.int .u8 0,.int .u8 0,.int .u8 0,.int .u8 0,.int .u8 0,.int .u8 0,.int .u8 0,.int .u8 0]
theorem RH(l:Lk)(hE:nB l=false\/l.by_≠ -1)(it:Array Value)(w:World):Calls prog 14 #[.agg RF,.slice none 0 0,.agg (lkC l),.agg it] w (av w (.tuple #[.agg aaJ,.int .i64 400])):=by
 refine enter (vs:=[_,_,_,_]) func14 rfl ntmps14 rfl ?_;refine B 2 ?_;refine yX ?_;intro b4 w4 dm eb mI dQ dV;refine yX ?_;intro b6 w6 Oz OA hz6 gS lB;refine yX ?_;intro b7 w7 VP VQ Zs gg ow;refine aU zeroValue63 rfl rfl ?_;refine yW ?_;intro b8 wt wu;refine aU zeroValue67 rfl rfl ?_;refine yW ?_;intro b9 rE Km;refine B 4 ?_;refine rv rfl rfl rfl (af isAgg31 sizeOf31 rfl A2 dm eb zL rfl) ?_;refine B 1 ?_;refine zjg ?_;refine aU zeroValue81 rfl rfl ?_;refine yW ?_;intro kW rR rS;refine zMi ?_;refine rv rfl rfl rfl (af isAgg38 sizeOf38 rfl A1 Oz OA zL rfl) ?_;refine zxh ?_;refine B 6 ?_;refine rv rfl rfl rfl (aP (i:=2) rfl isAgg63 sizeOf63 rfl rfl) ?_;refine aZ (i:=2) rfl sizeOf63 rfl rfl rfl rfl rfl rfl ?_;refine aZ (i:=1) rfl sizeOf67 rfl rfl rfl rfl rfl rfl ?_;refine B 4 ?_;refine bJ (.inl rfl) results14 (RS.wA (i:=2) rfl isAgg63 sizeOf63 rfl (aV rfl) (RS.w (i:=1) rfl isAgg67 rfl rfl (RS.n))) A3 zS ?_;rfl
end Px
