/- Contracts of functions of the program. No condition beyond those stated. -/
import Derived.Test.YtpgobjebhigaoaaGreatDoorKa
import Derived.Test.YtpgobjebhigaoaaGreatDoorProg
set_option linter.unusedSimpArgs false
set_option linter.unusedVariables false
set_option linter.unusedSectionVars false
set_option maxRecDepth 20000
set_option maxHeartbeats 8000000
namespace Px
open Go Go.RowKit Go.Proofs Go.Proofs.Tryz
theorem V.encL_drop(l:List V)(i:Nat)(h:i<l.length):V.encL (l.drop i)=(l[i]).enc++V.encL (l.drop (i+1)):=by
 rw[List.drop_eq_getElem_cons h,V.encL]
theorem zm(x:V):dU prog x.fn:=by
 cases x
 ·exact call232
 ·exact call235
 exact call236
theorem n7n(x:ByteArray)(hn:(V.text x).fine)(xs:List UInt8)(b cap:Nat)(sp:List Value)(qw:cJ xs cap sp)(w:World)(hb:w.heap[b]? =some (bj 5 xs sp))(gQ:xs.length+(V.text x).enc.length<=800000000000):Calls prog 235 #[bB b xs.length cap,vT x] w (KH w b 5 (xs++(V.text x).enc)):=by
 have jN:=(aL.1 hb).1;simp only[V.fine]at hn;simp only[V.enc,ec,cC]at gQ;have ck:x.data.toList.length=x.size:=Array.length_toList;refine nM (vs:=[_,_]) (Gh.lent (· =b)) [(b,bj 5 xs sp)] func235 rfl ntmps235 rfl (zh hb) ?_;refine B 2 ?_;refine yX ?_;intro b3 w3 aJ aD dr bY cR;refine ZX ?_;refine nK 10 [1,2,7] [([],some _),([],none),([0,1],none),([],some _),([3],some (.string x)),([4],some _),([5],some _),([2,6],none),([],some _),([8],some (.string x))] (λcv L' H'=>match cv with| []=>L'=[w3,w]/\H'=[(b,bj 5 xs sp)]| [v1]=>∃(b6:Nat),v1=bB b6 ([2]:List UInt8).length 1/\L'=[w3,w]/\H'=[(b6,bj 5 [2] []),(b,bj 5 xs sp)]/\w3.heap.size<=b6/\w.heap.size<=b6| [v1,v2]=>∃(b6:Nat) (b7:Nat) (c7:Nat) (s7:List Value),v1=bB b6 ([2]:List UInt8).length 1/\v2=bB b7 (xs++[2]).length c7/\L'=[w3,w]/\H'=[(b6,bj 5 [2] []),(b7,bj 5 (xs++[2]) s7)]/\w3.heap.size<=b6/\w.heap.size<=b6/\Fr (Gh.lent (· =b)) [w3,w] b7/\(b7=b\/w3.heap.size<=b7/\w.heap.size<=b7)/\cJ (xs++[2]) c7 s7| [v1,v2,v3]=>∃(b6:Nat) (b7:Nat) (c7:Nat) (s7:List Value) (jH:Nat) (O6:Nat) (Rc:List Value),v1=bB b6 ([2]:List UInt8).length 1/\v2=bB b7 (xs++[2]).length c7/\v3=bB jH (xs++[2]++num x.size).length O6/\L'=[w3,w]/\H'=[(b6,bj 5 [2] []),(jH,bj 5 (xs++[2]++num x.size) Rc)]/\w3.heap.size<=b6/\w.heap.size<=b6/\Fr (Gh.lent (· =b)) [w3,w] b7/\(b7=b\/w3.heap.size<=b7/\w.heap.size<=b7)/\cJ (xs++[2]) c7 s7/\Fr (Gh.lent (· =b)) [w3,w] jH/\(jH=b\/w3.heap.size<=jH/\w.heap.size<=jH)/\cJ (xs++[2]++num x.size) O6 Rc|_=>False) zT ⟨rfl,rfl⟩ zT zT zT zT zT zT (pc zW (pk (pk (pc (by exact λcv L' H' hd hP=>X.val rfl rfl (ak underlying149 rfl sizeOf9 rfl) R2) (pc zci (pc (by exact λcv L' H' hd hP=>X.val rfl rfl (rY underlying9 rfl) R2) (pc ZZ (pk (pc (by exact λcv L' H' hd hP=>X.val rfl rfl (ak underlying149 rfl sizeOf9 rfl) R2) (pc zci (pn))))))))))) ?_ ?_
 ·refine sc rfl rfl rfl ?_ ?_
  ·intro cv L' H' hl hP F Q' hk;obtain rfl:=jt hl;obtain⟨rfl,rfl⟩:=hP;refine O3 [2] bt zeroValue5 rfl rfl rfl rfl rfl rfl rfl rfl rfl ?_;intro b6 ha ho hx hr;exact OJ.done (hk _ _ _ ⟨b6,rfl,rfl,rfl,ha.1,ha.2.1⟩)
  refine sc rfl rfl rfl ?_ ?_
  ·intro cv L' H' hl hP F Q' hk;obtain⟨v1,rfl⟩:=di hl;obtain⟨b6,rfl,rfl,rfl,gm,yh⟩:=hP;refine II (i:=1) (xs:=xs) (zs:=[2]) (sp:=sp) rfl bt rfl rfl rfl rfl (iA.own (i:=0) underlying64 rfl) qw (.inl rfl) xZ ?_;exact zlk
  refine sc rfl rfl rfl ?_ ?_
  ·intro cv L' H' hl hP F Q' hk;obtain⟨v1,v2,rfl⟩:=ju hl;obtain⟨b6,b7,c7,s7,rfl,rfl,rfl,rfl,gm,yh,oH,O4,vw⟩:=hP;refine O5 (i:=1) (ys:=xs++[2]++num x.size) (first:=[]) (cap:=[]) rfl rfl call233 rfl rfl rfl oH (λW hS hW=>Wf (xs++[2]) x.size zM b7 c7 s7 vw xZ W hW) ?_;intro bn cn sn hfn Z0;have O7:=hfn;replace O7:=yf O7;exact OJ.done (hk _ _ _ ⟨b6,b7,c7,s7,bn,cn,sn,rfl,rfl,rfl,rfl,rfl,gm,yh,oH,O4,vw,hfn,by simpa only[Fr,Gh.lent,ab,and_true]using hfn,Z0⟩)
  exact sn
 intro cv L' H' hl hP;obtain⟨v1,v2,v3,rfl⟩:=gp hl;obtain⟨b6,b7,c7,s7,jH,O6,Rc,rfl,rfl,rfl,rfl,rfl,gm,yh,oH,O4,vw,Re,Z1,Rf⟩:=hP;refine II (i:=1) (xs:=xs++[2]++num x.size) (zs:=x.data.toList) (sp:=Rc) rfl bt rfl rfl rfl rfl (iA.str underlying9) Rf Re xZ ?_;intro eo Wo Wt oW zn;have rZ:=oW;replace rZ:=yf rZ;refine B 4 ?_;have KN:xs++(V.text x).enc=xs++[2]++num x.size++x.data.toList:=by simp[V.enc]
 rw[KN];exact Wh (i:=1) (.inl rfl) results235 rfl rfl A1 (by simp only[jG,dC,fk,qx,rV,and_true];simp only[Fr,Gh.lent,ab]at oW;omega) zn
theorem nZn(l:List V)(ih:∀y∈l,ZV y)(bV:(V.list l).fine)(N:Nat)(base:Option Addr)(lc bv bw:Nat)(xs:List UInt8)(b cap:Nat)(sp:List Value)(qw:cJ xs cap sp)(w:World)(hb:w.heap[b]? =some (bj 5 xs sp))(hN:N<=w.heap.size)(hNb:N<=b)(pK:E4 N w base l)(vx:Wr N w bv bw)(gQ:xs.length+(V.list l).enc.length<=800000000000):Calls prog 236 #[bB b xs.length cap,vL base l.length lc,ptr bv 0] w (KH w b 5 (xs++(V.list l).enc)):=by
 have jN:=(aL.1 hb).1;simp only[V.fine]at bV;obtain⟨uw,wH,KK⟩:=bV;have hlv:=vx.ltv;have hlw:=vx.ltw;simp only[V.enc,ec,cC]at gQ;refine nM (vs:=[_,_,_]) (Gh.lent (· =b)) [(b,bj 5 xs sp)] func236 rfl ntmps236 rfl (zh hb) ?_;refine B 2 ?_;refine yX ?_;intro b4 w4 cT dI k4 dD dH;refine B 4 ?_;refine Z2 ?_;refine nK 7 [1,2] [([],some _),([],none),([0,1],none),([],some _),([3],some (.slice base l.length lc)),([4],some _),([5],some _)] (λcv L' H'=>match cv with| []=>L'=[w4,w]/\H'=[(b,bj 5 xs sp)]| [v1]=>∃(b9:Nat),v1=bB b9 ([3]:List UInt8).length 1/\L'=[w4,w]/\H'=[(b9,bj 5 [3] []),(b,bj 5 xs sp)]/\w4.heap.size<=b9/\w.heap.size<=b9| [v1,v2]=>∃(b9:Nat) (ix:Nat) (wI:Nat) (yi:List Value),v1=bB b9 ([3]:List UInt8).length 1/\v2=bB ix (xs++[3]).length wI/\L'=[w4,w]/\H'=[(b9,bj 5 [3] []),(ix,bj 5 (xs++[3]) yi)]/\w4.heap.size<=b9/\w.heap.size<=b9/\Fr (Gh.lent (· =b)) [w4,w] ix/\(ix=b\/w4.heap.size<=ix/\w.heap.size<=ix)/\cJ (xs++[3]) wI yi|_=>False) zT ⟨rfl,rfl⟩ zT zT zT zT zT zT (pc zW (pk (pk (pc Rg (pc zcj (pc (by exact λcv L' H' hd hP=>X.val rfl rfl (iP underlying146 rfl) R2) (pc ZZ (pn)))))))) ?_ ?_
 ·refine sc rfl rfl rfl ?_ ?_
  ·exact zWj
  refine sc rfl rfl rfl ?_ ?_
  ·intro cv L' H' hl hP F Q' hk;obtain⟨v1,rfl⟩:=di hl;obtain⟨b9,rfl,rfl,rfl,qt,E7⟩:=hP;refine II (i:=1) (xs:=xs) (zs:=[3]) (sp:=sp) rfl bt rfl rfl rfl rfl (iA.own (i:=0) underlying64 rfl) qw (.inl rfl) xZ ?_;intro b7 c7 s7 oH vw;exact OJ.done (hk _ _ _ ⟨b9,b7,c7,s7,rfl,rfl,rfl,rfl,qt,E7,oH,by simpa only[Fr,Gh.lent,ab,and_true]using oH,vw⟩)
  exact sn
 intro cv L' H' hl hP;obtain⟨v1,v2,rfl⟩:=ju hl;obtain⟨b9,ix,wI,yi,rfl,rfl,rfl,rfl,qt,E7,E8,KO,uy⟩:=hP;refine OJ.dropF (i:=0) rfl (.inr ⟨qt,E7,trivial⟩) ?_;refine O5 (i:=0) (ys:=xs++[3]++num l.length) (first:=[]) (cap:=[]) rfl rfl call233 rfl rfl rfl E8 (λW hS hW=>Wf (xs++[3]) l.length zM ix wI yi uy xZ W hW) ?_;intro eo Wo Wt oW zn;have rZ:=oW;replace rZ:=yf rZ;refine B 13 ?_;refine CJ.loop (α:=List UInt8×Nat×Nat×Nat×List Value) (λp=>[(0,bB p.2.2.1 p.1.length p.2.2.2.1),(2,ptr bv 0),(17,.slice base l.length lc),(18,.int .i64 (l.length:Int)),(19,.int .i64 (p.2.1:Int))]) (λp=>[(p.2.2.1,bj 5 p.1 p.2.2.2.2)]) (λp=>[w4,w]) (λp=>Gh.lent (· =b)) (λp=>p.1++V.encL (l.drop p.2.1)=xs++(V.list l).enc/\p.2.1<=l.length/\Fr (Gh.lent (· =b)) [w4,w] p.2.2.1/\(p.2.2.1=b\/w4.heap.size<=p.2.2.1/\w.heap.size<=p.2.2.1)/\cJ p.1 p.2.2.2.1 p.2.2.2.2) (λp=>l.length-p.2.1) (xs++[3]++num l.length,0,eo,Wo,Wt) ⟨by simp[V.enc],dx _,oW,by simpa only[Fr,Gh.lent,Gh.no,ab,and_true,false_or]using oW,zn⟩ zR rfl rfl z1 ?_;rintro⟨ys,i,b1,c1,s1⟩ ⟨hinv,hi,hf,hg,hr⟩;dsimp only at hinv hi hf hg hr ⊢;have uq:=congrArg List.length hinv;simp only[V.enc,cC,ec]at uq;refine B 6 ?_;refine aO ?_ ?_
 ·intro aj;refine B 5 ?_;obtain⟨bl,cs,te,fre,rfl,jN,hcs,hcz,a1,a2,p3,n3,c3,rW,tw⟩:=pK i zM;have zi:=(aL.1 hcs).1;obtain⟨y,hy⟩:∃y,l[i]'zM=y:=⟨_,rfl⟩;rw[hy]at rW tw;have E5:y∈l:=hy▸QH _;have hkb:=V.kind_bd y;have Wv:=congrArg List.length (V.encL_drop l i zM);rw[cC,hy]at Wv;refine B 2 ?_;refine rq (.agg #[.int .i64 y.kind,.int .i64 a1,.string a2,.slice p3 n3 c3]) (ag isAgg149 sizeOf149 rfl A1 hcs (by show ¬(_=_);omega) zL zM) (va (by rw[<-rW];congr 1;omega)) ?_;refine zj ?_;refine yW ?_;intro b7 fu lG;refine zCi ?_;refine nk 9 [.det [] _,.det [] _,.det [1] _,.det [0] _,.det [2,3] _,.det [4] _,.det [5] _,.det [] _,.det [] _] zT (xc (by exact λae=>X.val rfl rfl (aa isAgg264 rfl A1 vx.atv (by show ¬(_=_);omega) r4 rfl) (λ_ _=>rfl)) (xc (by exact λae=>X.val rfl rfl (ak underlying149 rfl sizeOf3 rfl) (λ_ _=>rfl)) (xc z2 (xc ER (xc zbe (xc (by exact λae=>X.val rfl rfl (ak underlying263 rfl sizeOf261 rfl) (λ_ _=>rfl)) (xc (by exact λae=>X.val rfl rfl (aa (v:=.func (.func y.fn) #[] (y.cap bv).toArray) isAgg261 rfl A1 vx.atw (by show ¬(_=_);omega) r4 (zl bv _ _ (by show((0+Int.toNat y.kind*1+0:Nat):Int)=_;omega))) (λ_ _=>rfl)) (xc zO (xc z9d (xn)))))))))) zT zT zT (λae=>?_);refine O5 (i:=1) (ys:=ys++y.enc) (first:=[]) (cap:=y.cap bv) rfl rfl (zm _) rfl rfl rfl hf (λW hS hW=>ih y E5 N b1 c1 bv bw ys s1 W _ (ef.up (ao _) (hS.same A1 hN (λk hk (h:k=b)=>by omega) zP) _ _ tw) (V.fineL_mem KK y E5) (vx.up (ao _) (hS.same A1 hN (λk hk (h:k=b)=>by omega) zP)) zM (aS hN (hS.links _ A1).size) hr zM hW) ?_
  exact zEj
 intro aj;refine B 12 ?_;have e:i=l.length:=by omega
 subst e;rw[List.drop_of_length_le (ao _)]at hinv;simp only[V.encL,dN]at hinv;rw[<-hinv];exact Wh (i:=0) (.inl rfl) results236 rfl rfl A1 (by simp only[jG,dC,fk,qx,rV,and_true];omega) hr
theorem nHj(l:List V)(ih:∀y∈l,ZV y)(bV:(V.list l).fine)(N:Nat)(base:Option Addr)(lc bv bw:Nat)(w:World)(hN:N<=w.heap.size)(pK:E4 N w base l)(vx:Wr N w bv bw)(gQ:(V.list l).enc.length<=800000000000):Calls prog 236 #[.slice none 0 0,vL base l.length lc,ptr bv 0] w (Z3 w 5 ((V.list l).enc)):=by
 simp only[V.fine]at bV;obtain⟨uw,wH,KK⟩:=bV;have hlv:=vx.ltv;have hlw:=vx.ltw;simp only[V.enc,ec,cC]at gQ;refine enter (vs:=[_,_,_]) func236 rfl ntmps236 rfl ?_;refine B 2 ?_;refine yX ?_;intro b4 w4 cT dI k4 dD dH;refine B 4 ?_;refine Z2 ?_;refine nK 7 [1,2] [([],some _),([],none),([0,1],none),([],some _),([3],some (.slice base l.length lc)),([4],some _),([5],some _)] (λcv L' H'=>match cv with| []=>L'=[w4,w]/\H'=[]| [v1]=>∃(b9:Nat),v1=bB b9 ([3]:List UInt8).length 1/\L'=[w4,w]/\H'=[(b9,bj 5 [3] [])]/\w4.heap.size<=b9/\w.heap.size<=b9| [v1,v2]=>∃(b9:Nat) (ix:Nat) (wI:Nat) (yi:List Value),v1=bB b9 ([3]:List UInt8).length 1/\v2=bB ix ([3]:List UInt8).length wI/\L'=[w4,w]/\H'=[(ix,bj 5 [3] yi),(b9,bj 5 [3] [])]/\w4.heap.size<=b9/\w.heap.size<=b9/\w4.heap.size<=ix/\w.heap.size<=ix/\cJ [3] wI yi|_=>False) zT ⟨rfl,rfl⟩ zT zT zT zT zT zT (pc zW (pk (pk (pc Rg (pc zcj (pc (by exact λcv L' H' hd hP=>X.val rfl rfl (iP underlying146 rfl) R2) (pc ZZ (pn)))))))) ?_ ?_
 ·refine sc rfl rfl rfl ?_ ?_
  ·exact zWj
  refine sc rfl rfl rfl ?_ ?_
  ·intro cv L' H' hl hP F Q' hk;obtain⟨v1,rfl⟩:=di hl;obtain⟨b9,rfl,rfl,rfl,qt,E7⟩:=hP;refine apN (zs:=[3]) bt rfl rfl rfl rfl (iA.own (i:=0) underlying64 rfl) zQ zQ ?_;intro b7 c7 s7 fu lG hx7 vw;exact OJ.done (hk _ _ _ ⟨b9,b7,c7,s7,rfl,rfl,rfl,rfl,qt,E7,fu.1,fu.2.1,vw⟩)
  exact sn
 intro cv L' H' hl hP;obtain⟨v1,v2,rfl⟩:=ju hl;obtain⟨b9,ix,wI,yi,rfl,rfl,rfl,rfl,qt,E7,E8,KO,uy⟩:=hP;refine OJ.dropF (i:=1) rfl (.inr ⟨qt,E7,trivial⟩) ?_;refine O5 (i:=0) (ys:=[3]++num l.length) (first:=[]) (cap:=[]) rfl rfl call233 rfl rfl rfl (.inr ⟨E8,KO,trivial⟩) (λW hS hW=>Wf ([3]) l.length zM ix wI yi uy xZ W hW) ?_;intro eo Wo Wt oW zn;have rZ:=oW;replace rZ:=yf rZ;refine B 13 ?_;refine CJ.loop (α:=List UInt8×Nat×Nat×Nat×List Value) (λp=>[(0,bB p.2.2.1 p.1.length p.2.2.2.1),(2,ptr bv 0),(17,.slice base l.length lc),(18,.int .i64 (l.length:Int)),(19,.int .i64 (p.2.1:Int))]) (λp=>[(p.2.2.1,bj 5 p.1 p.2.2.2.2)]) (λp=>[w4,w]) (λp=>Gh.no) (λp=>p.1++V.encL (l.drop p.2.1)=(V.list l).enc/\p.2.1<=l.length/\Fr (Gh.no) [w4,w] p.2.2.1/\(w4.heap.size<=p.2.2.1/\w.heap.size<=p.2.2.1)/\cJ p.1 p.2.2.2.1 p.2.2.2.2) (λp=>l.length-p.2.1) ([3]++num l.length,0,eo,Wo,Wt) ⟨by simp[V.enc],dx _,oW,by simpa only[Fr,Gh.lent,Gh.no,ab,and_true,false_or]using oW,zn⟩ zR rfl rfl z1 ?_;rintro⟨ys,i,b1,c1,s1⟩ ⟨hinv,hi,hf,hg,hr⟩;dsimp only at hinv hi hf hg hr ⊢;have uq:=congrArg List.length hinv;simp only[V.enc,cC,ec]at uq;refine B 6 ?_;refine aO ?_ ?_
 ·intro aj;refine B 5 ?_;obtain⟨bl,cs,te,fre,rfl,jN,hcs,hcz,a1,a2,p3,n3,c3,rW,tw⟩:=pK i zM;have zi:=(aL.1 hcs).1;obtain⟨y,hy⟩:∃y,l[i]'zM=y:=⟨_,rfl⟩;rw[hy]at rW tw;have E5:y∈l:=hy▸QH _;have hkb:=V.kind_bd y;have Wv:=congrArg List.length (V.encL_drop l i zM);rw[cC,hy]at Wv;refine B 2 ?_;refine rq (.agg #[.int .i64 y.kind,.int .i64 a1,.string a2,.slice p3 n3 c3]) (ag isAgg149 sizeOf149 rfl A1 hcs zZ zL zM) (va (by rw[<-rW];congr 1;omega)) ?_;refine zj ?_;refine yW ?_;intro b7 fu lG;refine zCi ?_;refine nk 9 [.det [] _,.det [] _,.det [1] _,.det [0] _,.det [2,3] _,.det [4] _,.det [5] _,.det [] _,.det [] _] zT (xc (by exact λae=>X.val rfl rfl (aa isAgg264 rfl A1 vx.atv zZ r4 rfl) (λ_ _=>rfl)) (xc (by exact λae=>X.val rfl rfl (ak underlying149 rfl sizeOf3 rfl) (λ_ _=>rfl)) (xc z2 (xc ER (xc zbe (xc (by exact λae=>X.val rfl rfl (ak underlying263 rfl sizeOf261 rfl) (λ_ _=>rfl)) (xc (by exact λae=>X.val rfl rfl (aa (v:=.func (.func y.fn) #[] (y.cap bv).toArray) isAgg261 rfl A1 vx.atw zZ r4 (zl bv _ _ (by show((0+Int.toNat y.kind*1+0:Nat):Int)=_;omega))) (λ_ _=>rfl)) (xc zO (xc z9d (xn)))))))))) zT zT zT (λae=>?_);refine O5 (i:=1) (ys:=ys++y.enc) (first:=[]) (cap:=y.cap bv) rfl rfl (zm _) rfl rfl rfl hf (λW hS hW=>ih y E5 N b1 c1 bv bw ys s1 W _ (ef.up (ao _) (hS.same A1 hN zU zP) _ _ tw) (V.fineL_mem KK y E5) (vx.up (ao _) (hS.same A1 hN zU zP)) zM (aS hN (hS.links _ A1).size) hr zM hW) ?_
  exact zEj
 intro aj;refine B 12 ?_;have e:i=l.length:=by omega
 subst e;rw[List.drop_of_length_le (ao _)]at hinv;simp only[V.encL,dN]at hinv;rw[<-hinv];exact KP (i:=0) (.inl rfl) results236 rfl rfl A1 wE hr
theorem zo:∀x,ZV x:=by
 refine V.ind ?_ ?_ ?_
 ·intro n N b cap bv bw xs sp w v hv hf _ _ _ hr hl hb;simp only[ef]at hv;subst hv;exact nWo n hf xs b cap sp hr w hb hl
 ·intro s N b cap bv bw xs sp w v hv hf _ _ _ hr hl hb;simp only[ef]at hv;subst hv;exact n7n s hf xs b cap sp hr w hb hl
 intro l ih N b cap bv bw xs sp w v hv hf vx hNb hN hr hl hb;obtain⟨base,lc,rfl,hc,pK⟩:=hv.list;exact nZn l ih hf N base lc bv bw xs b cap sp hr w hb hN hNb pK vx hl
theorem nPe(l:List V)(bV:(V.list l).fine)(hd:(V.list l).depth<=16)(gQ:(V.list l).enc.length<=800000000000)(N:Nat)(base:Option Addr)(lc:Nat)(w:World)(hN:N<=w.heap.size)(tw:ef N w (.list l) (vL base l.length lc)):Calls prog 107 #[vL base l.length lc] w (Z4 w 5 (V.list l).enc):=by
 obtain⟨Rh,lc',Z5,Z6,Z7⟩:=tw.list;obtain⟨rfl,rfl⟩:base=Rh/\lc=lc':=by simpa[vL]using Z5
 refine enter (vs:=[_]) func107 rfl ntmps107 rfl ?_;refine B 2 ?_;refine yX ?_;intro b1 w1 aP aX fW eb ir;refine B 7 ?_;refine rv rfl rfl rfl (af isAgg149 sizeOf149 rfl A0 aP aX trivial rfl) ?_;refine call call168 rfl rfl rfl (λW hS=>nYm (.list l) _ _ _ _ _ bV hd N W (aS hN (hS.links _ A1).size) (ef.up zM (hS.same A1 hN zU zP) _ _ tw)) ?_;refine IJ ?_;refine B 6 ?_;refine ng (E':=[(0,_),(1,_),(2,_),(3,_),(4,_),(5,_),(6,_),(7,_),(8,_)]) zR ?_;refine nK 8 [0,3,4,5,6] [([],none),([],some _),([1],some (.int .i64 3)),([0],none),([2,3],none),([4],none),([5],none),([],some (vL base l.length lc))] (λcv L' H'=>match cv with| []=>L'=[w1,w]/\H'=[]| [v1]=>∃(bw:Nat) (bv:Nat) (eK:World),v1=ptr bw 0/\L'=[eK,w1,w]/\H'=[]/\w1.heap.size<=bw/\w1.heap.size<=bv/\bw<eK.heap.size/\bv<eK.heap.size/\eK.heap[bv]? =some (.cells #[ptr bw 0] 264 (0,0))/\eK.heap[bw]? =some (.cells (E6 bv) 332 (0,0))/\w1.heap.size<=eK.heap.size| [v1,v2]=>∃(bw:Nat) (bv:Nat) (eK:World),v1=ptr bw 0/\v2=ptr bw 0/\L'=[eK,w1,w]/\H'=[]/\w1.heap.size<=bw/\w1.heap.size<=bv/\bw<eK.heap.size/\bv<eK.heap.size/\eK.heap[bv]? =some (.cells #[ptr bw 0] 264 (0,0))/\eK.heap[bw]? =some (.cells (E6 bv) 332 (0,0))/\w1.heap.size<=eK.heap.size| [v1,v2,v3]=>∃(bw:Nat) (bv:Nat) (eK:World),v1=ptr bw 0/\v2=ptr bw 0/\v3=ptr bw 3/\L'=[eK,w1,w]/\H'=[]/\w1.heap.size<=bw/\w1.heap.size<=bv/\bw<eK.heap.size/\bv<eK.heap.size/\eK.heap[bv]? =some (.cells #[ptr bw 0] 264 (0,0))/\eK.heap[bw]? =some (.cells (E6 bv) 332 (0,0))/\w1.heap.size<=eK.heap.size| [v1,v2,v3,v4]=>∃(bw:Nat) (bv:Nat) (eK:World),v1=ptr bw 0/\v2=ptr bw 0/\v3=ptr bw 3/\v4=ptr bw 3/\L'=[eK,w1,w]/\H'=[]/\w1.heap.size<=bw/\w1.heap.size<=bv/\bw<eK.heap.size/\bv<eK.heap.size/\eK.heap[bv]? =some (.cells #[ptr bw 0] 264 (0,0))/\eK.heap[bw]? =some (.cells (E6 bv) 332 (0,0))/\w1.heap.size<=eK.heap.size| [v1,v2,v3,v4,v5]=>∃(bw:Nat) (bv:Nat) (eK:World),v1=ptr bw 0/\v2=ptr bw 0/\v3=ptr bw 3/\v4=ptr bw 3/\v5= .func (.func 236) #[] #[ptr bv 0]/\L'=[eK,w1,w]/\H'=[]/\w1.heap.size<=bw/\w1.heap.size<=bv/\bw<eK.heap.size/\bv<eK.heap.size/\eK.heap[bv]? =some (.cells #[ptr bw 0] 264 (0,0))/\eK.heap[bw]? =some (.cells (E6 bv) 332 (0,0))/\w1.heap.size<=eK.heap.size|_=>False) zT ⟨rfl,rfl⟩ zT zT zT zT zT zT (pk (pc (by exact λcv L' H' hd hP=>X.val rfl rfl (ak underlying149 rfl sizeOf3 rfl) R2) (pc zck (pk (pk (pk (pk (pc zck (pn))))))))) ?_ ?_
 ·refine sc rfl rfl rfl ?_ ?_
  ·intro cv L' H' hl hP F Q' hk;obtain rfl:=jt hl;obtain⟨rfl,rfl⟩:=hP;refine nr (Φ:=λ(W:World) (p:Nat×Nat) (v1:World)=>W.heap.size<=p.1/\W.heap.size<=p.2/\v1.heap[p.2]? =some (.cells #[ptr p.1 0] 264 (0,0))/\v1.heap[p.1]? =some (.cells (E6 p.2) 332 (0,0))) call169 rfl rfl rfl (λW hS=>nOi W) ?_;rintro W ⟨bw,bv⟩ eK hSW Z8 ⟨h1,h2,h3,h4⟩;have h5:=hSW.sizes;replace h5:=yb h5;dsimp only at h1 h2 h3 h4;have e3:=(aL.1 h4).1;have e4:=(aL.1 h3).1;have e7:=Z8.size;exact OJ.done (hk _ _ _ ⟨bw,bv,eK,rfl,rfl,rfl,by omega,by omega,e3,e4,h3,h4,by omega⟩)
  refine sc rfl rfl rfl ?_ ?_
  ·intro cv L' H' hl hP F Q' hk;obtain⟨v1,rfl⟩:=di hl;obtain⟨bw,bv,eK,rfl,rfl,rfl,e1,e2,e3,e4,e5,e6,e7⟩:=hP;refine B 1 ?_;exact OJ.done (hk _ _ _ ⟨bw,bv,eK,rfl,rfl,rfl,rfl,e1,e2,e3,e4,e5,e6,e7⟩)
  refine sc rfl rfl rfl ?_ ?_
  ·intro cv L' H' hl hP F Q' hk;obtain⟨v1,v2,rfl⟩:=ju hl;obtain⟨bw,bv,eK,rfl,rfl,rfl,rfl,e1,e2,e3,e4,e5,e6,e7⟩:=hP;refine B 1 ?_;exact OJ.done (hk _ _ _ ⟨bw,bv,eK,rfl,rfl,rfl,rfl,rfl,e1,e2,e3,e4,e5,e6,e7⟩)
  refine sc rfl rfl rfl ?_ ?_
  ·intro cv L' H' hl hP F Q' hk;obtain⟨v1,v2,v3,rfl⟩:=gp hl;obtain⟨bw,bv,eK,rfl,rfl,rfl,rfl,rfl,e1,e2,e3,e4,e5,e6,e7⟩:=hP;refine B 1 ?_;exact OJ.done (hk _ _ _ ⟨bw,bv,eK,rfl,rfl,rfl,rfl,rfl,rfl,e1,e2,e3,e4,e5,e6,e7⟩)
  refine sc rfl rfl rfl ?_ ?_
  ·intro cv L' H' hl hP F Q' hk;obtain⟨v1,v2,v3,v4,rfl⟩:=qz hl;obtain⟨bw,bv,eK,rfl,rfl,rfl,rfl,rfl,rfl,e1,e2,e3,e4,e5,e6,e7⟩:=hP;refine rv rfl rfl rfl (aa (v:=.func (.func 236) #[] #[ptr bv 0]) isAgg261 rfl A0 e6 zZ trivial rfl) ?_;exact OJ.done (hk _ _ _ ⟨bw,bv,eK,rfl,rfl,rfl,rfl,rfl,rfl,rfl,e1,e2,e3,e4,e5,e6,e7⟩)
  exact sn
 intro cv L' H' hl hP;obtain⟨v1,v2,v3,v4,v5,rfl⟩:=iB hl;obtain⟨bw,bv,eK,rfl,rfl,rfl,rfl,rfl,rfl,rfl,e1,e2,e3,e4,e5,e6,e7⟩:=hP;refine KQ (ys:=(V.list l).enc) (first:=[]) (cap:=[ptr bv 0]) rfl call236 rfl rfl rfl (λW hS=>nHj l (λy _=>zo y) bV eK.heap.size base lc bv bw W (hS.links _ A0).size (λi hi=>by
  obtain⟨bl,cs,t,fr,h1,h2,h3,h4,a1,a2,p3,n3,c3,h5,h6⟩:=Z7 i hi;have DI:=hS.same A2 hN zU zP;exact⟨bl,cs,t,fr,h1,by omega,(DI bl h2).trans h3,h4,a1,a2,p3,n3,c3,h5,ef.up zM DI _ _ h6⟩) ⟨e4,e3,hS.old A0 e5 zZ trivial,hS.old A0 e6 zZ trivial⟩ gQ) ?_
 intro b18 c18 s18 ur E3 ZP Q7;replace ur:=yb ur;refine B 5 ?_;exact KR (i:=0) (.inl rfl) results107 rfl rfl rfl A2 wE Q7


def cG (w:World) (b off:Nat) (zs:List UInt8):Prop:=∃cs t fr,w.heap[b]? =some (.cells cs t fr)/\off+zs.length<=cs.size/\∀i,i<zs.length->cs[off+i]? =some (.int .u8 (fU zs i))
variable {cs:Array Value} {C:Cx} {E:Env} {e:Exit} {G:Gh} {H:ad} {zs:List UInt8} {sp:List Value} {L:List World} {N T b i tx:Nat} {fr:Nat×Nat} {x:Operand} {v:Value} {W w' w1:World}
theorem cG.up{w:World}{off:Nat}(h:cG w b off zs)(hb:w'.heap[b]? =w.heap[b]?):cG w' b off zs:=by
 obtain⟨cs,t,fr,h1,h2,h3⟩:=h;exact⟨cs,t,fr,hb.trans h1,h2,h3⟩
theorem cG.lt{w:World}{off:Nat}(h:cG w b off zs):b<w.heap.size:=by
 obtain⟨cs,t,fr,h1,_⟩:=h;exact(aL.1 h1).1
theorem cG.old{w:World}{off:Nat}(h:cG w b off zs)(hS:St G L H W)(hw:w∈L)(hX:¬G.X b)(hO:bE H b):cG W b off zs:=by
 obtain⟨cs,t,fr,h1,h2,h3⟩:=h;exact⟨cs,t,fr,hS.old hw h1 hX hO,h2,h3⟩
theorem cG.row{e:Nat}(h:W.heap[b]? =some (bj e zs sp)):cG W b 0 zs:=
 ⟨_,_,_,h,by simp only[rU,cC,wJ];omega,λi hi=>Ri _ _ i hi⟩
theorem iA.seg{e' off c:Nat}(hU:C.P.underlying tx=some (.slice e'))(hm:w1∈L)(h:cG w1 b off zs)(hG:¬G.X b)(hO:bE H b):iA C G L H tx (.slice (some ⟨b,off,none⟩) zs.length c) zs:=by
 obtain⟨cs,t,fr,h1,h2,h3⟩:=h;exact jP.sl hU (Rd.old hm h1 hG hO zM (by rw[ZI h2 h3,<-nqn])) (by rw[wJ,uk]) (Z9 _)
def Glb (w:World):Prop:=(∃t fr,w.heap[0]? =some (.cells S8.init.cells t fr))/\(∃t fr,w.heap[4]? =some (.cells (cf 64 (λi=>u32 (kk i))) t fr))
theorem Glb.lt{w:World}(h:Glb w):5<=w.heap.size:=by
 obtain⟨_,t,fr,h⟩:=h;have:=(aL.1 h).1;omega
theorem Glb.old{w:World}(h:Glb w)(hS:St G L H W)(hw:w∈L)(hX:∀k,k<5->¬G.X k)(hH:Over 5 H):Glb W:=by
 have hs:=hS.same hw h.lt hX hH;obtain⟨⟨t,fr,h1⟩,t',fr',h2⟩:=h;exact⟨⟨t,fr,(hs 0 zM).trans h1⟩,t',fr',(hs 4 zM).trans h2⟩
def scalL (s:ByteArray) (xs:List UInt8):Int:=zf s xs.length (fU xs)
theorem zp(s:ByteArray)(xs:List UInt8):1<=scalL s xs/\scalL s xs<2305843009213688669:=by
 have Ks:=Zq 2305843009213688668 zQ (rp (tagged s xs.length (fU xs))) 0 zQ zQ;unfold scalL zf;omega
structure Fx where
 sc:ByteArray->List UInt8->Int
 tg:ByteArray->List UInt8->Nat->Int
 ge:Int->Int->Int×Int
structure FxOk (Z:Fx):Prop where
 sc:∀s xs,scalL s xs=Z.sc s xs
 tg:∀s xs,tagged s xs.length (fU xs)=Z.tg s xs
 ge:∀a k,gExp a k=Z.ge a k
variable {Z:Fx}
theorem FxOk.bd(hZ:FxOk Z)(s:ByteArray)(xs:List UInt8):1<=Z.sc s xs/\Z.sc s xs<2305843009213688669:=by
 rw[<-hZ.sc];exact zp s xs
theorem FxOk.byt(hZ:FxOk Z)(s:ByteArray)(xs:List UInt8):jq (Z.tg s xs):=by
 rw[<-hZ.tg];exact nPi _ _ _
theorem IK(hZ:FxOk Z)(k:Int)(w:World):Calls prog 65 #[.int .i64 k] w (av w (lQ (Z.ge 4 k))):=by
 rw[<-hZ.ge];exact nTi k w
theorem E9(hZ:FxOk Z)(a:Int)(w:World):Calls prog 33 #[.int .i64 a] w (av w (.int .i64 (Z.ge 4 a).1)):=by
 rw[<-hZ.ge];exact nNh a w
theorem IL(hZ:FxOk Z)(s:ByteArray)(hs0:s.size<1000)(xs:List UInt8)(hn:xs.length<900000000000)(b off c:Nat)(hc:xs.length<=c)(w:World)(h:cG w b off xs)(hg:Glb w):Calls prog 110 #[.string s,.slice (some ⟨b,off,none⟩) xs.length c] w (av w (.int .i64 (Z.sc s xs))):=by
 rw[<-hZ.sc];obtain⟨cs,t,fr,h1,h2,h3⟩:=h;obtain⟨⟨t2,ry,g1⟩,t3,uh,g2⟩:=hg;exact ncl s xs.length (fU xs) b off c t t2 t3 fr ry uh cs hs0 hc zM w h1 h2 h3 g1 g2
def b8 (n:Int) (i:Nat):UInt8:=UInt8.ofNat ((n%18446744073709551616).toNat/2^(56-8*i)%256)
def Fb (n:Int):List UInt8:=(List.range 8).map (b8 n)
theorem n6i(n:Int):(Fb n).length=8:=by simp[Fb]
theorem nYk(n:Int)(i:Nat)(h:i<8):(Fb n).take (i+1)=(Fb n).take i++[b8 n i]:=by
 have hl:i<(Fb n).length:=by rw[n6i];exact h
 rw[IA hl];congr 2;simp[Fb]
theorem Rj(n k:Int)(i:Nat)(hi:i<8)(hk:k=56-8*(i:Int)):(n%18446744073709551616).fdiv (2^(min (Int.toNat k) IntKind.u64.bits))%256=((b8 n i).toNat:Int):=by
 subst hk;have e1:min (Int.toNat (56-8*(i:Int))) IntKind.u64.bits=56-8*i:=by simp[IntKind.bits];omega
 obtain⟨m,hm⟩:∃m:Nat,n%18446744073709551616=(m:Int):=⟨(n%18446744073709551616).toNat,by omega⟩;rw[e1];unfold b8;rw[hm,Rk,wK];simp only[UInt8.toNat_ofNat'];rw[Ww];omega
def wL (ns:List Int):List UInt8:=ns.flatMap Fb
theorem n7j(ns:List Int):(wL ns).length=8*ns.length:=by
 induction ns with
 |nil=>rfl
 |cons n ns ih=>simp only[wL,IM,cC,ec]at *;rw[n6i];omega
theorem nuo(ns:List Int)(j:Nat)(h:j<ns.length):wL (ns.take (j+1))=wL (ns.take j)++Fb ns[j]:=by
 rw[IA h];unfold wL;rw[List.flatMap_append];simp
def roV (ro:Option (Nat×Nat×List Value)) (ys:List UInt8):Value:=match ro with|none=>.slice none 0 0|some (b,c,_)=>bB b ys.length c
def roH (e:Nat) (ro:Option (Nat×Nat×List Value)) (ys:List UInt8):ad:=match ro with|none=>[]|some (b,_,sp)=>[(b,bj e ys sp)]
def Rl (G:Gh) (L:List World) (ro:Option (Nat×Nat×List Value)) (ys:List UInt8):Prop:=match ro with|none=>ys=[]|some (b,c,sp)=>cJ ys c sp/\Fr G L b
theorem nbk(hZ:FxOk Z)(s:ByteArray)(hs0:s.size<1000)(msg:List UInt8)(bm om cm:Nat)(rB:msg.length<=100000000000)(ns:List Int)(bn cn tn:Nat)(IP:Nat×Nat)(hn0:0<ns.length)(vl:ns.length<=1000)(w:World)(lf:cG w bm om msg)(kN:w.heap[bn]? =some (.cells (ns.map (Value.int .i64)).toArray tn IP))(hg:Glb w):Calls prog 64 #[.string s,.slice (some ⟨bm,om,none⟩) msg.length cm,.slice (some ⟨bn,0,none⟩) ns.length cn] w (av w (.int .i64 (Z.sc s (wL ns++msg)))):=by
 have ag9:=(aL.1 kN).1;have Rm:=lf.lt;have ew:=hg.lt;refine enter (vs:=[_,_,_]) func64 rfl ntmps64 rfl ?_;refine B 19 ?_;refine CJ.loop (α:=List UInt8×Nat×Option (Nat×Nat×List Value)) (λp=>[(0,.string s),(1,.slice (some ⟨bm,om,none⟩) msg.length cm),(7,roV p.2.2 p.1),(11,.slice (some ⟨bn,0,none⟩) ns.length cn),(12,.int .i64 (ns.length:Int)),(13,.int .i64 (p.2.1:Int))]) (λp=>roH 5 p.2.2 p.1) (λp=>[w]) (λp=>Gh.no) (λp=>p.1=wL (ns.take p.2.1)/\p.2.1<=ns.length/\Rl Gh.no [w] p.2.2 p.1) (λp=>ns.length-p.2.1) ([],0,none) ⟨rfl,dx _,rfl⟩ zR rfl rfl z1 ?_;rintro⟨Wx,j,ro0⟩ ⟨uz,hj,zq⟩;dsimp only at uz hj zq ⊢;refine B 6 ?_;refine aO ?_ ?_
 ·intro aj;refine B 7 ?_;obtain⟨n,hn⟩:∃n,ns[j]'zM=n:=⟨_,rfl⟩;refine rv rfl rfl rfl (aa (v:=.int .i64 n) isAgg3 rfl A0 kN zZ (by cases ro0 with|none=>trivial|some p=>obtain⟨b1,c1,s1⟩:=p;obtain⟨hr,hf⟩:=zq;simp only[Fr,Gh.no,ab,and_true,false_or]at hf;exact⟨by dsimp only;omega,trivial⟩) (by simp only[DK,rC];rw[gR zM];simp[<-hn])) ?_;refine B 9 ?_;have Rn:Wx.length<=8000:=by rw[uz,n7j,kx];omega
  refine CJ.loop (α:=List UInt8×Nat×Option (Nat×Nat×List Value)) (λp=>[(0,.string s),(1,.slice (some ⟨bm,om,none⟩) msg.length cm),(7,roV p.2.2 p.1),(9,.int .i64 n),(10,.int .i64 (56-8*(p.2.1:Int))),(11,.slice (some ⟨bn,0,none⟩) ns.length cn),(12,.int .i64 (ns.length:Int)),(13,.int .i64 (j:Int))]) (λp=>roH 5 p.2.2 p.1) (λp=>[w]) (λp=>Gh.no) (λp=>p.1=Wx++(Fb n).take p.2.1/\p.2.1<=8/\Rl Gh.no [w] p.2.2 p.1) (λp=>8-p.2.1) (Wx,0,ro0) ⟨by simp,by dsimp only;omega,zq⟩ zR rfl rfl z1 ?_;rintro⟨ys,i,ro⟩ ⟨oX,hi,O8⟩;dsimp only at oX hi O8 ⊢;have IQ:ys.length<=8008:=by rw[oX,cC,kx,n6i];omega
  refine B 7 ?_;refine aO ?_ ?_
  ·intro aQ;refine B 7 ?_;refine rq (.int .u64 (n%18446744073709551616)) (iN underlying3 underlying202 rfl) (vu (nD n)) ?_;refine B 1 ?_;refine rv rfl rfl rfl (iL rfl rfl zM) ?_;refine rq (.int .u8 ((b8 n i).toNat:Int)) (mR underlying202 underlying5 rfl) (congrArg (Value.int .u8) (Rj n _ i zM rfl)) ?_;refine O3 [b8 n i] bt zeroValue5 rfl rfl rfl rfl rfl rfl rfl rfl rfl ?_;intro iI Fc Ro aha ahb;replace Fc:=yb Fc;replace Ro:=ye Ro;rcases ro with _|⟨b1,c1,s1⟩
   ·have e0:ys=[]:=O8;subst e0;refine apN (zs:=[b8 n i]) bt rfl rfl rfl rfl (iA.own (i:=0) underlying64 rfl) z1 z1 ?_;intro Wz c28 s28 KS Rp ahc KT;replace KS:=yb KS;replace Rp:=ye Rp;have Fe:Fr Gh.no [w] Wz:=.inr ⟨KS.1,trivial⟩;refine OJ.dropF (i:=1) rfl (.inr ⟨Fc.1,trivial⟩) ?_;refine B 9 ?_;refine PJ.again ([b8 n i],i+1,some (Wz,c28,s28)) ⟨by dsimp only;rw[nYk n i zM,<-iH,<-oX];first|done|rfl,by dsimp only;omega,KT,Fe⟩ dE ⟨rfl,rfl,rfl,rfl,congrArg some (vi dE),rfl,rfl,rfl,trivial⟩ rfl rfl z1
   obtain⟨hr,hf⟩:=O8;refine II (i:=1) (xs:=ys) (zs:=[b8 n i]) (sp:=s1) rfl bt rfl rfl rfl rfl (iA.own (i:=0) underlying64 rfl) hr hf xZ ?_;intro Wz c28 s28 Fe KT;have Rq:=Fe;replace Rq:=yf Rq;refine OJ.dropF (i:=0) rfl (.inr ⟨Fc.1,trivial⟩) ?_;refine B 9 ?_;refine PJ.again (ys++[b8 n i],i+1,some (Wz,c28,s28)) ⟨by dsimp only;rw[nYk n i zM,<-iH,<-oX];first|done|rfl,by dsimp only;omega,KT,Fe⟩ dE ⟨rfl,rfl,rfl,rfl,congrArg some (vi dE),rfl,rfl,rfl,trivial⟩ rfl rfl z1
  intro aQ;refine B 10 ?_;refine PJ.again (ys,j+1,ro) ⟨by dsimp only;rw[nuo ns j zM,hn,oX,show i=8 by omega,uz];first|done|rfl,by dsimp only;omega,O8⟩ dE zR rfl rfl z1
 intro aj;refine B 6 ?_;have ej:j=ns.length:=by omega
 subst ej;rw[jo (ao _)]at uz;have IQ:=n7j ns;rcases ro0 with _|⟨b1,c1,s1⟩
 ·exact absurd (show Wx=[]from zq) (by intro e;rw[e]at uz;rw[<-uz]at IQ;simp at IQ;omega)
 obtain⟨hr,hf⟩:=zq;subst uz;have hg1:=hf;simp only[Fr,Gh.no,ab,and_true,false_or]at hg1;refine CJ.reH (H':=[(b1,bj 5 (wL ns) s1)]) rfl ?_;refine B 4 ?_;refine II (i:=0) (xs:=wL ns) (zs:=msg) (sp:=s1) rfl bt rfl rfl rfl rfl (iA.seg underlying64 A0 lf zZ r4) hr hf (by rw[IQ];omega) ?_;intro Rr c33 s33 aaf aag;have Rs:=aaf;replace Rs:=yf Rs;refine call call110 rfl rfl rfl (λW hS=>IL hZ s hs0 (wL ns++msg) (by rw[cC,IQ];omega) Rr 0 c33 aag.le W (cG.row (hS.own _ A0)) (hg.old hS A0 zU zP)) ?_;refine B 4 ?_;refine bG (.inl rfl) results64 (RS.t rfl (RS.n)) A0 zS ?_;rfl
def DM (Z:Fx) (x:Int) (msg:List UInt8):Int:=Z.sc (⟨#[110,111,110,99,101]⟩:ByteArray) (wL [x]++msg)
def Ff (Z:Fx) (r p:Int) (msg:List UInt8):Int:=Z.sc (⟨#[115,105,103,110]⟩:ByteArray) (wL [r,p]++msg)
def lg (Z:Fx) (x:Int) (msg:List UInt8):Int:=(Z.ge 4 (DM Z x msg)).1
def oY (Z:Fx) (x:Int) (msg:List UInt8):Int:=(qp (DM Z x msg) (kr (Ff Z (lg Z x msg) (Z.ge 4 x).1 msg) x).1).1
def sa (Z:Fx) (x:Int) (msg:List UInt8):Value:=if iG x then .tuple #[.agg #[.int .i64 (lg Z x msg),.int .i64 (oY Z x msg)],.int .i64 0]else .tuple #[.agg #[.int .i64 0,.int .i64 0],.int .i64 50]
theorem nTn(a b:Int):oR (kr a b).1:=by
 unfold kr;exact z5k
theorem zr(hZ:FxOk Z)(x:Int)(msg:List UInt8):oR (DM Z x msg):=by have:=hZ.bd (⟨#[110,111,110,99,101]⟩:ByteArray) (wL [x]++msg);unfold DM;exact⟨by omega,by omega⟩
theorem zt(hZ:FxOk Z)(x:Int)(msg:List UInt8):(qp (DM Z x msg) (kr (Ff Z (lg Z x msg) (Z.ge 4 x).1 msg) x).1).2=0:=by
 unfold qp;rw[if_pos ⟨zr hZ _ _,nTn _ _⟩]
theorem Fg(hZ:FxOk Z)(x k e:Int)(msg:List UInt8)(hK:iG x)(hk:DM Z x msg=k)(he:Ff Z (Z.ge 4 k).1 (Z.ge 4 x).1 msg=e):Value.tuple #[.agg #[.int .i64 (Z.ge 4 k).1,.int .i64 (qp k (kr e x).1).1],.int .i64 (qp k (kr e x).1).2]=sa Z x msg:=by
 have hE:=zt hZ x msg;subst hk;subst he;unfold sa;rw[if_pos hK];exact congrArg (λz=>Value.tuple #[.agg #[.int .i64 (lg Z x msg),.int .i64 (oY Z x msg)],.int .i64 z]) hE
theorem Fh(Z:Fx)(x:Int)(msg:List UInt8)(hK:¬iG x):Value.tuple #[.agg #[.int .i64 0,.int .i64 0],.int .i64 50]=sa Z x msg:=by
 unfold sa;rw[if_neg hK]
theorem npo(hZ:FxOk Z)(x k:Int)(msg:List UInt8)(hk:DM Z x msg=k)(rB:msg.length<=100000000000)(bm om cm bn cn tn:Nat)(IP:Nat×Nat)(w:World)(lf:cG w bm om msg)(kN:w.heap[bn]? =some (.cells #[.int .i64 x] tn IP))(hg:Glb w):Calls prog 64 #[.string (⟨#[110,111,110,99,101]⟩:ByteArray),.slice (some ⟨bm,om,none⟩) msg.length cm,.slice (some ⟨bn,0,none⟩) 1 cn] w (av w (.int .i64 k)):=by
 subst hk;exact nbk hZ (⟨#[110,111,110,99,101]⟩:ByteArray) zQ msg bm om cm rB [x] bn cn tn IP z1 z1 w lf kN hg
theorem nui(hZ:FxOk Z)(r p e:Int)(msg:List UInt8)(he:Ff Z r p msg=e)(rB:msg.length<=100000000000)(bm om cm bn cn tn:Nat)(IP:Nat×Nat)(w:World)(lf:cG w bm om msg)(kN:w.heap[bn]? =some (.cells #[.int .i64 r,.int .i64 p] tn IP))(hg:Glb w):Calls prog 64 #[.string (⟨#[115,105,103,110]⟩:ByteArray),.slice (some ⟨bm,om,none⟩) msg.length cm,.slice (some ⟨bn,0,none⟩) 2 cn] w (av w (.int .i64 e)):=by
 subst he;exact nbk hZ (⟨#[115,105,103,110]⟩:ByteArray) zQ msg bm om cm rB [r,p] bn cn tn IP z1 z1 w lf kN hg
theorem nFo(hZ:FxOk Z)(x:Int)(msg:List UInt8)(bm om cm:Nat)(rB:msg.length<=100000000000)(w:World)(lf:cG w bm om msg)(hg:Glb w):Calls prog 27 #[.int .i64 x,.slice (some ⟨bm,om,none⟩) msg.length cm] w (av w (sa Z x msg)):=by
 have Rm:=lf.lt;have ew:=hg.lt;obtain⟨k,hk⟩:∃k,DM Z x msg=k:=⟨_,rfl⟩;obtain⟨e,he⟩:∃e,Ff Z (Z.ge 4 k).1 (Z.ge 4 x).1 msg=e:=⟨_,rfl⟩;refine enter (vs:=[_,_]) func27 rfl ntmps27 rfl ?_;refine B 2 ?_;refine aY zeroValue36 rfl rfl ?_;refine yW ?_;intro b4 dD dH;refine B 12 ?_;refine QR ?_;refine B 1 ?_;refine QR ?_;refine B 8 ?_;refine Rt (first:=[.int .i64 x]) (cap:=[]) rfl call32 rfl rfl rfl (λW hS=>nhi x W) ?_;refine B 3 ?_;refine aO ?_ ?_
 ·intro aj;refine B 3 ?_;refine WA ?_;refine B 5 ?_;refine bG (.inl rfl) results27 (RS.wA (i:=0) rfl isAgg36 sizeOf36 rfl (aT rfl) (RS.t rfl (RS.n))) A0 zS ?_;exact Fh Z x msg gM
 intro aj;refine B 6 ?_;refine EI ?_;refine yV ?_;intro DN DO Fi Fj ahd Ru KU;refine call call64 rfl rfl rfl (λW hS=>npo hZ x k msg hk rB bm om cm DN _ _ _ W (lf.old hS A1 zZ r4) (hS.old A0 Fi Fj r4) (hg.old hS A1 zU zP)) ?_;refine B 6 ?_;refine call call65 rfl rfl rfl (λW hS=>IK hZ _ W) ?_;refine B 4 ?_;refine V5 ?_;refine B 3 ?_;refine ng (E':=[(0,_),(1,_),(4,_),(5,_),(6,_),(7,_),(8,_),(9,_),(12,_),(13,_),(14,_),(15,_),(16,_),(17,_),(18,_),(19,_),(21,_),(22,_),(23,_),(24,_),(25,_),(26,_),(27,_),(28,_),(30,_)]) zR ?_;refine nK 13 [5] [([],some _),([],some _),([1],some (.int .i64 (Z.ge 4 k).1)),([],some _),([3],some _),([2,4],none),([0,5],some (.int .i64 e)),([],some _),([6,7],some _),([8],some _),([9],some _),([9],some _),([10],some _)] (λcv L' H'=>match cv with| []=>L'=[DO,w]/\H'=[(b4,.cells #[.int .i64 (Z.ge 4 k).1,.int .i64 0] 36 (0,0))]| [v1]=>∃(wM:Nat) (IS:World),v1= .slice (some ⟨wM,0,none⟩) 2 2/\L'=[IS,DO,w]/\H'=[(b4,.cells #[.int .i64 (Z.ge 4 k).1,.int .i64 0] 36 (0,0))]/\IS.heap[wM]? =some (.cells #[.int .i64 (Z.ge 4 k).1,.int .i64 (Z.ge 4 x).1] 3 (0,0))/\(DO.heap.size<=wM/\w.heap.size<=wM)/\b4≠wM/\¬Gh.no.X wM/\IS.heap.size=wM+1|_=>False) zT ⟨rfl,rfl⟩ zT zT zT zT zT zT (pc zW (pc KV (pc (λcv L' H' hd hP=>match cv,hd,hP with| [],hd,hP=>(by obtain⟨rfl,rfl⟩:=hP;exact X.val rfl rfl (aH (i:=0) rfl isAgg3 rfl rfl) R2)| [v1],hd,hP=>(by obtain⟨wM,IS,rfl,rfl,rfl,zu,zw,Fk,zx,Fl⟩:=hP;exact X.val rfl rfl (aH (i:=0) rfl isAgg3 rfl rfl) R2)|_::_::_,_,hP=>hP.elim) (pc zW (pc (by exact λcv L' H' hd hP=>nNn (first:=[.int .i64 x]) (cap:=[]) rfl call33 rfl rfl (λW hS _=>E9 hZ x W) (λ_=>rfl)) (pk (pc (λcv L' H' hd hP=>match cv,hd,hP with| [],hd,hP=>(absurd (show false=true from hd) zQ)| [v1],hd,hP=>(by obtain⟨wM,IS,rfl,rfl,rfl,zu,zw,Fk,zx,Fl⟩:=hP;exact nf call64 rfl rfl (λW hS _=>nui hZ _ _ e msg he rB bm om cm wM _ _ _ W (lf.old hS A2 zZ r4) (hS.old A0 zu zx r4) (hg.old hS A2 zU zP)) (λ_=>rfl))|_::_::_,_,hP=>hP.elim) (pc zW (pc (by exact λcv L' H' hd hP=>nf call66 rfl rfl (λW hS _=>nik _ _ W) (λ_=>rfl)) (pc zW (pc (by exact λcv L' H' hd hP=>X.val rfl rfl (gB rfl rfl) R2) (pc (by exact λcv L' H' hd hP=>X.val rfl rfl (gB rfl rfl) R2) (pc (by exact λcv L' H' hd hP=>X.val rfl rfl (kp rfl) R2) (pn)))))))))))))) ?_ ?_
 ·refine sc rfl rfl rfl ?_ ?_
  ·intro cv L' H' hl hP F Q' hk;obtain rfl:=jt hl;obtain⟨rfl,rfl⟩:=hP;refine EI ?_;intro wM IS zu zw Fk zx Fl;exact OJ.done (hk _ _ _ ⟨wM,IS,rfl,rfl,rfl,zu,⟨zw.1,zw.2.1⟩,Fk.1,zx,Fl⟩)
  exact sn
 intro cv L' H' hl hP;obtain⟨v1,rfl⟩:=di hl;obtain⟨wM,IS,rfl,rfl,rfl,zu,zw,Fk,zx,Fl⟩:=hP;refine B 7 ?_;refine call call67 rfl rfl rfl (λW hS=>nDo _ _ W) ?_;refine B 4 ?_;refine V5 ?_;refine B 7 ?_;refine WA ?_;refine B 4 ?_;refine bG (.inl rfl) results27 (RS.wA (i:=0) rfl isAgg36 sizeOf36 rfl (aT rfl) (RS.t rfl (RS.n))) A2 zS ?_;exact Fg hZ x k e msg gM hk he
theorem Fm(hZ:FxOk Z)(x:Int):yU x=if iG x then((Z.ge 4 x).1,0)else(0,50):=by
 unfold yU;split
 ·rename_i h;rw[<-hZ.ge,V6 h]
 rfl
theorem zy{P:Program}{ms:Array (String×TypeId)}(hU:P.underlying T=some (.interface ms))(d:Nat)(W:World):(Op.equalIn (d+1) T .nilIface .nilIface).run P W= .ok true W:=by
 exact O9
theorem Fp{U:Nat}{ms:Array (String×TypeId)}(hU:C.P.underlying T=some (.interface ms))(hx:ev E x=some .nilIface):RV C G L H E (.binOp .eql T x (.const .nilIface) U) (.bool true):=λd ty pos aB g a W hF _=>by
 have h0:a.eval (.const .nilIface)= .nilIface:=rfl;have h1:(eqGuard .eql T x (.const .nilIface) .nilIface .nilIface).run C.P W= .ok () W:=by simp[eqGuard]
 have h2:(binOp .eql T .nilIface .nilIface).run C.P W= .ok (.bool true) W:=by
  have e:binOp .eql T .nilIface .nilIface=(do pure (.bool (<-Op.equalIn (9999+1) T .nilIface .nilIface))):=rfl;rw[e,Sem.run_bind,zy hU];rfl
 simp only[execOp,hF.ev hx,h0,Sem.run_bind,h1,h2,Result.andThen];rfl
theorem nni(a:Int)(w:World):Calls prog 59 #[.int .i64 a] w (av w (.bool (decide (iG a)))):=by
 refine enter (vs:=[_]) func59 rfl ntmps59 rfl ?_;refine B 10 ?_;refine nh (t:=5) rfl (λaj=>?_) (λaj=>?_)
 ·replace aj:=ya aj;refine B 7 ?_;refine ay results59 rfl A0 ?_;refine vb (xU.2 ?_)
  (try simp only[decide_eq_true_eq,Bool.false_eq_true,false_iff,true_iff])
  first|omega|(intro h;omega)
 replace aj:=ya aj;refine B 7 ?_;refine ay results59 rfl A0 ?_;refine vb (xU.2 ?_)
 (try simp only[decide_eq_true_eq,Bool.false_eq_true,false_iff,true_iff])
 first|omega|(intro h;omega)
theorem n3b(a:Int)(h:iG a)(w:World):Calls prog 59 #[.int .i64 a] w (av w (.bool true)):=by
 have:=nni a w;rw[decide_eq_true h]at this;exact this
theorem nbh(b:Nat)(w:World):Calls prog 57 #[.nilIface,ptr b 0] w (av w (.tuple #[])):=by
 refine enter (vs:=[_,_]) func57 rfl ntmps57 rfl ?_;refine B 8 ?_;refine rv rfl rfl rfl (Fp underlying20 rfl) ?_;refine B 7 ?_;refine bG (.inr rfl) results57 (RS.n) A0 trivial ?_;rfl
theorem npd(e:Int)(w:World):Calls prog 58 #[.bool true,.int .i64 e] w (av w (.tuple #[])):=by
 refine enter (vs:=[_,_]) func58 rfl ntmps58 rfl ?_;refine B 8 ?_;refine bG (.inr rfl) results58 (RS.n) A0 trivial ?_;rfl
theorem n4f(n e:Int)(he:e=0)(w:World):Calls prog 61 #[.int .i64 n,.int .i64 e] w (av w (.int .i64 n)):=by
 refine enter (vs:=[_,_]) func61 rfl ntmps61 rfl ?_;refine B 9 ?_;refine z4h ?_;refine B 12 ?_;refine ay results61 rfl A0 ?_;rfl
theorem nHk(b:Nat)(w:World):CallsDIn (FW none) 0 prog 68 #[ptr b 0] .returning w (λe u' w'=>u'= .returning/\(∃v,e= .returned v)/\Below w.heap.size w w'):=by
 refine(nAj (vs:=[ptr b 0]) (R:=av w (.tuple #[])) .returning .returning .nilIface nEg func68 rfl ntmps68 rfl rfl (rR w) ?_).mono ?_
 ·refine call call57 rfl rfl rfl (λW hS=>nbh b W) ?_;refine B 1 ?_;exact bG (.inr rfl) results68 (RS.n) A0 trivial rfl
 rintro e u' w' ⟨rfl,rfl,hb⟩;exact⟨rfl,⟨_,rfl⟩,hb⟩
theorem nwl(a b:Int)(ha:iG a)(hb:iG b)(w:World):Calls prog 29 #[.int .i64 a,.int .i64 b] w (av w (.tuple #[.int .i64 (kr b (oS a).1).1,.int .i64 0])):=by
 have hsi:(oS a).2=0/\oR (oS a).1:=by
  unfold oS;have h1:oR a:=⟨by unfold iG at ha;omega,by unfold iG at ha;omega⟩;rw[if_pos h1,if_neg (by unfold iG at ha;omega)];exact⟨rfl,VW _ _ _ zQ⟩
 have DI:(kr b (oS a).1).2=0:=by
  unfold kr;rw[if_pos ⟨⟨by unfold iG at hb;omega,by unfold iG at hb;omega⟩,hsi.2⟩]
 refine ntl (vs:=[_,_]) Gh.no [] func29 rfl ntmps29 rfl (rR w) ?_;refine B 3 ?_;refine Pa ?_;refine yW ?_;intro b5 iu iv;refine zLi ?_;refine call call59 rfl rfl rfl (λW hS=>n3b a ha W) ?_;refine B 2 ?_;refine call call59 rfl rfl rfl (λW hS=>n3b b hb W) ?_;refine B 1 ?_;refine call call58 rfl rfl rfl (λW hS=>npd _ W) ?_;refine B 6 ?_;refine call call69 rfl rfl rfl (λW hS=>nop _ W) ?_;refine B 2 ?_;refine call call61 rfl rfl rfl (λW hS=>n4f _ _ hsi.1 W) ?_;refine call call66 rfl rfl rfl (λW hS=>nik _ _ W) ?_;refine B 2 ?_;refine call call61 rfl rfl rfl (λW hS=>n4f _ _ DI W) ?_;refine B 1 ?_;refine aV (i:=0) rfl sizeOf67 rfl rfl rfl rfl rfl rfl ?_;refine B 3 ?_;refine Rv (.inl rfl) call68 (λW hS=>nHk b5 W) results29 (RS.t rfl (RS.w (i:=0) rfl isAgg67 rfl rfl RS.n)) (λW hS=>⟨rfl,hS.base A0 wN⟩)
def dt (f:Nat->Int):List UInt8:=(List.range 32).map λi=>UInt8.ofNat (f i).toNat
theorem nO(f:Nat->Int):(dt f).length=32:=by simp[dt]
theorem WB(f:Nat->Int)(hf:jq f)(i:Nat)(h:i<32):fU (dt f) i=f i:=by
 have:=hf i;simp only[fU,dt,rC,List.getElem?_range h,wO,Option.getD_some,UInt8.toNat_ofNat'];omega
theorem cG.dg{w:World}{t:Nat}{f:Nat->Int}(h:w.heap[b]? =some (.cells (dg f) t fr))(hf:jq f):cG w b 0 (dt f):=
 ⟨_,_,_,h,by rw[nO];exact ao 32,λi hi=>by rw[nO]at hi;rw[jg,pI f i hi,WB f hf i hi]⟩
theorem nOj(hZ:FxOk Z)(s:ByteArray)(hs0:s.size<1000)(xs:List UInt8)(hn:xs.length<900000000000)(b off c:Nat)(hc:xs.length<=c)(w:World)(h:cG w b off xs)(hg:Glb w):Calls prog 108 #[.string s,.slice (some ⟨b,off,none⟩) xs.length c] w (av w (.agg (Px.dg (Z.tg s xs)))):=by
 rw[<-hZ.tg];obtain⟨cs,t,fr,h1,h2,h3⟩:=h;obtain⟨⟨t2,ry,g1⟩,t3,uh,g2⟩:=hg;exact nDg s xs.length (fU xs) b off c t t2 t3 fr ry uh cs hs0 hc zM w h1 h2 h3 g1 g2
def cx (s:Value) (r:Int):Array Value:=#[s,.int .i64 0,.int .i8 r]
def rD (n:Nat):List Value:=List.replicate n (.int .u8 0)
theorem Fq(bI:Nat)(lr:Int)(t:Nat)(fr:Nat×Nat)(w:World)(mA:w.heap[bI]? =some (.cells (cx (.slice none 0 0) lr) t fr)):Calls prog 286 #[ptr bI 0] w (av w (.int .i64 0)):=by
 have tX:¬Gh.no.X bI:=λh=>h;refine enter (vs:=[_]) func286 rfl ntmps286 rfl ?_;refine B 6 ?_;refine ng (E':=[(0,_),(2,_)]) ⟨rfl,rfl,trivial⟩ ?_;refine nk 9 [.det [] _,.det [0] _,.det [1] _,.det [2] _,.det [3] _,.det [] _,.det [5] _,.det [6] _,.det [7] _] zT (xc zO (xc ER (xc (by exact λae=>X.val rfl rfl (ak underlying281 rfl sizeOf64 rfl) (λ_ _=>rfl)) (xc zke (xc (by exact λae=>X.val rfl rfl (iP underlying64 rfl) (λ_ _=>rfl)) (xc zO (xc ER (xc (by exact λae=>X.val rfl rfl (ak underlying281 rfl sizeOf3 rfl) (λ_ _=>rfl)) (xc zme (xn)))))))))) zT zT zT (λae=>?_);refine B 5 ?_;refine ay results286 rfl A0 ?_;rfl
theorem nOh(bI:Nat)(lr:Int)(t:Nat)(fr:Nat×Nat)(n:Nat)(hn:0<n)(w:World)(mA:w.heap[bI]? =some (.cells (cx (.slice none 0 0) lr) t fr)):Calls prog 245 #[ptr bI 0,.int .i64 (n:Int)] w (av w (.tuple #[.int .i64 0,.bool false])):=by
 have tX:¬Gh.no.X bI:=λh=>h;refine enter (vs:=[_,_]) func245 rfl ntmps245 rfl ?_;refine B 27 ?_;refine zpg ?_;refine B 12 ?_;refine nS results245 rfl rfl A0 ?_ ?_;all_goals rfl
theorem n0m(bI bR m c n:Nat)(lr:Int)(t:Nat)(hc:m+n<=c)(aQ:c<=1000000)(w:World)(hb:w.heap[bI]? =some (.cells (cx (bB bR m c) lr) t (0,0))):Calls prog 245 #[ptr bI 0,.int .i64 (n:Int)] w (sd w [bI] (λ_:Unit=>.tuple #[.int .i64 (m:Int),.bool true]) (λ_=>[(bI,.cells (cx (bB bR (m+n) c) lr) t (0,0))]) (λ_=>True)):=by
 have jN:=(aL.1 hb).1;refine nM (vs:=[_,_]) (Gh.lent (λk=>k∈keys [(bI,.cells (cx (bB bR m c) lr) t (0,0))])) [(bI,.cells (cx (bB bR m c) lr) t (0,0))] func245 rfl ntmps245 rfl (Rx (gS.mem ⟨hb,trivial⟩) (Ry _)) ?_;refine B 27 ?_;refine WC ?_;refine B 12 ?_;refine rq (.int .i64 ((m+n:Nat):Int)) (qv rfl rfl zM zM) (vi zM) ?_;refine rv rfl rfl rfl (gn (h:=m+n) underlying64 sizeOf5 rfl ⟨_,_,rfl,rfl⟩ zM) ?_;refine B 2 ?_;refine kq (i:=0) rfl sizeOf64 rfl rfl rfl rfl (aT rfl) rfl ?_;refine B 11 ?_;exact zz (Hz:=[(bI,.cells (cx (bB bR m c) lr) t (0,0))]) (H0:=[]) () (.inl rfl) results245 ((RS.t rfl (RS.t rfl RS.n))) A0 Rz rfl RA
theorem mkz(c:Nat):cf c (λ_=>Value.int .u8 0)=(ub ([]:List UInt8)++rD c).toArray:=by
 apply Array.ext';simp[cf,ub,rD,List.map_const']
theorem zA(c n:Nat):(rD c).drop n=rD (c-n):=by simp[rD,List.drop_replicate]
theorem nhj(n:Nat):(rD n).length=n:=by simp[rD]
theorem nom(xs zs:List UInt8)(sp:List Value)(h:zs.length<=sp.length):setCells (ub xs++sp).toArray xs.length (ub zs)=(ub (xs++zs)++sp.drop zs.length).toArray:=by
 apply Array.ext';rw[Pb];show gT (ub xs++sp) xs.length (ub zs)=ub (xs++zs)++sp.drop zs.length;have hs:sp=sp.take zs.length++sp.drop zs.length:=(yj _ _).symm;conv=>lhs;rw[hs]
 rw[<-wJ xs,WD _ _ _ _ (by rw[wJ,kx];omega),zB,iH]
theorem zC(bI n:Nat)(lr:Int)(t:Nat)(hn0:0<n)(hn:n<=64)(w:World)(hb:w.heap[bI]? =some (.cells (cx (.slice none 0 0) lr) t (0,0))):Calls prog 246 #[ptr bI 0,.int .i64 (n:Int)] w (sd w [bI] (λ_:Nat=>.int .i64 0) (λbR=>[(bI,.cells (cx (bB bR n 64) lr) t (0,0)),(bR,.cells (cf 64 (λ_=>.int .u8 0)) 5 (0,0))]) (λ_=>True)):=by
 have jN:=(aL.1 hb).1;refine nM (vs:=[_,_]) (Gh.lent (λk=>k∈keys [(bI,.cells (cx (.slice none 0 0) lr) t (0,0))])) [(bI,.cells (cx (.slice none 0 0) lr) t (0,0))] func246 rfl ntmps246 rfl (Rx (gS.mem ⟨hb,trivial⟩) (Ry _)) ?_;refine B 8 ?_;refine call call286 rfl rfl rfl (λW hS=>Fq bI lr _ _ W (hS.own _ A0)) ?_;refine B 7 ?_;refine DC ?_;refine B 5 ?_;refine yk ?_;refine B 11 ?_;refine call call245 rfl rfl rfl (λW hS=>nOh bI lr _ _ n hn0 W (hS.own _ A0)) ?_;refine B 22 ?_;refine rv rfl rfl rfl (KW underlying64 rfl rfl) ?_;refine B 2 ?_;refine WC ?_;refine B 8 ?_;refine QS (ln:=n) (cp:=64) underlying64 QP rfl rfl rfl rfl rfl rfl rfl zM zQ zM ?_;intro b41 RB aan;replace RB:=yb RB;try simp only[bE,ne_eq,and_true]at aan
 refine B 2 ?_;refine kq (i:=1) rfl sizeOf64 rfl rfl rfl rfl (aT rfl) rfl ?_;refine B 9 ?_;refine PJ.swp ?_;exact zz (Hz:=[(bI,.cells (cx (.slice none 0 0) lr) t (0,0))]) (H0:=[]) b41 (.inl rfl) results246 (RS.t rfl RS.n) A0 Rz rfl RA
theorem Rd.seg{off c:Nat}(hm:w1∈L)(h:cG w1 b off zs)(hG:¬G.X b)(hO:bE H b):Rd C G L H 1 zs.length (.slice (some ⟨b,off,none⟩) zs.length c) (ub zs):=by
 obtain⟨cs,t,fr,h1,h2,h3⟩:=h;exact Rd.old hm h1 hG hO zM (by rw[ZI h2 h3,<-nqn])
theorem RC(zs:List UInt8):nU (ub zs)=true:=by
 induction zs with
 |nil=>rfl
 |cons z zs ih=>simp only[ub,eF,nU,ui,Bool.true_and];exact ih
theorem nxk(bI:Nat)(lr:Int)(t:Nat)(zs:List UInt8)(bz oz cz:Nat)(hz0:0<zs.length)(fW:zs.length<=64)(w:World)(hb:w.heap[bI]? =some (.cells (cx (.slice none 0 0) lr) t (0,0)))(zD:cG w bz oz zs)(dG:bz≠bI):Calls prog 182 #[ptr bI 0,.slice (some ⟨bz,oz,none⟩) zs.length cz] w (sd w [bI] (λ_:Nat=>.tuple #[.int .i64 (zs.length:Int),.nilIface]) (λbR=>[(bI,.cells (cx (bB bR zs.length 64) 0) t (0,0)),(bR,bj 5 zs (rD (64-zs.length)))]) (λ_=>True)):=by
 have jN:=(aL.1 hb).1;have aN:=zD.lt;refine nM (vs:=[_,_]) (Gh.lent (λk=>k∈keys [(bI,.cells (cx (.slice none 0 0) lr) t (0,0))])) [(bI,.cells (cx (.slice none 0 0) lr) t (0,0))] func182 rfl ntmps182 rfl (Rx (gS.mem ⟨hb,trivial⟩) (Ry _)) ?_;refine B 11 ?_;refine kq (i:=0) rfl sizeOf279 rfl rfl rfl rfl (aT rfl) rfl ?_;refine B 7 ?_;refine call call245 rfl rfl rfl (λW hS=>nOh bI 0 _ _ zs.length hz0 W (hS.own _ A0)) ?_;refine B 19 ?_;refine RD (Hz:=[(bI,.cells (cx (.slice none 0 0) 0) t (0,0))]) (H0:=[]) (first:=[]) (cap:=[]) (v:=λ_:Nat=>.int .i64 0) (Hn:=λbR=>[(bI,.cells (cx (bB bR zs.length 64) 0) t (0,0)),(bR,.cells (cf 64 (λ_=>.int .u8 0)) 5 (0,0))]) (Φ:=λ_=>True) rfl rfl call246 rfl rfl rfl ⟨.inl (by simp[Gh.lent,keys]),trivial⟩ (λW hS=>zC bI zs.length 0 t hz0 fW W (hS.own _ A0)) ?_;rintro bR-rE;have RE:bR=bI\/w.heap.size<=bR:=by
  rcases rE (bR,_) A1 with h|h
  ·left;simpa[keys]using h
  right;exact h.1.1
 refine OJ.reH (H':=[(bI,.cells (cx (bB bR zs.length 64) 0) t (0,0)),(bR,bj 5 [] (rD 64))]) (by rw[mkz];rfl) ?_;refine B 10 ?_;refine rv rfl rfl rfl (iw (l:=0) (h:=zs.length) (off':=0) underlying64 sizeOf5 rfl ⟨_,_,rfl,rfl⟩ rfl zM zM (by rw[if_neg zM])) ?_;refine B 1 ?_;refine V8 (i:=1) (m:=1) (n:=zs.length) (k:=zs.length) (news:=ub zs) rfl underlying64 sizeOf5 rfl rfl rfl rfl (λ_=>rfl) zM (Rd.seg A0 zD (by simp[Gh.lent,keys]<;>omega) r4) (by simp only[rU,cC,wJ,nhj];omega) (RC _) ?_;refine B 5 ?_;refine PJ.reH (H':=[(bI,.cells (cx (bB bR zs.length 64) 0) t (0,0)),(bR,bj 5 zs (rD (64-zs.length)))]) (by have:=nom [] zs (rD 64) (by rw[nhj];omega);simp only[lF,eg]at this;simp only[fk,dC,bj];rw[this,zA]) ?_;exact zz (Hz:=[(bI,.cells (cx (.slice none 0 0) lr) t (0,0))]) (H0:=[]) bR (.inl rfl) results182 (RS.t rfl (RS.t rfl RS.n)) A0 Rz rfl RA
theorem nrk(bI bR t:Nat)(xs:List UInt8)(sp:List Value)(zs:List UInt8)(bz oz cz:Nat)(fW:xs.length+zs.length<=64)(zE:sp.length=64-xs.length)(hx:xs.length<64)(w:World)(hb:w.heap[bI]? =some (.cells (cx (bB bR xs.length 64) 0) t (0,0)))(RE:w.heap[bR]? =some (bj 5 xs sp))(hIR:bI≠bR)(zD:cG w bz oz zs)(dG:bz≠bI)(wP:bz≠bR):Calls prog 182 #[ptr bI 0,.slice (some ⟨bz,oz,none⟩) zs.length cz] w (sd w [bI,bR] (λ_:Unit=>.tuple #[.int .i64 (zs.length:Int),.nilIface]) (λ_=>[(bI,.cells (cx (bB bR (xs++zs).length 64) 0) t (0,0)),(bR,bj 5 (xs++zs) (sp.drop zs.length))]) (λ_=>True)):=by
 have jN:=(aL.1 hb).1;have zi:=(aL.1 RE).1;have aN:=zD.lt;refine nM (vs:=[_,_]) (Gh.lent (λk=>k∈keys [(bI,.cells (cx (bB bR xs.length 64) 0) t (0,0)),(bR,bj 5 xs sp)])) [(bI,.cells (cx (bB bR xs.length 64) 0) t (0,0)),(bR,bj 5 xs sp)] func182 rfl ntmps182 rfl (Rx (gS.mem ⟨hb,RE,trivial⟩) (RF hIR)) ?_;refine B 11 ?_;refine kq (i:=0) rfl sizeOf279 rfl rfl rfl rfl (aT rfl) rfl ?_;refine B 7 ?_;refine RD (Hz:=[(bI,.cells (cx (bB bR xs.length 64) 0) t (0,0))]) (H0:=[(bR,bj 5 xs sp)]) (first:=[]) (cap:=[]) (v:=λ_:Unit=>.tuple #[.int .i64 (xs.length:Int),.bool true]) (Hn:=λ_=>[(bI,.cells (cx (bB bR (xs.length+zs.length) 64) 0) t (0,0))]) (Φ:=λ_=>True) rfl rfl call245 rfl rfl rfl ⟨.inl (by simp[Gh.lent,keys]),trivial⟩ (λW hS=>n0m bI bR xs.length 64 zs.length 0 t zM zQ W (hS.own _ A0)) ?_;rintro _-rE;refine OJ.reH (H':=[(bI,.cells (cx (bB bR (xs.length+zs.length) 64) 0) t (0,0)),(bR,bj 5 xs sp)]) rfl ?_;refine B 24 ?_;refine rv rfl rfl rfl (iw (l:=xs.length) (h:=xs.length+zs.length) (off':=xs.length) underlying64 sizeOf5 rfl ⟨_,_,rfl,rfl⟩ rfl zM zM (by rw[if_neg zM];omega)) ?_;refine B 1 ?_;refine V8 (i:=1) (m:=1) (n:=zs.length) (k:=zs.length) (news:=ub zs) rfl underlying64 sizeOf5 rfl rfl rfl rfl (λ_=>rfl) zM (Rd.seg A0 zD (by simp[Gh.lent,keys]<;>omega) r4) (by simp only[rU,cC,wJ];omega) (RC _) ?_
 refine B 5 ?_;refine PJ.reH (H':=[(bI,.cells (cx (bB bR (xs++zs).length 64) 0) t (0,0)),(bR,bj 5 (xs++zs) (sp.drop zs.length))]) (by have:=nom xs zs sp zM;show[(bI,_),(bR,Obj.cells (setCells (ub xs++sp).toArray xs.length (ub zs)) _ _)]=_;rw[this,cC];first|done|rfl) ?_;exact zz (Hz:=[(bI,.cells (cx (bB bR xs.length 64) 0) t (0,0)),(bR,bj 5 xs sp)]) (H0:=[]) () (.inl rfl) results182 (RS.t rfl (RS.t rfl RS.n)) A0 Rz rfl RA
theorem nTo(bI bR n:Nat)(lr:Int)(t:Nat)(fr:Nat×Nat)(hn:n<=64)(w:World)(mA:w.heap[bI]? =some (.cells (cx (bB bR n 64) lr) t fr)):Calls prog 247 #[ptr bI 0] w (av w (bB bR n 64)):=by
 have tX:¬Gh.no.X bI:=λh=>h;refine enter (vs:=[_]) func247 rfl ntmps247 rfl ?_;refine B 6 ?_;refine ng (E':=[(0,_),(2,_)]) ⟨rfl,rfl,trivial⟩ ?_;refine nk 8 [.det [] _,.det [0] _,.det [1] _,.det [2] _,.det [] _,.det [4] _,.det [5] _,.det [6] _] zT (xc zO (xc ER (xc (by exact λae=>X.val rfl rfl (ak underlying281 rfl sizeOf64 rfl) (λ_ _=>rfl)) (xc zke (xc zO (xc ER (xc (by exact λae=>X.val rfl rfl (ak underlying281 rfl sizeOf3 rfl) (λ_ _=>rfl)) (xc zme (xn))))))))) zT zT zT (λae=>?_);refine rv rfl rfl rfl (iw (l:=0) (h:=n) (off':=0) underlying64 sizeOf5 rfl ⟨_,_,rfl,rfl⟩ rfl zM zM (by rw[if_neg zM])) ?_;refine B 4 ?_;refine ay results247 rfl A0 ?_;rfl
theorem nDk(bI t:Nat)(f:Nat->Int)(b3 t3:Nat)(uh:Nat×Nat)(hf:jq f)(w:World)(hb:w.heap[bI]? =some (.cells (cx (.slice none 0 0) 0) t (0,0)))(aJ:w.heap[b3]? =some (.cells (dg f) t3 uh))(dG:b3≠bI):Calls prog 182 #[ptr bI 0,.slice (some ⟨b3,0,none⟩) 32 32] w (sd w [bI] (λ_:Nat=>.tuple #[.int .i64 32,.nilIface]) (λbR=>[(bI,.cells (cx (bB bR 32 64) 0) t (0,0)),(bR,bj 5 (dt f) (rD 32))]) (λ_=>True)):=by
 have h:=nxk bI 0 t (dt f) b3 0 32 (by rw[nO];decide) (by rw[nO];decide) w hb (cG.dg aJ hf) dG;simp only[nO]at h;exact h
theorem nao(bI t:Nat)(f:Nat->Int)(hf:jq f)(w:World)(hb:w.heap[bI]? =some (.cells (cx (.slice none 0 0) 0) t (0,0))):Calls prog 181 #[ptr bI 0,.agg (dg f)] w (sd w [bI] (λ_:Nat=>ptr bI 0) (λbR=>[(bI,.cells (cx (bB bR 32 64) 0) t (0,0)),(bR,bj 5 (dt f) (rD 32))]) (λ_=>True)):=by
 have jN:=(aL.1 hb).1;refine nM (vs:=[_,_]) (Gh.lent (λk=>k∈keys [(bI,.cells (cx (.slice none 0 0) 0) t (0,0))])) [(bI,.cells (cx (.slice none 0 0) 0) t (0,0))] func181 rfl ntmps181 rfl (Rx (gS.mem ⟨hb,trivial⟩) (Ry _)) ?_;refine B 2 ?_;refine yX ?_;intro b3 w3 aJ aD dr bY cR;refine ZX ?_;refine nk 4 [.det [] _,.det [0] _,.det [1] _,.det [] _] zT (xc zO (xc ER (xc (by exact λae=>X.val rfl rfl (ak underlying283 rfl sizeOf281 rfl) (λ_ _=>rfl)) (xc (by exact λae=>X.val rfl rfl (k9 (h:=32) underlying61 sizeOf5 rfl rfl zM) (λ_ _=>rfl)) (xn))))) zT zT zT (λae=>?_);refine RD (Hz:=[(bI,.cells (cx (.slice none 0 0) 0) t (0,0))]) (H0:=[]) (first:=[]) (cap:=[]) (v:=λ_:Nat=>.tuple #[.int .i64 32,.nilIface]) (Hn:=λbR=>[(bI,.cells (cx (bB bR 32 64) 0) t (0,0)),(bR,bj 5 (dt f) (rD 32))]) (Φ:=λ_=>True) rfl rfl call182 rfl rfl rfl ⟨.inl (by simp[Gh.lent,keys]),trivial⟩ (λW hS=>nDk bI t f b3 _ _ hf W (hS.own _ A0) (hS.old A0 aJ aD (by simp[bE]<;>omega)) zM) ?_;rintro bR-rE;have RE:bR=bI\/w.heap.size<=bR:=by
  rcases rE (bR,_) A1 with h|h
  ·left;simpa[keys]using h
  right;exact h.1.2.1
 refine B 9 ?_;exact zz (Hz:=[(bI,.cells (cx (.slice none 0 0) 0) t (0,0))]) (H0:=[]) bR (.inl rfl) results181 (RS.t rfl RS.n) A1 Rz rfl RA
theorem nQl(hZ:FxOk Z)(bI bR t:Nat)(s:ByteArray)(hs0:s.size<1000)(xs:List UInt8)(ck:xs.length<=64)(w:World)(hb:w.heap[bI]? =some (.cells (cx (bB bR xs.length 64) 0) t (0,0)))(hR:cG w bR 0 xs)(hg:Glb w):Calls prog 183 #[ptr bI 0,.string s] w (av w (.agg (dg (Z.tg s xs)))):=by
 have jN:=(aL.1 hb).1;have hRl:=hR.lt;have ew:=hg.lt;obtain⟨df,jv⟩:∃df,Z.tg s xs=df:=⟨_,rfl⟩;refine enter (vs:=[_,_]) func183 rfl ntmps183 rfl ?_;refine B 2 ?_;refine aY zeroValue61 rfl rfl ?_;refine yW ?_;intro b4 dD dH;refine B 8 ?_;refine call call247 rfl rfl rfl (λW hS=>nTo bI bR xs.length 0 t _ ck W (hS.old A0 hb zZ r4)) ?_;refine call call108 rfl rfl rfl (λW hS=>by rw[<-jv];exact nOj hZ s hs0 xs zM bR 0 64 ck W (hR.old hS A0 zZ r4) (hg.old hS A0 zU zP)) (v:=.agg (dg df)) ?_;refine aV (i:=0) rfl sizeOf61 rfl rfl rfl rfl rfl rfl ?_;refine B 3 ?_;refine bG (.inl rfl) results183 (RS.wA (i:=0) rfl isAgg61 sizeOf61 rfl (aT rfl) (RS.n)) A0 zS ?_;rw[jv];rfl
def ky (s:ByteArray):List UInt8:=(V.list [.text s]).enc
theorem n2h(s:ByteArray)(h:s.size<128):(ky s).length=4+s.size:=by
 have h1:num 1=[UInt8.ofNat 1]:=Ra zQ;have h2:=Ra h;have h3:s.data.toList.length=s.size:=Array.length_toList;simp[ky,V.enc,V.encL,h1,h2,h3];omega
theorem zF(s:ByteArray)(h:s.size<128):(V.list [.text s]).fine:=by
 simp[V.fine,V.fineL,V.depthL,V.depth];omega
theorem nIo(s:ByteArray):(V.list [.text s]).depth<=16:=by simp[V.depth,V.depthL]
theorem KX(s:ByteArray)(N b t:Nat)(fr:Nat×Nat)(w:World)(hb:b<N)(h:w.heap[b]? =some (.cells #[.int .i64 2,.int .i64 0,.string s,.slice none 0 0] t fr)):ef N w (.list [.text s]) (vL (some ⟨b,0,none⟩) 1 1):=by
 simp only[ef,fb];exact⟨_,_,rfl,ao _,.inr ⟨b,_,t,fr,rfl,hb,h,ao 4,rfl,trivial⟩⟩
def zK:Array Value:=cf 32 (λ_=>.int .u8 0)
def wQ (Z:Fx) (f:Nat->Int) (s:ByteArray):Nat->Int:=Z.tg (⟨#[100,101,114,105,118,101]⟩:ByteArray) (dt f++ky s)
def IT (Z:Fx) (f:Nat->Int) (s:ByteArray):Int:=Z.sc (⟨#[115,99,97,108,97,114]⟩:ByteArray) (dt (wQ Z f s))
theorem nqk(hZ:FxOk Z)(f:Nat->Int)(hf:jq f)(s:ByteArray)(RG:s.size<=28)(w:World)(hg:Glb w):Calls prog 114 #[.agg (dg f),.string s,.slice none 0 0] w (av w (.agg (dg (wQ Z f s)))):=by
 have jF:s.size<128:=by omega
 have hpl:=n2h s jF;have ew:=hg.lt;obtain⟨df,jv⟩:∃df,Z.tg (⟨#[100,101,114,105,118,101]⟩:ByteArray) (dt f++ky s)=df:=⟨_,rfl⟩;refine enter (vs:=[_,_,_]) func114 rfl ntmps114 rfl ?_;refine B 2 ?_;refine yX ?_;intro b3 w3 aJ aD dr bY cR;refine aY zeroValue61 rfl rfl ?_;refine yW ?_;intro b6 gm kg;refine B 5 ?_;refine WE ?_;refine zih ?_;refine yV ?_;intro eo WG aat aau ahe iC Fs;refine B 12 ?_;refine CJ.loop (α:=Unit) (λp=>[(3,ptr b3 0),(6,ptr b6 0),(7,.slice (some ⟨eo,0,none⟩) 1 1),(17,.int .i64 0),(18,.int .i64 0)]) (λp=>[(b6,.cells (zK) 61 (0,0))]) (λp=>[WG,w3,w]) (λp=>Gh.no) (λp=>True) (λp=>0) () trivial zR rfl rfl z1 ?_;rintro⟨⟩ -;refine KY ?_;refine B 12 ?_;refine WE ?_;refine nGj (ys:=ky s) call107 rfl rfl rfl (λW hS=>nPe [.text s] (zF s jF) (nIo s) (by have:=n2h s jF;unfold ky at this;omega) WG.heap.size (some ⟨eo,0,none⟩) 1 W (hS.links _ A0).size (KX s _ eo _ _ W zM (hS.old A0 aat aau r4))) ?_;intro gC c31 s31 jQ KZ ahf ahg;replace jQ:=yb jQ;replace KZ:=ye KZ;refine B 9 ?_;refine aY zeroValue283 rfl rfl ?_;refine yW ?_;intro jH Ft Fu;refine B 4 ?_;refine rv rfl rfl rfl (af isAgg61 sizeOf61 rfl A1 aJ aD zL rfl) ?_;refine RD (Hz:=[(jH,.cells (cx (.slice none 0 0) 0) 283 (0,0))]) (H0:=[(gC,bj 5 (ky s) s31),(b6,.cells (zK) 61 (0,0))]) (first:=[]) (cap:=[]) (v:=λ_:Nat=>ptr jH 0) (Hn:=λbR=>[(jH,.cells (cx (bB bR 32 64) 0) 283 (0,0)),(bR,bj 5 (dt f) (rD 32))]) (Φ:=λ_=>True) rfl rfl call181 rfl rfl rfl ⟨.inr ⟨by omega,by omega,by omega,trivial⟩,trivial⟩ (λW hS=>nao jH 283 f hf W (hS.own _ A0)) ?_
 rintro bR-rE;have RE:bR=jH\/(WG.heap.size<=bR/\w3.heap.size<=bR/\w.heap.size<=bR/\gC≠bR/\b6≠bR):=by
  rcases rE (bR,_) A1 with h|h
  ·left;simpa[keys]using h
  right;obtain⟨⟨h1,h2,h3,_⟩,h4⟩:=h;simp only[bE]at h4;exact⟨h1,h2,h3,h4.2.1,h4.2.2.1⟩
 refine B 3 ?_;refine nsi (i:=0) (j:=1) rfl rfl zQ λhIR=>?_;refine nsi (i:=1) (j:=2) rfl rfl zQ λahh=>?_;refine RD (Hz:=[(jH,.cells (cx (bB bR (dt f).length 64) 0) 283 (0,0)),(bR,bj 5 (dt f) (rD 32))]) (H0:=[(gC,bj 5 (ky s) s31),(b6,.cells (zK) 61 (0,0))]) (first:=[]) (cap:=[]) (v:=λ_:Unit=>.tuple #[.int .i64 ((ky s).length:Int),.nilIface]) (Hn:=λ_=>[(jH,.cells (cx (bB bR (dt f++ky s).length 64) 0) 283 (0,0)),(bR,bj 5 (dt f++ky s) ((rD 32).drop (ky s).length))]) (Φ:=λ_=>True) (by rw[nO]) rfl call182 rfl rfl rfl ⟨.inr ⟨by omega,by omega,by omega,trivial⟩,.inr ⟨by omega,by omega,by omega,trivial⟩,trivial⟩ (λW hS=>nrk jH bR 283 (dt f) (rD 32) (ky s) gC 0 c31 (by rw[nO,n2h s jF];omega) (by rw[nhj,nO]) (by rw[nO];decide) W (hS.own _ A0) (hS.own _ A1) hIR (cG.row (hS.own _ A2)) zM zM) ?_;rintro _-mU;refine B 4 ?_;refine call call183 rfl rfl rfl (λW hS=>by rw[<-jv];exact nQl hZ jH bR 283 (⟨#[100,101,114,105,118,101]⟩:ByteArray) zQ (dt f++ky s) (by rw[cC,nO];omega) W (hS.own _ A0) (cG.row (hS.own _ A1)) (hg.old hS A2 zU (by simp[Over]<;>omega))) (v:=.agg (dg df)) ?_;refine aV (i:=3) rfl sizeOf61 rfl rfl rfl rfl rfl rfl ?_;refine B 3 ?_;refine bG (.inl rfl) results114 (RS.wA (i:=3) rfl isAgg61 sizeOf61 rfl (aT rfl) (RS.n)) A2 zS ?_
 rw[show wQ Z f s=df from jv];rfl
theorem zG(hZ:FxOk Z)(s:ByteArray)(hs0:s.size<1000)(f:Nat->Int)(hf:jq f)(b t:Nat)(fr:Nat×Nat)(w:World)(h:w.heap[b]? =some (.cells (dg f) t fr))(hg:Glb w):Calls prog 110 #[.string s,.slice (some ⟨b,0,none⟩) 32 32] w (av w (.int .i64 (Z.sc s (dt f)))):=by
 have:=IL hZ s hs0 (dt f) (by rw[nO];decide) b 0 32 (by rw[nO];decide) w (cG.dg h hf) hg;rwa[nO]at this
theorem Fv(hZ:FxOk Z)(f:Nat->Int)(s:ByteArray):jq (wQ Z f s):=hZ.byt _ _
theorem nJk(hZ:FxOk Z)(f:Nat->Int)(hf:jq f)(s:ByteArray)(RG:s.size<=28)(w:World)(hg:Glb w):Calls prog 70 #[.agg (dg f),.string s] w (av w (.int .i64 (IT Z f s))):=by
 have ew:=hg.lt;have hB:=Fv hZ f s;obtain⟨df,jv⟩:∃df,wQ Z f s=df:=⟨_,rfl⟩;rw[jv]at hB;refine enter (vs:=[_,_]) func70 rfl ntmps70 rfl ?_;refine B 2 ?_;refine yX ?_;intro b2 w2 aI aE dY cA db;refine B 5 ?_;refine rv rfl rfl rfl (af isAgg61 sizeOf61 rfl A0 aI aE trivial rfl) ?_;refine B 1 ?_;refine call call114 rfl rfl rfl (λW hS=>by rw[<-jv];exact nqk hZ f hf s RG W (hg.old hS A1 zU zP)) (v:=.agg (dg df)) ?_;refine aY zeroValue61 rfl rfl ?_;refine yW ?_;intro b5 iu iv;refine aV (i:=0) rfl sizeOf61 rfl rfl rfl rfl rfl rfl ?_;refine B 4 ?_;refine rv rfl rfl rfl (k9 (h:=32) underlying61 sizeOf5 rfl rfl zM) ?_;refine call call110 rfl rfl rfl (λW hS=>zG hZ (⟨#[115,99,97,108,97,114]⟩:ByteArray) zQ df hB b5 _ _ W (hS.own _ A0) (hg.old hS A1 zU zP)) ?_;refine B 4 ?_;refine bG (.inl rfl) results70 (RS.t rfl (RS.n)) A1 zS ?_;unfold IT;rw[jv];rfl
theorem nnk(hZ:FxOk Z)(f:Nat->Int)(hf:jq f)(w:World)(hg:Glb w):Calls prog 30 #[.agg (dg f)] w (av w (.int .i64 (IT Z f (⟨#[108,105,110,107]⟩:ByteArray)))):=by
 have ew:=hg.lt;refine enter (vs:=[_]) func30 rfl ntmps30 rfl ?_;refine B 2 ?_;refine yX ?_;intro b1 w1 aP aX fW eb ir;refine B 5 ?_;refine rv rfl rfl rfl (af isAgg61 sizeOf61 rfl A0 aP aX trivial rfl) ?_;refine call call70 rfl rfl rfl (λW hS=>nJk hZ f hf (⟨#[108,105,110,107]⟩:ByteArray) zQ W (hg.old hS A1 zU zP)) ?_;refine B 4 ?_;refine ay results30 rfl A1 ?_;rfl
structure Lk where
 fo:Int
 by_:Int
 pub:Int
 ver:Int
 exp:Int
 resh:Bool
 par:Nat->Int
 sr:Int
 ss:Int
def lkC (l:Lk):Array Value:=#[.int .i64 l.fo,.int .i64 l.by_,.int .i64 l.pub,.int .i64 l.ver,.int .i64 l.exp,.bool l.resh,.int .u8 (l.par 0),.int .u8 (l.par 1),.int .u8 (l.par 2),.int .u8 (l.par 3),.int .u8 (l.par 4),.int .u8 (l.par 5),.int .u8 (l.par 6),.int .u8 (l.par 7),.int .u8 (l.par 8),.int .u8 (l.par 9),.int .u8 (l.par 10),.int .u8 (l.par 11),.int .u8 (l.par 12),.int .u8 (l.par 13),.int .u8 (l.par 14),.int .u8 (l.par 15),.int .u8 (l.par 16),.int .u8 (l.par 17),.int .u8 (l.par 18),.int .u8 (l.par 19),.int .u8 (l.par 20),.int .u8 (l.par 21),.int .u8 (l.par 22),.int .u8 (l.par 23),.int .u8 (l.par 24),.int .u8 (l.par 25),.int .u8 (l.par 26),.int .u8 (l.par 27),.int .u8 (l.par 28),.int .u8 (l.par 29),.int .u8 (l.par 30),.int .u8 (l.par 31),.int .i64 l.sr,.int .i64 l.ss]
abbrev fO (n:Int):Prop:= -9223372036854775808<=n/\n<=9223372036854775807
structure cW (l:Lk):Prop where
 fo:fO l.fo
 by_:fO l.by_
 pub:fO l.pub
 ver:fO l.ver
 exp:fO l.exp
 par:jq l.par
 sr:fO l.sr
 ss:fO l.ss
def K0:V->List Value
 | .int n=>[.int .i64 1,.int .i64 n,.string ⟨#[]⟩,.slice none 0 0]
 | .text s=>[.int .i64 2,.int .i64 0,.string s,.slice none 0 0]
 | .list _=>[]
def oZ:V->Bool
 | .list _=>false
 |_=>true
def nG (l:List V):List Value:=l.flatMap K0
theorem nVg(x:V)(h:oZ x=true):(K0 x).length=4:=by cases x<;>simp_all[oZ,K0]
theorem RH(l:List V)(h:l.all oZ=true):(nG l).length=l.length*4:=by
 induction l with
 |nil=>rfl
 |cons x l ih=>
  simp only[List.all_cons,fX]at h;simp only[nG,IM,cC,ec]at *;rw[nVg x h.1,ih h.2];omega
theorem zH(N:Nat)(w:World):∀(l:List V),l.all oZ=true->∀(pre sp:List Value),fb N w (pre++(nG l++sp)).toArray pre.length l
 | [],_,_,_=>by simp only[fb]
 |x::l,h,pre,sp=>by
  simp only[List.all_cons,fX]at h;have ih:=zH N w l h.2 (pre++K0 x) sp;have e:pre++K0 x++(nG l++sp)=pre++(nG (x::l)++sp):=by simp[nG]
  rw[e,cC,nVg x h.1]at ih;have hc:cut (pre++(nG (x::l)++sp)).toArray pre.length 4=(K0 x).toArray:=by
   unfold cut;simp only[nG,IM,iH];rw[List.drop_left' rfl,<-nVg x h.1,Pc rfl]
  simp only[fb];refine⟨?_,?_,ih⟩
  ·simp only[rU,cC,RH (x::l) (by simp[h.1,h.2]),ec];omega
  rw[hc];cases x with
  |int n=>simp only[ef];rfl
  |text s=>simp only[ef];rfl
  |list l'=>simp[oZ]at h
theorem RI{t cap:Nat}{w:World}{l:List V}(hl:l.all oZ=true)(hb:b<N)(hc:l.length<=cap)(h:w.heap[b]? =some (.cells (nG l++sp).toArray t fr)):ef N w (.list l) (vL (some ⟨b,0,none⟩) l.length cap):=by
 simp only[ef];exact⟨_,_,rfl,hc,.inr ⟨b,_,t,fr,rfl,hb,h,by have:=zH N w l hl [] sp;simpa using this⟩⟩
theorem IU(x:V)(hf:oZ x=true)(h:x.fine):x.enc.length<=1000000020:=by
 cases x with
 |int n=>
  simp only[V.fine]at h;have:=DL (zg n h.1 h.2);simp only[V.enc,ec];omega
 |text s=>
  simp only[V.fine]at h;have:=DL (u:=s.size) zM;have e:s.data.toList.length=s.size:=Array.length_toList;simp only[V.enc,ec,cC,e];omega
 |list l=>simp[oZ]at hf
theorem WH(l:List V)(hf:l.all oZ=true)(h:V.fineL l):(V.encL l).length<=l.length*1000000020/\V.depthL l=0:=by
 induction l with
 |nil=>simp[V.encL,V.depthL]
 |cons x l ih=>
  simp only[List.all_cons,fX]at hf;simp only[V.fineL]at h;obtain⟨h1,h2⟩:=ih hf.2 h.2;have h3:=IU x hf.1 h.1;simp only[V.encL,V.depthL,cC,ec,h2];refine⟨by omega,?_⟩;cases x with
  |int n=>simp[V.depth]
  |text s=>simp[V.depth]
  |list l'=>simp[oZ]at hf
theorem nMg(l:List V)(hf:l.all oZ=true)(h:V.fineL l)(hl:l.length<=100):(V.list l).fine/\(V.list l).depth<=16/\(V.list l).enc.length<=800000000000:=by
 obtain⟨h1,h2⟩:=WH l hf h;have h3:=DL (u:=l.length) zM;simp only[V.fine,V.depth,V.enc,ec,cC,h2];exact⟨⟨by omega,by omega,h⟩,by omega,by omega⟩
abbrev dT (f:Nat->Int):ByteArray:=strOfNums (rp f)
theorem ntj(f:Nat->Int):(dT f).size=32:=by rw[strOfNums_size];simp[rp]
theorem K1{src dst e t:Nat}{f:Nat->Int}(hs:C.P.underlying src=some (.slice e))(he:C.P.underlying e=some (.int .u8))(hd:C.P.underlying dst=some .string)(hx:ev E x=some (.slice (some ⟨b,0,none⟩) 32 32))(hm:w1∈L)(hb:w1.heap[b]? =some (.cells (dg f) t fr))(hG:¬G.X b)(hO:bE H b):RV C G L H E (.convert src dst x) (.string (dT f)):=λd ty pos aB g a W hF hS=>by
 have hW:=hS.old hm hb hG hO;have hr:=run_convert_bytes_arg (P:=C.P) W src e hs he b 0 32 32 (rp f) (by simp[rp]) (λi hi=>by
  rw[DP hW,jg,pI f i hi];simp[rp,List.getD,List.getElem?_range hi]) dst hd
 simp[execOp,hF.ev hx,hr]
def K2 (l:Lk) (r:Int):List V:=[.int l.fo,.int l.by_,.int l.pub,.int l.ver,.int l.exp,.int r,.text (dT l.par)]
def cV (l:Lk):List V:=K2 l (if l.resh then 1 else 0)
theorem nxj(l:Lk):(cV l).all oZ=true:=rfl
theorem Fw(l:Lk)(h:cW l):V.fineL (cV l):=by
 simp only[cV,K2,V.fineL,V.fine,ntj];exact⟨h.fo,h.by_,h.pub,h.ver,h.exp,by split<;>decide,by decide,trivial⟩
def IV (l:Lk):List V:=cV l++[.int l.sr,.int l.ss]
theorem zI(l:Lk)(h:cW l):V.fineL (IV l):=by
 simp only[IV,cV,K2,fj,eg,V.fineL,V.fine,ntj];exact⟨h.fo,h.by_,h.pub,h.ver,h.exp,by split<;>decide,by decide,h.sr,h.ss,trivial⟩
theorem nN(n:Int)(w:World):Calls prog 55 #[.int .i64 n] w (av w (vI n)):=by
 refine enter (vs:=[_]) func55 rfl ntmps55 rfl ?_;refine B 2 ?_;refine zj ?_;refine yW ?_;intro b2 cA db;refine B 5 ?_;refine RJ ?_;refine bG (.inl rfl) results55 (RS.wA (i:=0) rfl isAgg149 sizeOf149 rfl (aT rfl) (RS.n)) A0 zS ?_;rfl
theorem WI(f:Nat->Int)(w:World):Calls prog 71 #[.agg (dg f)] w (av w (vT (dT f))):=by
 refine enter (vs:=[_]) func71 rfl ntmps71 rfl ?_;refine B 2 ?_;refine yX ?_;intro b1 w1 aP aX fW eb ir;refine zj ?_;refine yW ?_;intro b2 cA db;refine B 4 ?_;refine Q1 ?_;refine rv rfl rfl rfl (K1 underlying64 underlying5 underlying9 rfl A0 aP aX zL) ?_;refine RJ ?_;refine bG (.inl rfl) results71 (RS.wA (i:=0) rfl isAgg149 sizeOf149 rfl (aT rfl) (RS.n)) A1 zS ?_;rfl
theorem nAf(l:Lk)(w:World):Calls prog 54 #[.agg (lkC l)] w (cu w (λb:Nat=>.slice (some ⟨b,0,none⟩) 7 7) (λb w1=>w.heap.size<=b/\w1.heap[b]? =some (.cells (nG (cV l)).toArray 149 (0,0)))):=by
 refine enter (vs:=[_]) func54 rfl ntmps54 rfl ?_;refine B 2 ?_;refine yX ?_;intro b1 w1 aP aX fW eb ir;refine B 16 ?_;refine aO ?_ ?_
 ·intro aj;refine B 5 ?_;refine z8e ?_;refine nk 25 [.det [] _,.det [0] _,.det [1] _,.det [2] _,.det [] _,.det [4] _,.det [5] _,.det [6] _,.det [] _,.det [8] _,.det [9] _,.det [10] _,.det [] _,.det [12] _,.det [13] _,.det [14] _,.det [] _,.det [16] _,.det [17] _,.det [18] _,.det [] _,.det [20] _,.det [] _,.det [22] _,.det [23] _] zT (xc qA (xc uA (xc DQ (xc yl (xc qA (xc uA (xc DQ (xc yl (xc qA (xc uA (xc DQ (xc yl (xc qA (xc uA (xc DQ (xc yl (xc qA (xc uA (xc DQ (xc yl (xc zO (xc yl (xc qA (xc zyc (xc z5d (xn)))))))))))))))))))))))))) zT zT zT (λae=>?_);refine call call71 rfl rfl rfl (λW hS=>WI _ W) ?_;refine zih ?_;refine yV ?_;intro Rr w33 K3 K4 aaB K5 aaC;refine B 4 ?_;exact bJ (.inl rfl) results54 (RS.t rfl RS.n) (λW hS=>⟨Rr,rfl,hS.base A2 trivial,by omega,by rw[show cV l=K2 l 1 from by unfold cV;rw[if_pos aj]];exact hS.old A0 K3 K4 trivial⟩)
 intro aj;refine B 3 ?_;refine z8e ?_;refine nk 25 [.det [] _,.det [0] _,.det [1] _,.det [2] _,.det [] _,.det [4] _,.det [5] _,.det [6] _,.det [] _,.det [8] _,.det [9] _,.det [10] _,.det [] _,.det [12] _,.det [13] _,.det [14] _,.det [] _,.det [16] _,.det [17] _,.det [18] _,.det [] _,.det [20] _,.det [] _,.det [22] _,.det [23] _] zT (xc qA (xc uA (xc DQ (xc yl (xc qA (xc uA (xc DQ (xc yl (xc qA (xc uA (xc DQ (xc yl (xc qA (xc uA (xc DQ (xc yl (xc qA (xc uA (xc DQ (xc yl (xc zO (xc yl (xc qA (xc zyc (xc z5d (xn)))))))))))))))))))))))))) zT zT zT (λae=>?_);refine call call71 rfl rfl rfl (λW hS=>WI _ W) ?_;refine zih ?_;refine yV ?_;intro Rr w33 K3 K4 aaB K5 aaC;refine B 4 ?_;exact bJ (.inl rfl) results54 (RS.t rfl RS.n) (λW hS=>⟨Rr,rfl,hS.base A2 trivial,by omega,by rw[show cV l=K2 l 0 from by unfold cV;rw[if_neg (by rw[aj];decide)]];exact hS.old A0 K3 K4 trivial⟩)
theorem WJ(hZ:FxOk Z)(s:ByteArray)(hs0:s.size<1000)(l:List V)(bV:(V.list l).fine)(hd:(V.list l).depth<=16)(gQ:(V.list l).enc.length<=800000000000)(N bl lc:Nat)(w:World)(hN:N<=w.heap.size)(tw:ef N w (.list l) (vL (some ⟨bl,0,none⟩) l.length lc))(hg:Glb w):Calls prog 53 #[.string s,.slice (some ⟨bl,0,none⟩) l.length lc] w (av w (.agg (dg (Z.tg s (V.list l).enc)))):=by
 have ew:=hg.lt;obtain⟨df,jv⟩:∃df,Z.tg s (V.list l).enc=df:=⟨_,rfl⟩;refine enter (vs:=[_,_]) func53 rfl ntmps53 rfl ?_;refine B 2 ?_;refine rT ?_;refine yW ?_;intro b4 dD dH;refine B 5 ?_;refine WE ?_;refine zxg ?_;intro ix wI yi o3 o4 aaD uy;replace o3:=yb o3;replace o4:=ye o4;refine B 11 ?_;refine zgg ?_;refine B 3 ?_;refine bG (.inl rfl) results53 (RS.wA (i:=1) rfl isAgg34 sizeOf34 rfl (aT rfl) (RS.n)) A0 zS ?_;rw[jv];rfl
def fe (Z:Fx) (l:Lk):Nat->Int:=Z.tg (⟨#[108,105,110,107,32,115,105,103,110]⟩:ByteArray) (V.list (cV l)).enc
def jI (Z:Fx) (l:Lk):Nat->Int:=Z.tg (⟨#[108,105,110,107]⟩:ByteArray) (V.list (IV l)).enc
theorem WK(hZ:FxOk Z)(l:Lk)(hl:cW l)(w:World)(hg:Glb w):Calls prog 28 #[.agg (lkC l)] w (cu w (λb:Nat=>.slice (some ⟨b,0,none⟩) 32 32) (λb w1=>w.heap.size<=b/\w1.heap[b]? =some (.cells (dg (fe Z l)) 34 (0,0)))):=by
 have ew:=hg.lt;obtain⟨df,jv⟩:∃df,fe Z l=df:=⟨_,rfl⟩;have kz:=nMg (cV l) (nxj l) (Fw l hl) (by simp[cV,K2]);refine enter (vs:=[_]) func28 rfl ntmps28 rfl ?_;refine B 2 ?_;refine yX ?_;intro b1 w1 aP aX fW eb ir;refine B 5 ?_;refine rv rfl rfl rfl (af isAgg84 sizeOf84 rfl A0 aP aX trivial rfl) ?_;refine nr (Φ:=λ(W:World) (b:Nat) (v1:World)=>W.heap.size<=b/\v1.heap[b]? =some (.cells (nG (cV l)).toArray 149 (0,0))) call54 rfl rfl rfl (λW hS=>nAf l W) ?_;rintro W5 b5 w5 IW Pd ⟨qB,ff⟩;have rF:=(aL.1 ff).1;have DR:=IW.sizes;replace DR:=yb DR;have RK:=Pd.size;refine call call53 rfl rfl rfl (λW hS=>by rw[<-jv];exact WJ hZ (⟨#[108,105,110,107,32,115,105,103,110]⟩:ByteArray) zQ (cV l) kz.1 kz.2.1 kz.2.2 w5.heap.size b5 7 W (hS.links _ A0).size (RI (sp:=[]) (nxj l) rF (ao 7) (by rw[dN];exact hS.old A0 ff zZ trivial)) (hg.old hS A2 zU zP)) (v:=.agg (dg df)) ?_;refine rT ?_;refine yW ?_;intro b3 bY cR;refine O2 ?_;refine B 4 ?_;refine Q1 ?_;refine B 4 ?_;exact bJ (.inl rfl) results28 (RS.t rfl RS.n) (λW hS=>⟨b3,rfl,hS.base A2 zS,by omega,by rw[jv];exact hS.own _ A0⟩)
theorem Fy:prog.info? 149=some Tryz.t149:=by kernel_rfl
theorem nyo(l:List V):∀u∈nG l,u.oneCell'=true:=by
 intro u hu;obtain⟨x,_,hx⟩:=Pe.1 hu;cases x<;>simp only[K0,cP,fm,or_false]at hx
 ·rcases hx with rfl|rfl|rfl|rfl<;>rfl
 rcases hx with rfl|rfl|rfl|rfl<;>rfl
theorem aaE{e' c t:Nat}{l:List V}(hU:C.P.underlying tx=some (.slice e'))(hf:l.all oZ=true)(hi:H[i]? =some (b,.cells (nG l++sp).toArray t fr)):jP C G L H 4 tx (.slice (some ⟨b,0,none⟩) l.length c) l.length (nG l):=
 jP.sl hU (Rd.own hi (by simp only[rU,cC,RH l hf];omega) (by rw[RL,<-RH l hf,Pc rfl])) (RH l hf) (nyo l)
abbrev K6 (l:List V) (sp:List Value) (t:Nat):Obj:=.cells (nG l++sp).toArray t (0,0)
theorem nvo(a b:List V):nG (a++b)=nG a++nG b:=by simp[nG]
theorem n1i(l:Lk)(w:World):Calls prog 54 #[.agg (lkC l)] w (cu w (λb:Nat=>.slice (some ⟨b,0,none⟩) 7 7) (λb w1=>w.heap.size<=b/\True/\w1.heap[b]? =some (.cells (nG (cV l)++[]).toArray 149 (0,0)))):=
 (nAf l w).mono (by
  rintro e w' ⟨b,rfl,hb,h1,h2⟩;exact⟨b,rfl,hb,h1,trivial,by rw[dN];exact h2⟩)
theorem noc(hZ:FxOk Z)(l:Lk)(hl:cW l)(w:World)(hg:Glb w):Calls prog 24 #[.agg (lkC l)] w (av w (.agg (dg (jI Z l)))):=by
 have ew:=hg.lt;obtain⟨df,jv⟩:∃df,jI Z l=df:=⟨_,rfl⟩;have kz:=nMg (IV l) rfl (zI l hl) (by simp[IV,cV,K2]);refine enter (vs:=[_]) func24 rfl ntmps24 rfl ?_;refine B 2 ?_;refine yX ?_;intro b1 w1 aP aX fW eb ir;refine rT ?_;refine yW ?_;intro b2 cA db;refine B 3 ?_;refine ng (E':=[(0,_),(1,_),(2,_)]) zR ?_;refine nK 11 [1] [([],some (.agg (lkC l))),([0],none),([],some _),([2],some _),([3],some _),([4],some (.int .i64 l.sr)),([5],some _),([],some _),([7],some _),([8],some _),([9],some (.int .i64 l.ss))] (λcv L' H'=>match cv with| []=>L'=[w1,w]/\H'=[(b2,.cells zK 34 (0,0))]| [v1]=>∃(b4:Nat),v1= .slice (some ⟨b4,0,none⟩) 7 7/\L'=[w1,w]/\H'=[(b4,K6 (cV l) [] 149),(b2,.cells zK 34 (0,0))]/\w1.heap.size<=b4/\w.heap.size<=b4/\b2≠b4|_=>False) zT ⟨rfl,rfl⟩ zT zT zT zT zT zT (pc zcl (pk (pc z3 (pc Pf (pc KV (pc zcl (pc (by exact λcv L' H' hd hP=>nf call55 rfl rfl (λW hS _=>nN _ W) (λ_=>rfl)) (pc z3 (pc Pf (pc KV (pc zcl (pn)))))))))))) ?_ ?_
 ·refine sc rfl rfl rfl ?_ ?_
  ·intro cv L' H' hl hP F Q' hk;obtain rfl:=jt hl;obtain⟨rfl,rfl⟩:=hP;refine Wa (v:=λb:Nat=>.slice (some ⟨b,0,none⟩) 7 7) (bo:=λb:Nat=>(b,K6 (cV l) [] 149)) (Φ:=λ_=>True) call54 rfl rfl rfl (λW hS=>n1i l W) ?_;intro b4 ha ho _;exact OJ.done (hk _ _ _ ⟨b4,rfl,rfl,rfl,ha.1,ha.2.1,ho.1⟩)
  exact sn
 intro cv L' H' hl hP;obtain⟨v1,rfl⟩:=di hl;obtain⟨b4,rfl,rfl,rfl,dD,K7,dH⟩:=hP;refine call call55 rfl rfl rfl (λW hS=>nN _ W) ?_;refine IX ?_;refine yW ?_;intro eo iC Fs;refine QW (i:=1) (m:=4) (ys:=nG (cV l)) (sp:=[]) (len:=7) (cap:=7) (news:=nG ([.int l.sr,.int l.ss]:List V)) (n:=2) rfl underlying146 Fy rfl rfl rfl rfl rfl rfl rfl (aaE (l:=[.int l.sr,.int l.ss]) (sp:=[]) (i:=0) underlying146 rfl rfl) (RH _ (nxj l)) rfl (ao _) ⟨by omega,by omega,trivial⟩ zQ zQ ?_;intro cF c16 s16 gU yL ahi;replace gU:=yb gU;refine OJ.reH (H':=[(eo,K6 [.int l.sr,.int l.ss] [] 149),(cF,K6 (IV l) s16 149),(b2,.cells zK 34 (0,0))]) (by simp only[K6,IV,nvo];rfl) ?_;refine call call53 rfl rfl rfl (λW hS=>by rw[<-jv];exact WJ hZ (⟨#[108,105,110,107]⟩:ByteArray) zQ (IV l) kz.1 kz.2.1 kz.2.2 W.heap.size cF c16 W (ao _) (RI rfl (hS.lt _ A1) yL (hS.own _ A1)) (hg.old hS A1 zU zP)) (v:=.agg (dg df)) ?_;refine aV (i:=2) rfl sizeOf34 rfl rfl rfl rfl rfl rfl ?_;refine B 3 ?_;refine bG (.inl rfl) results24 (RS.wA (i:=2) rfl isAgg34 sizeOf34 rfl (aT rfl) (RS.n)) A1 zS ?_;rw[jv];rfl
theorem n1f(hZ:FxOk Z)(l:Lk)(hl:cW l)(w:World)(hg:Glb w):Calls prog 13 #[.agg (lkC l)] w (av w (.agg (dg (jI Z l)))):=by
 have ew:=hg.lt;obtain⟨df,jv⟩:∃df,jI Z l=df:=⟨_,rfl⟩;refine enter (vs:=[_]) func13 rfl ntmps13 rfl ?_;refine B 2 ?_;refine yX ?_;intro b1 w1 aP aX fW eb ir;refine rT ?_;refine yW ?_;intro b2 cA db;refine B 4 ?_;refine rv rfl rfl rfl (af isAgg38 sizeOf38 rfl A0 aP aX zL rfl) ?_;refine rv rfl rfl rfl (bL underlying84 zeroValue84 (bA.c sizeOf38 (bA.n)) rfl rfl) ?_;refine call call24 rfl rfl rfl (λW hS=>by rw[<-jv];exact noc hZ l hl W (hg.old hS A1 zU zP)) (v:=.agg (dg df)) ?_;refine O2 ?_;refine B 3 ?_;refine bG (.inl rfl) results13 (RS.wA (i:=0) rfl isAgg34 sizeOf34 rfl (aT rfl) (RS.n)) A1 zS ?_;rw[jv];rfl
structure Fa where
 lnk:Nat->Int
 com:Nat->Int
 by_:Int
 n:Int
 sr:Int
 ss:Int
def gD (f:Fa):Array Value:=#[.int .u8 (f.lnk 0),.int .u8 (f.lnk 1),.int .u8 (f.lnk 2),.int .u8 (f.lnk 3),.int .u8 (f.lnk 4),.int .u8 (f.lnk 5),.int .u8 (f.lnk 6),.int .u8 (f.lnk 7),.int .u8 (f.lnk 8),.int .u8 (f.lnk 9),.int .u8 (f.lnk 10),.int .u8 (f.lnk 11),.int .u8 (f.lnk 12),.int .u8 (f.lnk 13),.int .u8 (f.lnk 14),.int .u8 (f.lnk 15),.int .u8 (f.lnk 16),.int .u8 (f.lnk 17),.int .u8 (f.lnk 18),.int .u8 (f.lnk 19),.int .u8 (f.lnk 20),.int .u8 (f.lnk 21),.int .u8 (f.lnk 22),.int .u8 (f.lnk 23),.int .u8 (f.lnk 24),.int .u8 (f.lnk 25),.int .u8 (f.lnk 26),.int .u8 (f.lnk 27),.int .u8 (f.lnk 28),.int .u8 (f.lnk 29),.int .u8 (f.lnk 30),.int .u8 (f.lnk 31),.int .u8 (f.com 0),.int .u8 (f.com 1),.int .u8 (f.com 2),.int .u8 (f.com 3),.int .u8 (f.com 4),.int .u8 (f.com 5),.int .u8 (f.com 6),.int .u8 (f.com 7),.int .u8 (f.com 8),.int .u8 (f.com 9),.int .u8 (f.com 10),.int .u8 (f.com 11),.int .u8 (f.com 12),.int .u8 (f.com 13),.int .u8 (f.com 14),.int .u8 (f.com 15),.int .u8 (f.com 16),.int .u8 (f.com 17),.int .u8 (f.com 18),.int .u8 (f.com 19),.int .u8 (f.com 20),.int .u8 (f.com 21),.int .u8 (f.com 22),.int .u8 (f.com 23),.int .u8 (f.com 24),.int .u8 (f.com 25),.int .u8 (f.com 26),.int .u8 (f.com 27),.int .u8 (f.com 28),.int .u8 (f.com 29),.int .u8 (f.com 30),.int .u8 (f.com 31),.int .i64 f.by_,.int .i64 f.n,.int .i64 f.sr,.int .i64 f.ss]
def fV (f:Fa):List V:=[.text (dT f.lnk),.text (dT f.com),.int f.by_,.int f.n]
theorem Fz(f:Fa)(h1:fO f.by_)(h2:fO f.n):V.fineL (fV f):=by
 simp only[fV,V.fineL,V.fine,ntj];exact⟨by decide,by decide,h1,h2,trivial⟩
def se (Z:Fx) (f:Fa):Nat->Int:=Z.tg (⟨#[102,97,99,116,111,114,32,115,105,103,110]⟩:ByteArray) (V.list (fV f)).enc
theorem nEd(hZ:FxOk Z)(f:Fa)(h1:fO f.by_)(h2:fO f.n)(w:World)(hg:Glb w):Calls prog 31 #[.agg (gD f)] w (cu w (λb:Nat=>.slice (some ⟨b,0,none⟩) 32 32) (λb w1=>w.heap.size<=b/\w1.heap[b]? =some (.cells (dg (se Z f)) 34 (0,0)))):=by
 have ew:=hg.lt;obtain⟨df,jv⟩:∃df,se Z f=df:=⟨_,rfl⟩;have kz:=nMg (fV f) rfl (Fz f h1 h2) (by simp[fV]);refine enter (vs:=[_]) func31 rfl ntmps31 rfl ?_;refine B 2 ?_;refine yX ?_;intro b1 w1 aP aX fW eb ir;refine B 4 ?_;refine ng (E':=[(0,_),(1,_),(2,_)]) zR ?_;refine Pg 15 [12,14] [([],some _),([0],some (.agg (dg f.lnk))),([1],some _),([],some _),([3],some (.agg (dg f.com))),([4],some _),([],some _),([6],some (.int .i64 f.by_)),([7],some _),([],some _),([9],some (.int .i64 f.n)),([10],some _),([2,5,8,11],none),([12],some (.agg (dg df))),([],none)] [[],[]] (λcv L' H'=>match cv with| [none,none]=>L'=[w1,w]/\H'=[]| [none,some oI]=>∃(b3:Nat),oI=ptr b3 0/\L'=[w1,w]/\H'=[(b3,.cells zK 34 (0,0))]/\w1.heap.size<=b3/\w.heap.size<=b3| [some v12,none]=>∃(cF:Nat),v12= .slice (some ⟨cF,0,none⟩) 4 4/\L'=[w1,w]/\H'=[(cF,K6 (fV f) [] 149)]/\w1.heap.size<=cF/\w.heap.size<=cF| [some v12,some oI]=>∃(cF:Nat) (b3:Nat),v12= .slice (some ⟨cF,0,none⟩) 4 4/\oI=ptr b3 0/\L'=[w1,w]/\H'=[(cF,K6 (fV f) [] 149),(b3,.cells zK 34 (0,0))]/\w1.heap.size<=cF/\w.heap.size<=cF/\w1.heap.size<=b3/\w.heap.size<=b3|_=>False) zT ⟨rfl,rfl⟩ zT zT zT zT zT zT rfl (qc (by exact λcv L' H' _ _ hP=>X.val rfl rfl (ak underlying59 rfl sizeOf34 rfl) R2) (qc WL (qc (by exact λcv L' H' _ _ hP=>nf call71 rfl rfl (λW hS _=>WI _ W) (λ_=>rfl)) (qc (by exact λcv L' H' _ _ hP=>X.val rfl rfl (ak underlying59 rfl sizeOf34 rfl) R2) (qc WL (qc (by exact λcv L' H' _ _ hP=>nf call71 rfl rfl (λW hS _=>WI _ W) (λ_=>rfl)) (qc (by exact λcv L' H' _ _ hP=>X.val rfl rfl (ak underlying59 rfl sizeOf3 rfl) R2) (qc WL (qc (by exact λcv L' H' _ _ hP=>nf call55 rfl rfl (λW hS _=>nN _ W) (λ_=>rfl)) (qc (by exact λcv L' H' _ _ hP=>X.val rfl rfl (ak underlying59 rfl sizeOf3 rfl) R2) (qc WL (qc (by exact λcv L' H' _ _ hP=>nf call55 rfl rfl (λW hS _=>nN _ W) (λ_=>rfl)) (qk (qc (λcv L' H' hl hd hP=>by obtain⟨fC,ki,rfl⟩:=ju hl;(rcases fC with _|v12<;>rcases ki with _|oI<;>try exact False.elim hP);exact(absurd (show false=true from hd) zQ);exact(absurd (show false=true from hd) zQ);(obtain⟨cF,rfl,rfl,rfl,gU,wR⟩:=hP;exact nf call53 rfl rfl (λW hS _=>by rw[<-jv];exact WJ hZ (⟨#[102,97,99,116,111,114,32,115,105,103,110]⟩:ByteArray) zQ (fV f) kz.1 kz.2.1 kz.2.2 W.heap.size cF 4 W (ao _) (RI (sp:=[]) rfl (hS.lt _ A0) (ao 4) (hS.own _ A0)) (hg.old hS A1 zU zP)) (λ_=>rfl));(obtain⟨cF,b3,rfl,rfl,rfl,rfl,gU,wR,bY,RM⟩:=hP;exact nf call53 rfl rfl (λW hS _=>by rw[<-jv];exact WJ hZ (⟨#[102,97,99,116,111,114,32,115,105,103,110]⟩:ByteArray) zQ (fV f) kz.1 kz.2.1 kz.2.2 W.heap.size cF 4 W (ao _) (RI (sp:=[]) rfl (hS.lt _ A0) (ao 4) (hS.own _ A0)) (hg.old hS A1 zU zP)) (λ_=>rfl))) (qk (qn)))))))))))))))) ?_ ?_
 ·refine nc rfl rfl rfl rfl ?_ ?_
  ·intro cv L' H' hl hr hP F Q' hk;obtain⟨fC,ki,rfl⟩:=ju hl;rcases fC with _|v12<;>rcases ki with _|oI
   ·obtain⟨rfl,rfl⟩:=hP;refine IX ?_;intro cF ha ho;exact OJ.done (hk _ _ _ ⟨cF,rfl,rfl,rfl,ha.1,ha.2.1⟩)
   ·obtain⟨b3,rfl,rfl,rfl,bY,RM⟩:=hP;refine IX ?_;intro cF ha ho;exact OJ.done (hk _ _ _ ⟨cF,b3,rfl,rfl,rfl,rfl,ha.1,ha.2.1,bY,RM⟩)
   ·exact az
   exact az
  refine nc rfl rfl rfl rfl ?_ ?_
  ·intro cv L' H' hl hr hP F Q' hk;obtain⟨fC,ki,rfl⟩:=ju hl;rcases fC with _|v12<;>rcases ki with _|oI
   ·obtain⟨rfl,rfl⟩:=hP;refine rT ?_;intro b3 ha ho;exact OJ.done (hk _ _ _ ⟨b3,rfl,rfl,rfl,ha.1,ha.2.1⟩)
   ·exact az
   ·obtain⟨cF,rfl,rfl,rfl,gU,wR⟩:=hP;refine rT ?_;intro b3 ha ho;exact OJ.done (PJ.swp (hk _ _ _ ⟨cF,b3,rfl,rfl,rfl,rfl,gU,wR,ha.1,ha.2.1⟩))
   exact az
  exact nn
 intro cv L' H' hl hr hP;obtain⟨fC,ki,rfl⟩:=ju hl;rcases fC with _|v12<;>rcases ki with _|oI
 ·exact az
 ·exact az
 ·exact az
 obtain⟨cF,b3,rfl,rfl,rfl,rfl,gU,wR,bY,RM⟩:=hP;refine aV (i:=1) rfl sizeOf34 rfl rfl rfl rfl rfl rfl ?_;refine B 4 ?_;refine Q1 ?_;refine B 4 ?_;exact bJ (.inl rfl) results31 (RS.t rfl RS.n) (λW hS=>⟨b3,rfl,hS.base A1 zS,by omega,by rw[jv];exact hS.own (b3,_) A1⟩)
theorem uB:tz prog 2 34 (kA 32 [.i]):=tz.array underlying34 sizeOf5 rfl (lR.int underlying5 isAgg5)
theorem nX:prog.eqGuardType prog.depth 34=false:=by kernel_rfl
def fE (f g:Nat->Int):Bool:=lS (dg f).toList (dg g).toList
def nz (l:Lk):Bool:=decide (0<=l.fo)&&decide (l.fo<16)&&decide (-1<=l.by_)&&decide (l.by_<512)&&decide (cE l.pub)&&decide (cE l.ver)&&decide (1<=l.exp)&&decide (l.exp<=1099511627776)&&(decide (l.by_= -1)||fE l.par (λ_=>0))
theorem RN(a:Int):decide ((if cE a then(0:Int)else 40)=0)=decide (cE a):=by by_cases h:cE a<;>simp[h]
theorem nI(l:Lk)(w:World):Calls prog 26 #[.agg (lkC l)] w (av w (.bool (nz l))):=by
 refine enter (vs:=[_]) func26 rfl ntmps26 rfl ?_;refine B 2 ?_;refine yX ?_;intro b1 w1 aP aX fW eb ir;refine B 10 ?_;refine nh (t:=7) rfl (λaj=>?_) (λaj=>?_)
 ·replace aj:=ya aj;refine B 6 ?_;refine nh (t:=13) rfl (λaQ=>?_) (λaQ=>?_)
  ·replace aQ:=ya aQ;refine B 6 ?_;refine nh (t:=19) rfl (λcY=>?_) (λcY=>?_)
   ·replace cY:=ya cY;refine B 6 ?_;refine nh (t:=25) rfl (λgb=>?_) (λgb=>?_)
    ·replace gb:=ya gb;refine B 3 ?_;refine OT ?_;refine rq (.bool (decide (cE l.pub))) (cM rfl rfl) (vb (RN _)) ?_;refine B 2 ?_;refine nh (t:=32) rfl (λgL=>?_) (λgL=>?_)
     ·replace gL:=ya gL;refine B 3 ?_;refine OT ?_;refine rq (.bool (decide (cE l.ver))) (cM rfl rfl) (vb (RN _)) ?_;refine B 2 ?_;refine nh (t:=39) rfl (λjL=>?_) (λjL=>?_)
      ·replace jL:=ya jL;refine B 6 ?_;refine nh (t:=45) rfl (λjE=>?_) (λjE=>?_)
       ·replace jE:=ya jE;refine B 6 ?_;refine nh (t:=51) rfl (λtT=>?_) (λtT=>?_)
        ·replace tT:=ya tT;refine B 5 ?_;refine nh (t:=56) rfl (λrn=>?_) (λrn=>?_)
         ·replace rn:=ya rn;refine B 11 ?_;exact DS
         replace rn:=ya rn;refine B 2 ?_;refine rv rfl rfl rfl (ag isAgg34 sizeOf34 rfl A0 aP aX trivial (aT rfl)) ?_;refine B 1 ?_;refine rr (.bool (fE l.par (λ_=>0))) (fF uB zQ nX rfl rfl rfl) ?_;refine B 6 ?_;exact DS
        replace tT:=ya tT;refine B 16 ?_;exact DS
       replace jE:=ya jE;refine B 22 ?_;exact DS
      replace jL:=ya jL;refine B 28 ?_;exact DS
     replace gL:=ya gL;refine B 35 ?_;exact DS
    replace gb:=ya gb;refine B 42 ?_;exact DS
   replace cY:=ya cY;refine B 48 ?_;exact DS
  replace aQ:=ya aQ;refine B 54 ?_;exact DS
 replace aj:=ya aj;refine B 60 ?_;exact DS
theorem zJ(hZ:FxOk Z)(x:Int)(f:Nat->Int)(hf:jq f)(b t:Nat)(fr:Nat×Nat)(w:World)(h:w.heap[b]? =some (.cells (dg f) t fr))(hg:Glb w):Calls prog 27 #[.int .i64 x,.slice (some ⟨b,0,none⟩) 32 32] w (av w (sa Z x (dt f))):=by
 have:=nFo hZ x (dt f) b 0 32 (by rw[nO];decide) w (cG.dg h hf) hg;rwa[nO]at this
theorem nck(hZ:FxOk Z)(x:Int)(hx:iG x)(f:Nat->Int)(hf:jq f)(r s:Int)(hr:lg Z x (dt f)=r)(hs:oY Z x (dt f)=s)(b t:Nat)(fr:Nat×Nat)(w:World)(h:w.heap[b]? =some (.cells (dg f) t fr))(hg:Glb w):Calls prog 27 #[.int .i64 x,.slice (some ⟨b,0,none⟩) 32 32] w (av w (.tuple #[.agg #[.int .i64 r,.int .i64 s],.int .i64 0])):=by
 have:=zJ hZ x f hf b t fr w h hg;unfold sa at this;rw[if_pos hx,hr,hs]at this;exact this
theorem nmp(hZ:FxOk Z)(x:Int)(hx:¬iG x)(f:Nat->Int)(hf:jq f)(b t:Nat)(fr:Nat×Nat)(w:World)(h:w.heap[b]? =some (.cells (dg f) t fr))(hg:Glb w):Calls prog 27 #[.int .i64 x,.slice (some ⟨b,0,none⟩) 32 32] w (av w (.tuple #[.agg #[.int .i64 0,.int .i64 0],.int .i64 50])):=by
 have:=zJ hZ x f hf b t fr w h hg;unfold sa at this;rw[if_neg hx]at this;exact this
theorem nsn(hZ:FxOk Z)(x:Int)(hx:iG x)(w:World):Calls prog 17 #[.int .i64 x] w (av w (lQ ((Z.ge 4 x).1,0))):=by
 have h:=nLh x w;rw[Fm hZ,if_pos hx]at h;exact h
theorem nCj(x:Int)(hx:¬iG x)(w:World):Calls prog 17 #[.int .i64 x] w (av w (lQ (0,50))):=by
 have h:=nLh x w;unfold yU at h;rw[if_neg hx]at h;exact h
theorem RP(hZ:FxOk Z)(l:Lk):jq (fe Z l):=hZ.byt _ _
theorem nRk(hZ:FxOk Z)(f:Fa):jq (se Z f):=hZ.byt _ _
def kO:Lk:=⟨0,0,0,0,0,false,λ_=>0,0,0⟩
def ym (Z:Fx) (l:Lk) (x:Int):Value:=
 if nz l then if iG x then .tuple #[.agg (lkC {l with sr:=lg Z x (dt (fe Z l)),ss:=oY Z x (dt (fe Z l))}),.int .i64 0]else .tuple #[.agg (lkC kO),.int .i64 50]else .tuple #[.agg (lkC kO),.int .i64 400]
theorem WM(hZ:FxOk Z)(l:Lk)(hl:cW l)(h1:l.sr=0)(h2:l.ss=0)(x:Int)(w:World)(hg:Glb w):Calls prog 15 #[.int .i64 l.fo,.int .i64 l.by_,.int .i64 l.pub,.int .i64 l.ver,.int .i64 l.exp,.bool l.resh,.agg (dg l.par),.int .i64 x] w (av w (ym Z l x)):=by
 have ew:=hg.lt;have hB:=RP hZ l;obtain⟨mf,FA⟩:∃mf,fe Z l=mf:=⟨_,rfl⟩;rw[FA]at hB;obtain⟨r,hr⟩:∃r,lg Z x (dt mf)=r:=⟨_,rfl⟩;obtain⟨sg,o5⟩:∃sg,oY Z x (dt mf)=sg:=⟨_,rfl⟩;refine enter (vs:=[_,_,_,_,_,_,_,_]) func15 rfl ntmps15 rfl ?_;refine B 2 ?_;refine yX ?_;intro b14 w14 aaK aaL ahj ahk ahl;refine aY zeroValue38 rfl rfl ?_;refine yW ?_;intro cF gU aaM;refine B 11 ?_;refine rv rfl rfl rfl (af isAgg34 sizeOf34 rfl A0 aaK aaL zL rfl) ?_;refine rq (.agg (lkC l)) (bL underlying38 zeroValue38 (bA.c sizeOf3 (bA.c sizeOf3 (bA.c sizeOf3 (bA.c sizeOf3 (bA.c sizeOf3 (bA.c sizeOf4 (bA.c sizeOf34 (bA.c sizeOf36 (bA.n))))))))) rfl rfl) (by unfold lkC;rw[h1,h2];rfl) ?_;refine zcf ?_;refine RQ ?_;refine yW ?_;intro b18 ur E3;refine IY ?_;refine B 6 ?_;refine call call26 rfl rfl rfl (λW hS=>nI l W) ?_;refine B 3 ?_;refine aO ?_ ?_
 ·intro aj;refine B 3 ?_;refine aV (i:=1) rfl sizeOf38 rfl rfl rfl rfl rfl rfl ?_;refine B 5 ?_;refine bG (.inl rfl) results15 (RS.wA (i:=1) rfl isAgg38 sizeOf38 rfl (aT rfl) (RS.t rfl (RS.n))) A1 zS ?_;unfold ym;rw[if_neg qC];rfl
 intro aj;refine B 6 ?_;refine nr (v:=λb:Nat=>.slice (some ⟨b,0,none⟩) 32 32) (Φ:=λ(W:World) (b:Nat) (v1:World)=>W.heap.size<=b/\v1.heap[b]? =some (.cells (dg mf) 34 (0,0))) call28 rfl rfl rfl (λW hS=>by rw[<-FA];exact WK hZ l hl W (hg.old hS A1 zU zP)) ?_;rintro W36 b36 w36 RR aaO ⟨ahm,K8⟩;have ahn:=(aL.1 K8).1;have RT:=RR.sizes;replace RT:=yb RT;have agO:=aaO.size;have aaP:=RR.under;simp only[xS,dC,fk]at aaP;by_cases hK:iG x
 ·refine call call27 rfl rfl rfl (λW hS=>nck hZ x hK mf hB r sg hr o5 b36 _ _ W (hS.old A0 K8 zZ r4) (hg.old hS A2 zU zP)) ?_;refine B 3 ?_;refine aY zeroValue36 rfl rfl ?_;refine yW ?_;intro b19 aaQ aaR;refine WA ?_;refine B 7 ?_;refine yk ?_;refine B 10 ?_;refine kq (i:=1) rfl sizeOf36 rfl rfl rfl rfl (aT rfl) rfl ?_;refine B 5 ?_;refine rv rfl rfl rfl (cN (i:=1) rfl isAgg38 sizeOf38 rfl (aT rfl)) ?_;refine aV (i:=2) rfl sizeOf38 rfl rfl rfl rfl rfl rfl ?_;refine B 4 ?_;refine zUh ?_;unfold ym;rw[if_pos qC,if_pos hK,FA,hr,o5];rfl
 refine call call27 rfl rfl rfl (λW hS=>nmp hZ x hK mf hB b36 _ _ W (hS.old A0 K8 zZ r4) (hg.old hS A2 zU zP)) ?_;refine B 3 ?_;refine aY zeroValue36 rfl rfl ?_;refine yW ?_;intro b19 aaQ aaR;refine WA ?_;refine B 7 ?_;refine FB ?_;refine B 7 ?_;refine aV (i:=2) rfl sizeOf38 rfl rfl rfl rfl rfl rfl ?_;refine B 5 ?_;refine zUh ?_;unfold ym;rw[if_pos qC,if_neg hK];rfl
structure Ek where
 com:Nat->Int
 sec:Nat->Int
def ekC (k:Ek):Array Value:=#[.int .u8 (k.com 0),.int .u8 (k.com 1),.int .u8 (k.com 2),.int .u8 (k.com 3),.int .u8 (k.com 4),.int .u8 (k.com 5),.int .u8 (k.com 6),.int .u8 (k.com 7),.int .u8 (k.com 8),.int .u8 (k.com 9),.int .u8 (k.com 10),.int .u8 (k.com 11),.int .u8 (k.com 12),.int .u8 (k.com 13),.int .u8 (k.com 14),.int .u8 (k.com 15),.int .u8 (k.com 16),.int .u8 (k.com 17),.int .u8 (k.com 18),.int .u8 (k.com 19),.int .u8 (k.com 20),.int .u8 (k.com 21),.int .u8 (k.com 22),.int .u8 (k.com 23),.int .u8 (k.com 24),.int .u8 (k.com 25),.int .u8 (k.com 26),.int .u8 (k.com 27),.int .u8 (k.com 28),.int .u8 (k.com 29),.int .u8 (k.com 30),.int .u8 (k.com 31),.int .u8 (k.sec 0),.int .u8 (k.sec 1),.int .u8 (k.sec 2),.int .u8 (k.sec 3),.int .u8 (k.sec 4),.int .u8 (k.sec 5),.int .u8 (k.sec 6),.int .u8 (k.sec 7),.int .u8 (k.sec 8),.int .u8 (k.sec 9),.int .u8 (k.sec 10),.int .u8 (k.sec 11),.int .u8 (k.sec 12),.int .u8 (k.sec 13),.int .u8 (k.sec 14),.int .u8 (k.sec 15),.int .u8 (k.sec 16),.int .u8 (k.sec 17),.int .u8 (k.sec 18),.int .u8 (k.sec 19),.int .u8 (k.sec 20),.int .u8 (k.sec 21),.int .u8 (k.sec 22),.int .u8 (k.sec 23),.int .u8 (k.sec 24),.int .u8 (k.sec 25),.int .u8 (k.sec 26),.int .u8 (k.sec 27),.int .u8 (k.sec 28),.int .u8 (k.sec 29),.int .u8 (k.sec 30),.int .u8 (k.sec 31)]
def DT:Fa:=⟨λ_=>0,λ_=>0,0,0,0,0⟩
def wS (Z:Fx) (k:Ek) (sec:Int):Int:=(kr sec (oS (IT Z k.sec (⟨#[108,105,110,107]⟩:ByteArray))).1).1
def uC (Z:Fx) (l:Lk) (k:Ek) (by_ sec:Int):Fa:=⟨jI Z l,k.com,by_,wS Z k sec,0,0⟩
def o6 (Z:Fx) (l:Lk) (k:Ek) (by_ x sec:Int):Value:=
 if nz l=true/\ -1<=by_/\by_<512 then
  if iG x then
   if iG sec then
    if(Z.ge 4 sec).1=l.pub then .tuple #[.agg (gD {uC Z l k by_ sec with sr:=lg Z x (dt (se Z (uC Z l k by_ sec))),ss:=oY Z x (dt (se Z (uC Z l k by_ sec)))}),.int .i64 0]
    else .tuple #[.agg (gD DT),.int .i64 400]
   else .tuple #[.agg (gD DT),.int .i64 50]
  else .tuple #[.agg (gD DT),.int .i64 50]
 else .tuple #[.agg (gD DT),.int .i64 400]
theorem zV(hZ:FxOk Z)(f:Nat->Int)(s:ByteArray):iG (IT Z f s):=by
 have:=hZ.bd (⟨#[115,99,97,108,97,114]⟩:ByteArray) (dt (wQ Z f s));unfold IT;exact⟨this.1,this.2⟩
theorem FC(Z:Fx)(k:Ek)(sec:Int):fO (wS Z k sec):=by
 have:=nTn sec (oS (IT Z k.sec (⟨#[108,105,110,107]⟩:ByteArray))).1;unfold wS;exact⟨by have:=this.1;omega,by have:=this.2;omega⟩
theorem njh(hZ:FxOk Z)(l:Lk)(hl:cW l)(k:Ek)(hkc:jq k.com)(hks:jq k.sec)(b x sec:Int)(w:World)(aP:fO b)(hg:Glb w):Calls prog 16 #[.agg (lkC l),.agg (ekC k),.int .i64 b,.int .i64 x,.int .i64 sec] w (av w (o6 Z l k b x sec)):=by
 have ew:=hg.lt;have VR:=aP;clear aP;obtain⟨vy,RU⟩:∃vy,jI Z l=vy:=⟨_,rfl⟩;obtain⟨RW,hsc⟩:∃RW,IT Z k.sec (⟨#[108,105,110,107]⟩:ByteArray)=RW:=⟨_,rfl⟩;have RX:=zV hZ k.sec (⟨#[108,105,110,107]⟩:ByteArray);rw[hsc]at RX;obtain⟨nn,hnn⟩:∃nn,(kr sec (oS RW).1).1=nn:=⟨_,rfl⟩;have hnb:=FC Z k sec;have hfn:wS Z k sec=nn:=by unfold wS;rw[hsc];exact hnn
 rw[hfn]at hnb;have hF0:uC Z l k b sec=⟨vy,k.com,b,nn,0,0⟩:=by unfold uC;rw[RU,hfn]
 have hB:=nRk hZ (⟨vy,k.com,b,nn,0,0⟩:Fa);obtain⟨mf,FA⟩:∃mf,se Z (⟨vy,k.com,b,nn,0,0⟩:Fa)=mf:=⟨_,rfl⟩;rw[FA]at hB;obtain⟨r,hr⟩:∃r,lg Z x (dt mf)=r:=⟨_,rfl⟩;obtain⟨sg,o5⟩:∃sg,oY Z x (dt mf)=sg:=⟨_,rfl⟩;refine enter (vs:=[_,_,_,_,_]) func16 rfl ntmps16 rfl ?_;refine B 2 ?_;refine yX ?_;intro b5 w5 ff gd rF iu iv;refine yX ?_;intro b6 w6 wz wB OV gm kg;refine aY zeroValue59 rfl rfl ?_;refine yW ?_;intro ix o3 o4;refine B 6 ?_;refine rv rfl rfl rfl (af isAgg38 sizeOf38 rfl A1 ff gd zL rfl) ?_;refine zcf ?_;refine call call26 rfl rfl rfl (λW hS=>nI l W) ?_;refine B 2 ?_;refine nh (t:=20) rfl (λaj=>?_) (λaj=>?_)
 ·replace aj:=ya aj;refine B 13 ?_;exact z4k
 replace aj:=ya aj;refine B 4 ?_;refine nh (t:=24) rfl (λaQ=>?_) (λaQ=>?_)
 ·replace aQ:=ya aQ;refine B 9 ?_;exact z4k
 replace aQ:=ya aQ;refine B 5 ?_;refine aO ?_ ?_
 ·intro cY;refine B 3 ?_;exact z4k
 intro cY;refine B 6 ?_;by_cases K9:iG x
 ·refine call call17 rfl rfl rfl (λW hS=>nsn hZ x K9 W) ?_;refine B 10 ?_;refine yk ?_;refine B 8 ?_;by_cases tA:iG sec
  ·refine call call17 rfl rfl rfl (λW hS=>nsn hZ sec tA W) ?_;refine B 11 ?_;refine yk ?_;refine B 14 ?_;refine aO ?_ ?_
   ·intro gb;refine B 3 ?_;refine WN ?_;unfold o6;rw[if_pos (show nz l=true/\ -1<=b/\b<512 from⟨by simp_all,by omega,by omega⟩),if_pos K9,if_pos tA,if_neg gM];rfl
   intro gb;refine B 3 ?_;refine ng (E':=[(0,_),(1,_),(2,_),(3,_),(4,_),(5,_),(6,_),(10,_),(11,_),(13,_),(14,_),(16,_),(17,_),(18,_),(19,_),(20,_),(21,_),(22,_),(23,_),(24,_),(25,_),(26,_),(27,_),(29,_),(30,_),(31,_),(32,_),(33,_),(34,_),(35,_),(38,_),(39,_),(40,_),(41,_),(42,_),(43,_),(44,_),(47,_),(48,_),(49,_),(50,_)]) zR ?_;refine nK 7 [6] [([],some (.agg (lkC l))),([0],some (.agg (dg vy))),([],some _),([2],some (.agg (dg k.com))),([],some _),([1,3,4],some _),([],none)] (λcv L' H'=>match cv with| []=>L'=[w6,w5,w]/\H'=[(ix,.cells (gD DT) 59 (0,0))]| [v1]=>∃(eo:Nat),v1=ptr eo 0/\L'=[w6,w5,w]/\H'=[(eo,.cells (gD DT) 59 (0,0)),(ix,.cells (gD DT) 59 (0,0))]/\w6.heap.size<=eo/\w5.heap.size<=eo/\w.heap.size<=eo/\ix≠eo|_=>False) zT ⟨rfl,rfl⟩ zT zT zT zT zT zT (pc zcn (pc zcn (pc (by exact λcv L' H' hd hP=>X.val rfl rfl (ak underlying76 rfl sizeOf34 rfl) R2) (pc zcn (pc zW (pc (by exact λcv L' H' hd hP=>X.val rfl rfl (RV.re (v':=.agg (gD ⟨vy,k.com,b,0,0,0⟩)) (bL underlying59 zeroValue59 (bA.c sizeOf34 (bA.c sizeOf34 (bA.c sizeOf3 (bA.c sizeOf3 (bA.c sizeOf36 (bA.n)))))) rfl rfl) (rfl)) R2) (pk (pn)))))))) ?_ ?_
   ·refine sc rfl rfl rfl ?_ ?_
    ·intro cv L' H' hl hP F Q' hk;obtain rfl:=jt hl;obtain⟨rfl,rfl⟩:=hP;refine aY zeroValue59 rfl rfl ?_;intro eo ha ho;exact OJ.done (hk _ _ _ ⟨eo,rfl,rfl,rfl,ha.1,ha.2.1,ha.2.2.1,ho.1⟩)
    exact sn
   intro cv L' H' hl hP;obtain⟨v1,rfl⟩:=di hl;obtain⟨eo,rfl,rfl,rfl,iC,aaV,aaW,Fs⟩:=hP;refine RY ?_;refine B 6 ?_;refine rv rfl rfl rfl (ag isAgg61 sizeOf61 rfl A0 wz wB zL (aT rfl)) ?_;refine call call30 rfl rfl rfl (λW hS=>by rw[<-hsc];exact nnk hZ k.sec hks W (hg.old hS A2 zU zP)) (v:=.int .i64 RW) ?_;refine B 1 ?_;refine call call29 rfl rfl rfl (λW hS=>by have:=nwl RW sec RX tA W;rw[hnn]at this;exact this) (v:=.tuple #[.int .i64 nn,.int .i64 0]) ?_;refine B 4 ?_;refine V5 ?_;refine OJ.reH (H':=[(eo,.cells (gD ⟨vy,k.com,b,nn,0,0⟩) 59 (0,0)),(ix,.cells (gD DT) 59 (0,0))]) rfl ?_;refine IJ ?_;refine B 10 ?_;refine nr (v:=λb:Nat=>.slice (some ⟨b,0,none⟩) 32 32) (Φ:=λ(W:World) (b:Nat) (v1:World)=>W.heap.size<=b/\v1.heap[b]? =some (.cells (dg mf) 34 (0,0))) call31 rfl rfl rfl (λW hS=>by rw[<-FA];exact nEd hZ (⟨vy,k.com,b,nn,0,0⟩:Fa) VR hnb W (hg.old hS A2 zU zP)) ?_;rintro W74 b74 w74 RZ aaX ⟨aho,R0⟩;have ahp:=(aL.1 R0).1;have R1:=RZ.sizes;replace R1:=yb R1;have agP:=aaX.size;have aaY:=RZ.under;simp only[xS,dC,fk]at aaY;refine call call27 rfl rfl rfl (λW hS=>nck hZ x K9 mf hB r sg hr o5 b74 _ _ W (hS.old A0 R0 zZ r4) (hg.old hS A3 zU zP)) ?_;refine B 4 ?_;refine kq (i:=0) rfl sizeOf36 rfl rfl rfl rfl (aT rfl) rfl ?_
   refine IJ ?_;refine B 8 ?_;refine aV (i:=1) rfl sizeOf59 rfl rfl rfl rfl rfl rfl ?_;refine B 4 ?_;refine bG (.inl rfl) results16 (RS.wA (i:=1) rfl isAgg59 sizeOf59 rfl (aT rfl) (RS.t rfl (RS.n))) A3 zS ?_;unfold o6;rw[if_pos (show nz l=true/\ -1<=b/\b<512 from⟨by simp_all,by omega,by omega⟩),if_pos K9,if_pos tA,if_pos qC,hF0,FA,hr,o5];rfl
  refine call call17 rfl rfl rfl (λW hS=>nCj sec tA W) ?_;refine B 11 ?_;refine FB ?_;refine B 7 ?_;refine WN ?_;unfold o6;rw[if_pos (show nz l=true/\ -1<=b/\b<512 from⟨by simp_all,by omega,by omega⟩),if_pos K9,if_neg tA];rfl
 refine call call17 rfl rfl rfl (λW hS=>nCj x K9 W) ?_;refine B 10 ?_;refine FB ?_;refine B 7 ?_;refine WN ?_;unfold o6;rw[if_pos (show nz l=true/\ -1<=b/\b<512 from⟨by simp_all,by omega,by omega⟩),if_neg K9];rfl

def IZ:Array Value:=#[.slice none 0 0,.slice none 0 0,.slice none 0 0,.slice none 0 0,.slice none 0 0,.slice none 0 0,.slice none 0 0,.slice none 0 0,.slice none 0 0]
def R3:Array Value:=#[.slice none 0 0,.slice none 0 0,.slice none 0 0,.slice none 0 0,.slice none 0 0,.slice none 0 0,.slice none 0 0,.slice none 0 0]
section
variable {C:Cx} {fn:Func} {R:Ending->World->Prop} {E:Env} {G:Gh} {L:List World} {H:ad}
theorem Aa{Dk t ct:Nat}(he:e= .ret\/e= .normal)(hr:fn.results=#[.cell t T])(hA:eQ C.P T false)(hx:look E t=some (ptr b 0))(hm:(Dk,.deferred (some []))∈H)(hb:(b,.cells cs ct fr)∈H)(dG:b≠Dk)(hv:cs[0]? =some v)(h:∀W H',St G L H' W->H'.map (·.1)=H.map (·.1)->R (.returned v) W):PJ C (bodyPostM (FW none) 0 C.P fn R) e E [eh Dk] G L H:=
 sf he hm λa W H' hF hS bS bF=>by
  obtain⟨i,hi⟩:=iQ.1 (bS _ hb dG);exact⟨v,(RS.w (C:=C) hi hA hx hv RS.n).res hr hF hS,h W H' hS bF⟩
end
theorem nFh(fv:Value)(w:World):Calls prog 84 #[.slice none 0 0,fv] w (av w (.int .i64 (-1))):=by
 refine enter (vs:=[_,_]) func84 rfl ntmps84 rfl ?_;refine B 14 ?_;refine CJ.loop (α:=Nat) (λj=>[(7,.int .i64 0),(8,.int .i64 0)]) (λj=>[]) (λj=>[w]) (λj=>Gh.no) (λj=>True) (λj=>0) 0 True.intro ⟨rfl,rfl,trivial⟩ rfl rfl z1 ?_;rintro j _;refine KY ?_;refine B 15 ?_;refine ay results84 rfl A0 ?_;rfl
theorem nlm(sc_:Array Value)(jF:sc_.size=9)(n:Int)(w:World):Calls prog 41 #[.agg sc_,.int .i64 n] w (cu w (λb:Nat×Nat=>.func (.func 83) #[] #[ptr b.1 0,ptr b.2 0]) (λb w1=>w.heap.size<=b.1/\w.heap.size<=b.2/\w1.heap[b.1]? =some (.cells sc_ 81 (0,0))/\w1.heap[b.2]? =some (.cells #[.int .i64 n] 3 (0,0)))):=by
 refine enter (vs:=[_,_]) func41 rfl ntmps41 rfl ?_;refine B 2 ?_;refine yX ?_;intro b2 w2 aI aE dY cA db;refine yX ?_;intro b3 w3 aJ aD dr bY cR;refine B 10 ?_;refine jM (b2,b3) results41 rfl A2 rfl ?_;exact λW hS=>⟨cA.1,bY.2.1,hS.old A1 aI aE trivial,hS.old A0 aJ aD trivial⟩
theorem n7l(b c:Nat)(W:World)(aP:W.heap[b]? =some (.cells IZ 81 (0,0))):OQ prog 83 [ptr b 0,ptr c 0] (λ_:Unit=>[.bool true]) ([]) (λ_=>False) (λk=>k=b) W:=by
 intro l M I X0 hM hI hX hy h0;have aX:¬M b:=λh=>(hM b h).2.2 rfl;refine nM (DE hM (hI [])) [] (vs:=[_,_,_]) func83 rfl ntmps83 rfl (yN hM (hI []) h0) ?_;refine B 4 ?_;refine rr (.slice none 0 0) (aa isAgg22 rfl A0 aP aX trivial rfl) ?_;refine B 1 ?_;refine call call84 rfl rfl rfl (λW hS=>nFh _ W) ?_;refine B 7 ?_;refine I0 ?_;refine B 5 ?_;exact QE (.inl rfl) results83 A0 (λA hA=>.inl hA)
theorem nYo(l:Lk)(w:World):Calls prog 35 #[.agg IZ,.agg (lkC l)] w (av w (.bool false)):=by
 refine wy Gh.no [] (vs:=[_,_]) func35 rfl ntmps35 rfl (rR w) ?_;refine B 2 ?_;refine yX ?_;intro b2 w2 aI aE dY cA db;refine yX ?_;intro b3 w3 aJ aD dr bY cR;refine aY zeroValue4 rfl rfl ?_;refine yW ?_;intro b4 dD dH;refine B 5 ?_;refine rv rfl rfl rfl (af isAgg81 sizeOf81 rfl A1 aI aE zL rfl) ?_;refine B 3 ?_;refine nr (α:=Nat×Nat) (v:=λb:Nat×Nat=>.func (.func 83) #[] #[ptr b.1 0,ptr b.2 0]) (Φ:=λ(W:World) (b:Nat×Nat) (w1:World)=>W.heap.size<=b.1/\W.heap.size<=b.2/\w1.heap[b.1]? =some (.cells IZ 81 (0,0))/\w1.heap[b.2]? =some (.cells #[.int .i64 l.fo] 3 (0,0))) call41 rfl rfl rfl (λW hS=>nlm IZ rfl _ W) ?_;rintro Wd ⟨bd,be⟩ wd pH QF ⟨Kr,aa0,oQ,aa1⟩;simp only at Kr aa0 oQ aa1;have QG:=pH.under;simp only[xS,dC,fk]at QG;have IB:=pH.sizes;replace IB:=yb IB;have Zn:=QF.size;refine B 3 ?_;refine CJ.range (f:=83) (cap:=[ptr bd 0,ptr be 0]) (α:=Unit) (enc:=(λ_:Unit=>[.bool true])) (xs:=[]) (MI:=λ_=>False) (RO:=λk=>k=bd) rfl call83 (λW W2 hS hB=>n7l bd be W2 (by rw[hB.block bd Zo];exact hS.old A0 oQ zZ qo)) (λ_ _ _ hk=>hk.elim) (λW hS k hk=>by subst hk;have:=hS.sizes;simp only[ab]at this;have:=(aL.1 oQ).1;refine⟨by omega,by simp only[dC,fk,eF,iz,cP,fm,or_false,not_or];omega,λh=>h⟩) (λ_=>rfl) (λ_ Hc=>Hc=[(b4,.cells #[.bool false] 4 (0,0))]) (λ_ _=>False) rfl (by rintro pre Hc rfl;rfl) (λ_ _ hk=>hk.elim) zQ ?_ ?_ ?_
 ·exact λpre x _ _ _ _ _ _ _ hp=>absurd hp.length_le z1
 ·rintro l Dk rec Hc cQ eW rfl;replace cQ:=yb cQ;refine B 4 ?_;refine Pj ?_;refine B 3 ?_;refine Aa (b:=b4) (.inl rfl) results35 isAgg4 rfl vk (cs:=#[.bool false]) (ct:=4) (fr:=(0,0)) (by exact .head _) zM rfl (λW H' hS bF=>⟨?_,?_⟩)
  ·exact congrArg Ending.returned rfl
  refine(hS.links w A3).below λk hk hx=>?_;rw[bF]at hx;simp[Gh.no,book]at hx;omega
 exact λ_ _ _ _ _ _ _ hk=>hk.elim
theorem nUg(l:Lk)(hE:nz l=false\/l.by_≠ -1)(w:World):Calls prog 19 #[.agg IZ,.agg (lkC l),.int .i64 256] w (av w (.bool false)):=by
 refine La ?_;refine yV ?_;intro b3 w3 aJ aD dr bY cR;refine yX ?_;intro b4 w4 cT dI k4 dD dH;refine B 6 ?_;refine R4 ?_;refine call call26 rfl rfl rfl (λW hS=>nI l W) ?_;refine B 3 ?_;refine aO ?_ ?_
 ·intro aj;refine B 7 ?_;refine ay results19 rfl A2 ?_;rfl
 intro aj;refine B 8 ?_;refine rq (.bool true) (bM rfl rfl) (by rw[decide_eq_false (hE.resolve_left qC)];rfl) ?_;refine B 5 ?_;refine rr (.agg IZ) (af isAgg81 sizeOf81 rfl A1 aJ aD trivial rfl) ?_;refine R4 ?_;refine call call35 rfl rfl rfl (λW hS=>nYo l W) ?_;refine B 5 ?_;refine ay results19 rfl A2 ?_;rfl
theorem nfk(l:Lk)(hE:nz l=false\/l.by_≠ -1)(w:World):Calls prog 9 #[.agg R3,.slice none 0 0,.agg (lkC l)] w (av w (.bool false)):=by
 refine enter (vs:=[_,_,_]) func9 rfl ntmps9 rfl ?_;refine B 2 ?_;refine yX ?_;intro b3 w3 aJ aD dr bY cR;refine yX ?_;intro b5 w5 ff gd rF iu iv;refine B 5 ?_;refine rv rfl rfl rfl (af isAgg31 sizeOf31 rfl A1 aJ aD trivial rfl) ?_;refine B 1 ?_;refine z3f ?_;refine rv rfl rfl rfl (af isAgg38 sizeOf38 rfl A0 ff gd trivial rfl) ?_;refine znh ?_;refine B 4 ?_;refine ay results9 rfl A2 ?_;rfl
theorem Lb(l:Lk)(hE:nz l=false\/l.by_≠ -1)(w:World):Calls prog 8 #[.agg R3,.slice none 0 0,.agg (lkC l)] w (av w (.slice none 0 0)):=by
 refine enter (vs:=[_,_,_]) func8 rfl ntmps8 rfl ?_;refine B 2 ?_;refine yX ?_;intro b3 w3 aJ aD dr bY cR;refine yX ?_;intro b5 w5 ff gd rF iu iv;refine aY zeroValue41 rfl rfl ?_;refine yW ?_;intro b6 gm kg;refine B 4 ?_;refine rv rfl rfl rfl (af isAgg31 sizeOf31 rfl A1 aJ aD zL rfl) ?_;refine B 1 ?_;refine z3f ?_;refine aY zeroValue81 rfl rfl ?_;refine yW ?_;intro b7 fu lG;refine zQi ?_;refine rv rfl rfl rfl (af isAgg38 sizeOf38 rfl A0 ff gd zL rfl) ?_;refine znh ?_;refine B 6 ?_;refine aV (i:=1) rfl sizeOf41 rfl rfl rfl rfl rfl rfl ?_;refine B 4 ?_;refine bG (.inl rfl) results8 (RS.w (i:=1) rfl isAgg41 rfl rfl (RS.n)) A2 zS ?_;rfl
def aa4:Array Value:=#[.int .i64 0,.int .i64 0,.int .u8 0,.int .u8 0,.int .u8 0,.int .u8 0,.int .u8 0,.int .u8 0,.int .u8 0,.int .u8 0,.int .u8 0,.int .u8 0,.int .u8 0,.int .u8 0,.int .u8 0,.int .u8 0,.int .u8 0,.int .u8 0,.int .u8 0,.int .u8 0,.int .u8 0,.int .u8 0,.int .u8 0,.int .u8 0,.int .u8 0,.int .u8 0,.int .u8 0,.int .u8 0,.int .u8 0,.int .u8 0,.int .u8 0,.int .u8 0,.int .u8 0,.int .u8 0]
theorem R5(l:Lk)(hE:nz l=false\/l.by_≠ -1)(it:Array Value)(w:World):Calls prog 14 #[.agg R3,.slice none 0 0,.agg (lkC l),.agg it] w (av w (.tuple #[.agg aa4,.int .i64 400])):=by
 refine enter (vs:=[_,_,_,_]) func14 rfl ntmps14 rfl ?_;refine B 2 ?_;refine yX ?_;intro b4 w4 cT dI k4 dD dH;refine yX ?_;intro b6 w6 wz wB OV gm kg;refine yX ?_;intro b7 w7 vt xY KF fu lG;refine Lc ?_;refine yW ?_;intro b8 ua uc;refine Pa ?_;refine yW ?_;intro b9 qt EN;refine B 4 ?_;refine rv rfl rfl rfl (af isAgg31 sizeOf31 rfl A2 cT dI zL rfl) ?_;refine B 1 ?_;refine z3f ?_;refine aY zeroValue81 rfl rfl ?_;refine yW ?_;intro ix o3 o4;refine zQi ?_;refine rv rfl rfl rfl (af isAgg38 sizeOf38 rfl A1 wz wB zL rfl) ?_;refine znh ?_;refine B 7 ?_;refine zlg ?_;refine B 4 ?_;refine bG (.inl rfl) results14 (RS.wA (i:=2) rfl isAgg63 sizeOf63 rfl (aT rfl) (RS.w (i:=1) rfl isAgg67 rfl rfl (RS.n))) A3 zS ?_;rfl
end Px
