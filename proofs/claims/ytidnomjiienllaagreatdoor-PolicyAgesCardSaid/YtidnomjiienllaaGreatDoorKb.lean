/- Contracts of functions of the program, each walked once. No condition beyond those that each theorem states. -/
import Derived.Test.YtidnomjiienllaaGreatDoorKa
import Derived.Test.YtidnomjiienllaaGreatDoorProg
import Derived.Test.YtidnomjiienllaaGreatDoorLa
set_option linter.unusedSimpArgs false
set_option linter.unusedVariables false
set_option linter.unusedSectionVars false
set_option maxRecDepth 20000
set_option maxHeartbeats 8000000
namespace Px
open Go Go.RowKit Go.Proofs Go.Proofs.Tryz
theorem V.encL_drop(l:List V)(i:Nat)(h:i<l.length):V.encL (l.drop i)=(l[i]).enc++V.encL (l.drop (i+1)):=by
 rw[aWo h,V.encL]
theorem fn_ent(x:V):Ent prog x.fn:=by
 cases x
 ·exact call136
 ·exact call139
 exact call140
theorem n6m(x:ByteArray)(hn:(V.text x).fine)(xs:List UInt8)(b cap:Nat)(sp:List Value)(hrow:RowOk xs cap sp)(w:World)(hb:w.heap[b]? =some (rowC 5 xs sp))(hlim:xs.length+(V.text x).enc.length<=800000000000):Calls prog 139 #[rowV b xs.length cap,vT x] w (nme w b 5 (xs++(V.text x).enc)):=by
 have hbl:=(ago.1 hb).1;simp only[V.fine]at hn;simp only[V.enc,axo,aHo]at hlim;have hxl:x.data.toList.length=x.size:=Array.length_toList;refine nT (vs:=[_,_]) (Gh.lent (· =b)) [(b,rowC 5 xs sp)] func139 rfl ntmps139 rfl (ntd hb) ?_;refine B 3 ?_;intro b3 w3 hb3 ha3 ho3 hm3 hz3;replace ha3:=yb ha3;replace ho3:=yc ho3;refine B 4 ?_;refine CJ.less (E':=[(0,_),(1,_),(3,_),(4,_)]) zR ?_;refine nJ 10 [1,2,7] [([],some _),([],none),([0,1],none),([],some _),([3],some (.string x)),([4],some _),([5],some _),([2,6],none),([],some _),([8],some (.string x))] (λcv L' H'=>match cv with| []=>L'=[w3,w]/\H'=[(b,rowC 5 xs sp)]| [v1]=>∃(b6:Nat),v1=rowV b6 ([2]:List UInt8).length 1/\L'=[w3,w]/\H'=[(b6,rowC 5 [2] []),(b,rowC 5 xs sp)]/\w3.heap.size<=b6/\w.heap.size<=b6| [v1,v2]=>∃(b6:Nat) (b7:Nat) (c7:Nat) (s7:List Value),v1=rowV b6 ([2]:List UInt8).length 1/\v2=rowV b7 (xs++[2]).length c7/\L'=[w3,w]/\H'=[(b6,rowC 5 [2] []),(b7,rowC 5 (xs++[2]) s7)]/\w3.heap.size<=b6/\w.heap.size<=b6/\Fr (Gh.lent (· =b)) [w3,w] b7/\(b7=b\/w3.heap.size<=b7/\w.heap.size<=b7)/\RowOk (xs++[2]) c7 s7| [v1,v2,v3]=>∃(b6:Nat) (b7:Nat) (c7:Nat) (s7:List Value) (b12:Nat) (c12:Nat) (s12:List Value),v1=rowV b6 ([2]:List UInt8).length 1/\v2=rowV b7 (xs++[2]).length c7/\v3=rowV b12 (xs++[2]++num x.size).length c12/\L'=[w3,w]/\H'=[(b6,rowC 5 [2] []),(b12,rowC 5 (xs++[2]++num x.size) s12)]/\w3.heap.size<=b6/\w.heap.size<=b6/\Fr (Gh.lent (· =b)) [w3,w] b7/\(b7=b\/w3.heap.size<=b7/\w.heap.size<=b7)/\RowOk (xs++[2]) c7 s7/\Fr (Gh.lent (· =b)) [w3,w] b12/\(b12=b\/w3.heap.size<=b12/\w.heap.size<=b12)/\RowOk (xs++[2]++num x.size) c12 s12|_=>False) zM ⟨rfl,rfl⟩ zM zM zM zM zM zM (pc zP (pk (pk (pc (by exact λcv L' H' hd hP=>X.val rfl rfl (fld_r underlying149 rfl sizeOf9 rfl) R2) (pc zch (pc (by exact λcv L' H' hd hP=>X.val rfl rfl (lenStr_r underlying9 rfl) R2) (pc zvd (pk (pc (by exact λcv L' H' hd hP=>X.val rfl rfl (fld_r underlying149 rfl sizeOf9 rfl) R2) (pc zch (pn))))))))))) ?_ ?_
 ·refine sc rfl rfl rfl ?_ ?_
  ·intro cv L' H' hl hP F Q' hk;obtain rfl:=aap hl;obtain⟨rfl,rfl⟩:=hP;refine bsB [2] bt zeroValue5 rfl rfl rfl rfl rfl rfl rfl rfl rfl ?_;intro b6 ha ho hx hr;exact OJ.done (hk _ _ _ ⟨b6,rfl,rfl,rfl,ha.1,ha.2.1⟩)
  refine sc rfl rfl rfl ?_ ?_
  ·intro cv L' H' hl hP F Q' hk;obtain⟨v1,rfl⟩:=len1 hl;obtain⟨b6,rfl,rfl,rfl,ha6,hA6⟩:=hP;refine apB (i:=1) (xs:=xs) (zs:=[2]) (sp:=sp) rfl bt rfl rfl rfl rfl (SrcB.own (i:=0) underlying52 rfl) hrow (.inl rfl) zDb ?_;exact znj
  refine sc rfl rfl rfl ?_ ?_
  ·intro cv L' H' hl hP F Q' hk;obtain⟨v1,v2,rfl⟩:=len2 hl;obtain⟨b6,b7,c7,s7,rfl,rfl,rfl,rfl,ha6,hA6,hf7,hg7,hr7⟩:=hP;refine nLg (i:=1) (ys:=xs++[2]++num x.size) (first:=[]) (cap:=[]) rfl rfl call137 rfl rfl rfl hf7 (λW hS hW=>nVc (xs++[2]) x.size zG b7 c7 s7 hr7 zDb W hW) ?_;intro bn cn sn hfn hrn;have hgn:=hfn;replace hgn:=ye hgn;exact OJ.done (hk _ _ _ ⟨b6,b7,c7,s7,bn,cn,sn,rfl,rfl,rfl,rfl,rfl,ha6,hA6,hf7,hg7,hr7,hfn,by simpa only[Fr,Gh.lent,Above,and_true]using hfn,hrn⟩)
  exact sn
 intro cv L' H' hl hP;obtain⟨v1,v2,v3,rfl⟩:=len3 hl;obtain⟨b6,b7,c7,s7,b12,c12,s12,rfl,rfl,rfl,rfl,rfl,ha6,hA6,hf7,hg7,hr7,hf12,hg12,hr12⟩:=hP;refine apB (i:=1) (xs:=xs++[2]++num x.size) (zs:=x.data.toList) (sp:=s12) rfl bt rfl rfl rfl rfl (SrcB.str underlying9) hr12 hf12 zDb ?_;intro b15 c15 s15 hf15 hr15;have hg15:=hf15;replace hg15:=ye hg15;refine B 4 ?_;have henc:xs++(V.text x).enc=xs++[2]++num x.size++x.data.toList:=by simp[V.enc]
 rw[henc];exact nWh (i:=1) (.inl rfl) results139 rfl rfl A1 (by simp only[OverX,adp,a9o,ahp,aip,and_true];simp only[Fr,Gh.lent,Above]at hf15;omega) hr15
theorem njn(l:List V)(ih:∀y∈l,n2i y)(hfin:(V.list l).fine)(N:Nat)(base:Option Addr)(lc bv bw:Nat)(xs:List UInt8)(b cap:Nat)(sp:List Value)(hrow:RowOk xs cap sp)(w:World)(hb:w.heap[b]? =some (rowC 5 xs sp))(hN:N<=w.heap.size)(hNb:N<=b)(hel:ElAt N w base l)(hwr:Wr N w bv bw)(hlim:xs.length+(V.list l).enc.length<=800000000000):Calls prog 140 #[rowV b xs.length cap,vL base l.length lc,ptr bv 0] w (nme w b 5 (xs++(V.list l).enc)):=by
 have hbl:=(ago.1 hb).1;simp only[V.fine]at hfin;obtain⟨hf1,hf2,hf3⟩:=hfin;have hlv:=hwr.ltv;have hlw:=hwr.ltw;simp only[V.enc,axo,aHo]at hlim;refine nT (vs:=[_,_,_]) (Gh.lent (· =b)) [(b,rowC 5 xs sp)] func140 rfl ntmps140 rfl (ntd hb) ?_;refine B 3 ?_;intro b4 w4 hb4 ha4 ho4 hm4 hz4;replace ha4:=yb ha4;replace ho4:=yc ho4;refine B 4 ?_;refine zMg ?_;refine nJ 7 [1,2] [([],some _),([],none),([0,1],none),([],some _),([3],some (.slice base l.length lc)),([4],some _),([5],some _)] (λcv L' H'=>match cv with| []=>L'=[w4,w]/\H'=[(b,rowC 5 xs sp)]| [v1]=>∃(b9:Nat),v1=rowV b9 ([3]:List UInt8).length 1/\L'=[w4,w]/\H'=[(b9,rowC 5 [3] []),(b,rowC 5 xs sp)]/\w4.heap.size<=b9/\w.heap.size<=b9| [v1,v2]=>∃(b9:Nat) (b10:Nat) (c10:Nat) (s10:List Value),v1=rowV b9 ([3]:List UInt8).length 1/\v2=rowV b10 (xs++[3]).length c10/\L'=[w4,w]/\H'=[(b9,rowC 5 [3] []),(b10,rowC 5 (xs++[3]) s10)]/\w4.heap.size<=b9/\w.heap.size<=b9/\Fr (Gh.lent (· =b)) [w4,w] b10/\(b10=b\/w4.heap.size<=b10/\w.heap.size<=b10)/\RowOk (xs++[3]) c10 s10|_=>False) zM ⟨rfl,rfl⟩ zM zM zM zM zM zM (pc zP (pk (pk (pc zzb (pc zci (pc (by exact λcv L' H' hd hP=>X.val rfl rfl (lenS_r underlying147 rfl) R2) (pc zvd (pn)))))))) ?_ ?_
 ·refine sc rfl rfl rfl ?_ ?_
  ·exact zXi
  refine sc rfl rfl rfl ?_ ?_
  ·intro cv L' H' hl hP F Q' hk;obtain⟨v1,rfl⟩:=len1 hl;obtain⟨b9,rfl,rfl,rfl,ha9,hA9⟩:=hP;refine apB (i:=1) (xs:=xs) (zs:=[3]) (sp:=sp) rfl bt rfl rfl rfl rfl (SrcB.own (i:=0) underlying52 rfl) hrow (.inl rfl) zDb ?_;intro b7 c7 s7 hf7 hr7;exact OJ.done (hk _ _ _ ⟨b9,b7,c7,s7,rfl,rfl,rfl,rfl,ha9,hA9,hf7,by simpa only[Fr,Gh.lent,Above,and_true]using hf7,hr7⟩)
  exact sn
 intro cv L' H' hl hP;obtain⟨v1,v2,rfl⟩:=len2 hl;obtain⟨b9,b10,c10,s10,rfl,rfl,rfl,rfl,ha9,hA9,hf10,hg10,hr10⟩:=hP;refine OJ.dropF (i:=0) rfl (.inr ⟨ha9,hA9,trivial⟩) ?_;refine nLg (i:=0) (ys:=xs++[3]++num l.length) (first:=[]) (cap:=[]) rfl rfl call137 rfl rfl rfl hf10 (λW hS hW=>nVc (xs++[3]) l.length zG b10 c10 s10 hr10 zDb W hW) ?_;intro b15 c15 s15 hf15 hr15;have hg15:=hf15;replace hg15:=ye hg15;refine B 13 ?_;refine CJ.loop (α:=List UInt8×Nat×Nat×Nat×List Value) (λp=>[(0,rowV p.2.2.1 p.1.length p.2.2.2.1),(2,ptr bv 0),(17,.slice base l.length lc),(18,.int .i64 (l.length:Int)),(19,.int .i64 (p.2.1:Int))]) (λp=>[(p.2.2.1,rowC 5 p.1 p.2.2.2.2)]) (λp=>[w4,w]) (λp=>Gh.lent (· =b)) (λp=>p.1++V.encL (l.drop p.2.1)=xs++(V.list l).enc/\p.2.1<=l.length/\Fr (Gh.lent (· =b)) [w4,w] p.2.2.1/\(p.2.2.1=b\/w4.heap.size<=p.2.2.1/\w.heap.size<=p.2.2.1)/\RowOk p.1 p.2.2.2.1 p.2.2.2.2) (λp=>l.length-p.2.1) (xs++[3]++num l.length,0,b15,c15,s15) ⟨by simp[V.enc],a3o _,hf15,by simpa only[Fr,Gh.lent,Gh.no,Above,and_true,false_or]using hf15,hr15⟩ zR rfl rfl zS ?_;rintro⟨ys,i,b1,c1,s1⟩ ⟨hinv,hi,hf,hg,hr⟩;dsimp only at hinv hi hf hg hr ⊢;have hll:=congrArg List.length hinv;simp only[V.enc,aHo,axo]at hll;refine B 6 ?_;refine zCD ?_ ?_
 ·intro hc1;refine B 5 ?_;obtain⟨bl,cs,te,fre,rfl,hbl,hcs,hcz,a1,a2,p3,n3,c3,hcut,hva⟩:=hel i zG;have hbl2:=(ago.1 hcs).1;obtain⟨y,hy⟩:∃y,l[i]'zG=y:=⟨_,rfl⟩;rw[hy]at hcut hva;have hym:y∈l:=hy▸alp _;have hkb:=V.kind_bd y;have hed:=congrArg List.length (V.encL_drop l i zG);rw[aHo,hy]at hed;refine B 2 ?_;refine rv rfl rfl rfl (RV.re (v':=.agg #[.int .i64 y.kind,.int .i64 a1,.string a2,.slice p3 n3 c3]) (ldRA_r isAgg149 sizeOf149 rfl A1 hcs (by show ¬(_=_);omega) zF zG) (congrArg Value.agg (by rw[<-hcut];congr 1;omega))) ?_;refine zqf ?_;intro b7 ha7 ho7;replace ha7:=yb ha7;replace ho7:=yc ho7;refine zef ?_;refine B 2 ?_;refine zfh ?_;refine nw 9 [.det [] _,.det [] _,.det [1] _,.det [0] _,.det [2,3] _,.det [4] _,.det [5] _,.det [] _,.det [] _] zM (xc (by exact λvals=>X.val rfl rfl (ldR_r isAgg203 rfl A1 hwr.atv (by show ¬(_=_);omega) zvb rfl) (λ_ _=>rfl)) (xc (by exact λvals=>X.val rfl rfl (fld_r underlying149 rfl sizeOf3 rfl) (λ_ _=>rfl)) (xc zT (xc zec (xc zOd (xc (by exact λvals=>X.val rfl rfl (fld_r underlying202 rfl sizeOf200 rfl) (λ_ _=>rfl)) (xc (by exact λvals=>X.val rfl rfl (ldR_r (v:=.func (.func y.fn) #[] (y.cap bv).toArray) isAgg200 rfl A1 hwr.atw (by show ¬(_=_);omega) zvb (wrC_at bv _ _ (by show((0+Int.toNat y.kind*1+0:Nat):Int)=_;omega))) (λ_ _=>rfl)) (xc zK (xc zSc (xn)))))))))) zM zM zM (λvals=>?_)
  refine nLg (i:=1) (ys:=ys++y.enc) (first:=[]) (cap:=y.cap bv) rfl rfl (fn_ent _) rfl rfl rfl hf (λW hS hW=>ih y hym N b1 c1 bv bw ys s1 W _ (VAt.up (abo _) (hS.same A1 hN (λk hk (h:k=b)=>by omega) zH) _ _ hva) (V.fineL_mem hf3 y hym) (hwr.up (abo _) (hS.same A1 hN (λk hk (h:k=b)=>by omega) zH)) zG (aco hN (hS.links _ A1).size) hr zG hW) ?_;exact zEi
 intro hc1;refine B 12 ?_;have e:i=l.length:=by omega
 subst e;rw[List.drop_of_length_le (abo _)]at hinv;simp only[V.encL,asp]at hinv;rw[<-hinv];exact nWh (i:=0) (.inl rfl) results140 rfl rfl A1 (by simp only[OverX,adp,a9o,ahp,aip,and_true];omega) hr
theorem nRi(l:List V)(ih:∀y∈l,n2i y)(hfin:(V.list l).fine)(N:Nat)(base:Option Addr)(lc bv bw:Nat)(w:World)(hN:N<=w.heap.size)(hel:ElAt N w base l)(hwr:Wr N w bv bw)(hlim:(V.list l).enc.length<=800000000000):Calls prog 140 #[.slice none 0 0,vL base l.length lc,ptr bv 0] w (nUk w 5 ((V.list l).enc)):=by
 simp only[V.fine]at hfin;obtain⟨hf1,hf2,hf3⟩:=hfin;have hlv:=hwr.ltv;have hlw:=hwr.ltw;simp only[V.enc,axo,aHo]at hlim;refine enter (vs:=[_,_,_]) func140 rfl ntmps140 rfl ?_;refine B 3 ?_;intro b4 w4 hb4 ha4 ho4 hm4 hz4;replace ha4:=yb ha4;replace ho4:=yc ho4;refine B 4 ?_;refine zMg ?_;refine nJ 7 [1,2] [([],some _),([],none),([0,1],none),([],some _),([3],some (.slice base l.length lc)),([4],some _),([5],some _)] (λcv L' H'=>match cv with| []=>L'=[w4,w]/\H'=[]| [v1]=>∃(b9:Nat),v1=rowV b9 ([3]:List UInt8).length 1/\L'=[w4,w]/\H'=[(b9,rowC 5 [3] [])]/\w4.heap.size<=b9/\w.heap.size<=b9| [v1,v2]=>∃(b9:Nat) (b10:Nat) (c10:Nat) (s10:List Value),v1=rowV b9 ([3]:List UInt8).length 1/\v2=rowV b10 ([3]:List UInt8).length c10/\L'=[w4,w]/\H'=[(b10,rowC 5 [3] s10),(b9,rowC 5 [3] [])]/\w4.heap.size<=b9/\w.heap.size<=b9/\w4.heap.size<=b10/\w.heap.size<=b10/\RowOk [3] c10 s10|_=>False) zM ⟨rfl,rfl⟩ zM zM zM zM zM zM (pc zP (pk (pk (pc zzb (pc zci (pc (by exact λcv L' H' hd hP=>X.val rfl rfl (lenS_r underlying147 rfl) R2) (pc zvd (pn)))))))) ?_ ?_
 ·refine sc rfl rfl rfl ?_ ?_
  ·exact zXi
  refine sc rfl rfl rfl ?_ ?_
  ·intro cv L' H' hl hP F Q' hk;obtain⟨v1,rfl⟩:=len1 hl;obtain⟨b9,rfl,rfl,rfl,ha9,hA9⟩:=hP;refine apN (zs:=[3]) bt rfl rfl rfl rfl (SrcB.own (i:=0) underlying52 rfl) zI zI ?_;intro b7 c7 s7 ha7 ho7 hx7 hr7;exact OJ.done (hk _ _ _ ⟨b9,b7,c7,s7,rfl,rfl,rfl,rfl,ha9,hA9,ha7.1,ha7.2.1,hr7⟩)
  exact sn
 intro cv L' H' hl hP;obtain⟨v1,v2,rfl⟩:=len2 hl;obtain⟨b9,b10,c10,s10,rfl,rfl,rfl,rfl,ha9,hA9,hf10,hg10,hr10⟩:=hP;refine OJ.dropF (i:=1) rfl (.inr ⟨ha9,hA9,trivial⟩) ?_;refine nLg (i:=0) (ys:=[3]++num l.length) (first:=[]) (cap:=[]) rfl rfl call137 rfl rfl rfl (.inr ⟨hf10,hg10,trivial⟩) (λW hS hW=>nVc ([3]) l.length zG b10 c10 s10 hr10 zDb W hW) ?_;intro b15 c15 s15 hf15 hr15;have hg15:=hf15;replace hg15:=ye hg15;refine B 13 ?_;refine CJ.loop (α:=List UInt8×Nat×Nat×Nat×List Value) (λp=>[(0,rowV p.2.2.1 p.1.length p.2.2.2.1),(2,ptr bv 0),(17,.slice base l.length lc),(18,.int .i64 (l.length:Int)),(19,.int .i64 (p.2.1:Int))]) (λp=>[(p.2.2.1,rowC 5 p.1 p.2.2.2.2)]) (λp=>[w4,w]) (λp=>Gh.no) (λp=>p.1++V.encL (l.drop p.2.1)=(V.list l).enc/\p.2.1<=l.length/\Fr (Gh.no) [w4,w] p.2.2.1/\(w4.heap.size<=p.2.2.1/\w.heap.size<=p.2.2.1)/\RowOk p.1 p.2.2.2.1 p.2.2.2.2) (λp=>l.length-p.2.1) ([3]++num l.length,0,b15,c15,s15) ⟨by simp[V.enc],a3o _,hf15,by simpa only[Fr,Gh.lent,Gh.no,Above,and_true,false_or]using hf15,hr15⟩ zR rfl rfl zS ?_;rintro⟨ys,i,b1,c1,s1⟩ ⟨hinv,hi,hf,hg,hr⟩;dsimp only at hinv hi hf hg hr ⊢;have hll:=congrArg List.length hinv;simp only[V.enc,aHo,axo]at hll;refine B 6 ?_;refine zCD ?_ ?_
 ·intro hc1;refine B 5 ?_;obtain⟨bl,cs,te,fre,rfl,hbl,hcs,hcz,a1,a2,p3,n3,c3,hcut,hva⟩:=hel i zG;have hbl2:=(ago.1 hcs).1;obtain⟨y,hy⟩:∃y,l[i]'zG=y:=⟨_,rfl⟩;rw[hy]at hcut hva;have hym:y∈l:=hy▸alp _;have hkb:=V.kind_bd y;have hed:=congrArg List.length (V.encL_drop l i zG);rw[aHo,hy]at hed;refine B 2 ?_;refine rv rfl rfl rfl (RV.re (v':=.agg #[.int .i64 y.kind,.int .i64 a1,.string a2,.slice p3 n3 c3]) (ldRA_r isAgg149 sizeOf149 rfl A1 hcs zO zF zG) (congrArg Value.agg (by rw[<-hcut];congr 1;omega))) ?_;refine zqf ?_;intro b7 ha7 ho7;replace ha7:=yb ha7;replace ho7:=yc ho7;refine zef ?_;refine B 2 ?_;refine zfh ?_;refine nw 9 [.det [] _,.det [] _,.det [1] _,.det [0] _,.det [2,3] _,.det [4] _,.det [5] _,.det [] _,.det [] _] zM (xc (by exact λvals=>X.val rfl rfl (ldR_r isAgg203 rfl A1 hwr.atv zO zvb rfl) (λ_ _=>rfl)) (xc (by exact λvals=>X.val rfl rfl (fld_r underlying149 rfl sizeOf3 rfl) (λ_ _=>rfl)) (xc zT (xc zec (xc zOd (xc (by exact λvals=>X.val rfl rfl (fld_r underlying202 rfl sizeOf200 rfl) (λ_ _=>rfl)) (xc (by exact λvals=>X.val rfl rfl (ldR_r (v:=.func (.func y.fn) #[] (y.cap bv).toArray) isAgg200 rfl A1 hwr.atw zO zvb (wrC_at bv _ _ (by show((0+Int.toNat y.kind*1+0:Nat):Int)=_;omega))) (λ_ _=>rfl)) (xc zK (xc zSc (xn)))))))))) zM zM zM (λvals=>?_)
  refine nLg (i:=1) (ys:=ys++y.enc) (first:=[]) (cap:=y.cap bv) rfl rfl (fn_ent _) rfl rfl rfl hf (λW hS hW=>ih y hym N b1 c1 bv bw ys s1 W _ (VAt.up (abo _) (hS.same A1 hN zN zH) _ _ hva) (V.fineL_mem hf3 y hym) (hwr.up (abo _) (hS.same A1 hN zN zH)) zG (aco hN (hS.links _ A1).size) hr zG hW) ?_;exact zEi
 intro hc1;refine B 12 ?_;have e:i=l.length:=by omega
 subst e;rw[List.drop_of_length_le (abo _)]at hinv;simp only[V.encL,asp]at hinv;rw[<-hinv];exact retNew (i:=0) (.inl rfl) results140 rfl rfl A1 zmb hr
theorem write_ok:∀x,n2i x:=by
 refine V.ind ?_ ?_ ?_
 ·intro n N b cap bv bw xs sp w v hv hf _ _ _ hr hl hb;simp only[VAt]at hv;subst hv;exact nwn n hf xs b cap sp hr w hb hl
 ·intro s N b cap bv bw xs sp w v hv hf _ _ _ hr hl hb;simp only[VAt]at hv;subst hv;exact n6m s hf xs b cap sp hr w hb hl
 intro l ih N b cap bv bw xs sp w v hv hf hwr hNb hN hr hl hb;obtain⟨base,lc,rfl,hc,hel⟩:=hv.list;exact njn l ih hf N base lc bv bw xs b cap sp hr w hb hN hNb hel hwr hl
theorem nge(l:List V)(hfin:(V.list l).fine)(hd:(V.list l).depth<=16)(hlim:(V.list l).enc.length<=800000000000)(N:Nat)(base:Option Addr)(lc:Nat)(w:World)(hN:N<=w.heap.size)(hva:VAt N w (.list l) (vL base l.length lc)):Calls prog 54 #[vL base l.length lc] w (nci w 5 (V.list l).enc):=by
 obtain⟨base',lc',hveq,hlc,hel'⟩:=hva.list;obtain⟨rfl,rfl⟩:base=base'/\lc=lc':=by simpa[vL]using hveq
 refine enter (vs:=[_]) func54 rfl ntmps54 rfl ?_;refine B 3 ?_;intro b1 w1 hb1 ha1 ho1 hm1 hz1;replace ha1:=yb ha1;replace ho1:=yc ho1;refine B 7 ?_;refine rv rfl rfl rfl (ldRAw_r isAgg149 sizeOf149 rfl A0 hb1 hm1 trivial rfl) ?_;refine call call88 rfl rfl rfl (λW hS=>nBl (.list l) _ _ _ _ _ hfin hd N W (aco hN (hS.links _ A1).size) (VAt.up zG (hS.same A1 hN zN zH) _ _ hva)) ?_;refine zxh ?_;refine B 6 ?_;refine CJ.less (E':=[(0,_),(1,_),(2,_),(3,_),(4,_),(5,_),(6,_),(7,_),(8,_)]) zR ?_;refine nJ 8 [0,3,4,5,6] [([],none),([],some _),([1],some (.int .i64 3)),([0],none),([2,3],none),([4],none),([5],none),([],some (vL base l.length lc))] (λcv L' H'=>match cv with| []=>L'=[w1,w]/\H'=[]| [v1]=>∃(bw:Nat) (bv:Nat) (w10:World),v1=ptr bw 0/\L'=[w10,w1,w]/\H'=[]/\w1.heap.size<=bw/\w1.heap.size<=bv/\bw<w10.heap.size/\bv<w10.heap.size/\w10.heap[bv]? =some (.cells #[ptr bw 0] 203 (0,0))/\w10.heap[bw]? =some (.cells (wrC bv) 264 (0,0))/\w1.heap.size<=w10.heap.size| [v1,v2]=>∃(bw:Nat) (bv:Nat) (w10:World),v1=ptr bw 0/\v2=ptr bw 0/\L'=[w10,w1,w]/\H'=[]/\w1.heap.size<=bw/\w1.heap.size<=bv/\bw<w10.heap.size/\bv<w10.heap.size/\w10.heap[bv]? =some (.cells #[ptr bw 0] 203 (0,0))/\w10.heap[bw]? =some (.cells (wrC bv) 264 (0,0))/\w1.heap.size<=w10.heap.size| [v1,v2,v3]=>∃(bw:Nat) (bv:Nat) (w10:World),v1=ptr bw 0/\v2=ptr bw 0/\v3=ptr bw 3/\L'=[w10,w1,w]/\H'=[]/\w1.heap.size<=bw/\w1.heap.size<=bv/\bw<w10.heap.size/\bv<w10.heap.size/\w10.heap[bv]? =some (.cells #[ptr bw 0] 203 (0,0))/\w10.heap[bw]? =some (.cells (wrC bv) 264 (0,0))/\w1.heap.size<=w10.heap.size| [v1,v2,v3,v4]=>∃(bw:Nat) (bv:Nat) (w10:World),v1=ptr bw 0/\v2=ptr bw 0/\v3=ptr bw 3/\v4=ptr bw 3/\L'=[w10,w1,w]/\H'=[]/\w1.heap.size<=bw/\w1.heap.size<=bv/\bw<w10.heap.size/\bv<w10.heap.size/\w10.heap[bv]? =some (.cells #[ptr bw 0] 203 (0,0))/\w10.heap[bw]? =some (.cells (wrC bv) 264 (0,0))/\w1.heap.size<=w10.heap.size| [v1,v2,v3,v4,v5]=>∃(bw:Nat) (bv:Nat) (w10:World),v1=ptr bw 0/\v2=ptr bw 0/\v3=ptr bw 3/\v4=ptr bw 3/\v5= .func (.func 140) #[] #[ptr bv 0]/\L'=[w10,w1,w]/\H'=[]/\w1.heap.size<=bw/\w1.heap.size<=bv/\bw<w10.heap.size/\bv<w10.heap.size/\w10.heap[bv]? =some (.cells #[ptr bw 0] 203 (0,0))/\w10.heap[bw]? =some (.cells (wrC bv) 264 (0,0))/\w1.heap.size<=w10.heap.size|_=>False) zM ⟨rfl,rfl⟩ zM zM zM zM zM zM (pk (pc (by exact λcv L' H' hd hP=>X.val rfl rfl (fld_r underlying149 rfl sizeOf3 rfl) R2) (pc zcj (pk (pk (pk (pk (pc zcj (pn))))))))) ?_ ?_
 ·refine sc rfl rfl rfl ?_ ?_
  ·intro cv L' H' hl hP F Q' hk;obtain rfl:=aap hl;obtain⟨rfl,rfl⟩:=hP;refine nq (Φ:=λ(W:World) (p:Nat×Nat) (v1:World)=>W.heap.size<=p.1/\W.heap.size<=p.2/\v1.heap[p.2]? =some (.cells #[ptr p.1 0] 203 (0,0))/\v1.heap[p.1]? =some (.cells (wrC p.2) 264 (0,0))) call89 rfl rfl rfl (λW hS=>noi W) ?_;rintro W ⟨bw,bv⟩ w10 hSW hbel ⟨h1,h2,h3,h4⟩;have h5:=hSW.sizes;replace h5:=yb h5;dsimp only at h1 h2 h3 h4;have e3:=(ago.1 h4).1;have e4:=(ago.1 h3).1;have e7:=hbel.size;exact OJ.done (hk _ _ _ ⟨bw,bv,w10,rfl,rfl,rfl,by omega,by omega,e3,e4,h3,h4,by omega⟩)
  refine sc rfl rfl rfl ?_ ?_
  ·intro cv L' H' hl hP F Q' hk;obtain⟨v1,rfl⟩:=len1 hl;obtain⟨bw,bv,w10,rfl,rfl,rfl,e1,e2,e3,e4,e5,e6,e7⟩:=hP;refine B 1 ?_;exact OJ.done (hk _ _ _ ⟨bw,bv,w10,rfl,rfl,rfl,rfl,e1,e2,e3,e4,e5,e6,e7⟩)
  refine sc rfl rfl rfl ?_ ?_
  ·intro cv L' H' hl hP F Q' hk;obtain⟨v1,v2,rfl⟩:=len2 hl;obtain⟨bw,bv,w10,rfl,rfl,rfl,rfl,e1,e2,e3,e4,e5,e6,e7⟩:=hP;refine B 1 ?_;exact OJ.done (hk _ _ _ ⟨bw,bv,w10,rfl,rfl,rfl,rfl,rfl,e1,e2,e3,e4,e5,e6,e7⟩)
  refine sc rfl rfl rfl ?_ ?_
  ·intro cv L' H' hl hP F Q' hk;obtain⟨v1,v2,v3,rfl⟩:=len3 hl;obtain⟨bw,bv,w10,rfl,rfl,rfl,rfl,rfl,e1,e2,e3,e4,e5,e6,e7⟩:=hP;refine B 1 ?_;exact OJ.done (hk _ _ _ ⟨bw,bv,w10,rfl,rfl,rfl,rfl,rfl,rfl,e1,e2,e3,e4,e5,e6,e7⟩)
  refine sc rfl rfl rfl ?_ ?_
  ·intro cv L' H' hl hP F Q' hk;obtain⟨v1,v2,v3,v4,rfl⟩:=len4 hl;obtain⟨bw,bv,w10,rfl,rfl,rfl,rfl,rfl,rfl,e1,e2,e3,e4,e5,e6,e7⟩:=hP;refine rv rfl rfl rfl (ldR_r (v:=.func (.func 140) #[] #[ptr bv 0]) isAgg200 rfl A0 e6 zO trivial rfl) ?_;exact OJ.done (hk _ _ _ ⟨bw,bv,w10,rfl,rfl,rfl,rfl,rfl,rfl,rfl,e1,e2,e3,e4,e5,e6,e7⟩)
  exact sn
 intro cv L' H' hl hP;obtain⟨v1,v2,v3,v4,v5,rfl⟩:=len5 hl;obtain⟨bw,bv,w10,rfl,rfl,rfl,rfl,rfl,rfl,rfl,e1,e2,e3,e4,e5,e6,e7⟩:=hP;refine callNC (ys:=(V.list l).enc) (first:=[]) (cap:=[ptr bv 0]) rfl call140 rfl rfl rfl (λW hS=>nRi l (λy _=>write_ok y) hfin w10.heap.size base lc bv bw W (hS.links _ A0).size (λi hi=>by
  obtain⟨bl,cs,t,fr,h1,h2,h3,h4,a1,a2,p3,n3,c3,h5,h6⟩:=hel' i hi;have hsm:=hS.same A2 hN zN zH;exact⟨bl,cs,t,fr,h1,by omega,(hsm bl h2).trans h3,h4,a1,a2,p3,n3,c3,h5,VAt.up zG hsm _ _ h6⟩) ⟨e4,e3,hS.old A0 e5 zO trivial,hS.old A0 e6 zO trivial⟩ hlim) ?_
 intro b18 c18 s18 ha18 ho18 hx18 hr18;replace ha18:=yb ha18;refine B 5 ?_;exact retEnc (i:=0) (.inl rfl) results54 rfl rfl rfl A2 zmb hr18


def SegU (w:World) (b off:Nat) (zs:List UInt8):Prop:=∃cs t fr,w.heap[b]? =some (.cells cs t fr)/\off+zs.length<=cs.size/\∀i,i<zs.length->cs[off+i]? =some (.int .u8 (fU zs i))
variable {C:Cx} {E:Env} {G:Gh} {H:Heap} {zs:List UInt8} {sp:List Value} {L:List World} {N b tx:Nat} {fr:Nat×Nat} {f:Nat->Int} {x:Operand} {W w' w1:World}
theorem SegU.up{w:World}{off:Nat}(h:SegU w b off zs)(hb:w'.heap[b]? =w.heap[b]?):SegU w' b off zs:=by
 obtain⟨cs,t,fr,h1,h2,h3⟩:=h;exact⟨cs,t,fr,hb.trans h1,h2,h3⟩
theorem SegU.lt{w:World}{off:Nat}(h:SegU w b off zs):b<w.heap.size:=by
 obtain⟨cs,t,fr,h1,_⟩:=h;exact(ago.1 h1).1
theorem SegU.old{w:World}{off:Nat}(h:SegU w b off zs)(hS:St G L H W)(hw:w∈L)(hX:¬G.X b)(hO:Off H b):SegU W b off zs:=by
 obtain⟨cs,t,fr,h1,h2,h3⟩:=h;exact⟨cs,t,fr,hS.old hw h1 hX hO,h2,h3⟩
theorem SegU.row{e:Nat}(h:W.heap[b]? =some (rowC e zs sp)):SegU W b 0 zs:=
 ⟨_,_,_,h,by simp only[amp,aHo,ncc];omega,λi hi=>ub_at _ _ i hi⟩
theorem SrcB.seg{e' off c:Nat}(hU:C.P.underlying tx=some (.slice e'))(hm:w1∈L)(h:SegU w1 b off zs)(hG:¬G.X b)(hO:Off H b):SrcB C G L H tx (.slice (some ⟨b,off,none⟩) zs.length c) zs:=by
 obtain⟨cs,t,fr,h1,h2,h3⟩:=h;exact SrcJ.sl hU (Rd.old hm h1 hG hO zG (by rw[nkj h2 h3,<-ub_byts])) (by rw[ncc,arp]) (n2h _)
def Glb (w:World):Prop:=(∃t fr,w.heap[0]? =some (.cells S8.init.cells t fr))/\(∃t fr,w.heap[2]? =some (.cells (cf 64 (λi=>u32 (kk i))) t fr))
theorem Glb.lt{w:World}(h:Glb w):3<=w.heap.size:=by
 obtain⟨_,t,fr,h⟩:=h;have:=(ago.1 h).1;omega
theorem Glb.old{w:World}(h:Glb w)(hS:St G L H W)(hw:w∈L)(hX:∀k,k<3->¬G.X k)(hH:Over 3 H):Glb W:=by
 have hs:=hS.same hw h.lt hX hH;obtain⟨⟨t,fr,h1⟩,t',fr',h2⟩:=h;exact⟨⟨t,fr,(hs 0 zG).trans h1⟩,t',fr',(hs 2 zG).trans h2⟩
def scalL (s:ByteArray) (xs:List UInt8):Int:=tScal s xs.length (fU xs)
theorem scalL_bd(s:ByteArray)(xs:List UInt8):1<=scalL s xs/\scalL s xs<2305843009213688669:=by
 have hbd:=nmh 2305843009213688668 zI (dgL (tagged s xs.length (fU xs))) 0 zI zI;unfold scalL tScal;omega
structure Fx where
 sc:ByteArray->List UInt8->Int
 tg:ByteArray->List UInt8->Nat->Int
 ge:Int->Int->Int×Int
structure FxOk (Z:Fx):Prop where
 sc:∀s xs,scalL s xs=Z.sc s xs
 tg:∀s xs,tagged s xs.length (fU xs)=Z.tg s xs
 ge:∀a k,gExp a k=Z.ge a k
variable {Z:Fx}
theorem FxOk.bd(hZ:FxOk Z)(s:ByteArray)(xs:List UInt8):1<=Z.sc s xs/\Z.sc s xs<2305843009213688669:=by
 rw[<-hZ.sc];exact scalL_bd s xs
theorem FxOk.byt(hZ:FxOk Z)(s:ByteArray)(xs:List UInt8):Byt (Z.tg s xs):=by
 rw[<-hZ.tg];exact nAi _ _ _
theorem baseG(hZ:FxOk Z)(k:Int)(w:World):Calls prog 64 #[.int .i64 k] w (Ret w (eTup (Z.ge 4 k))):=by
 rw[<-hZ.ge];exact n1h k w
theorem publicG(hZ:FxOk Z)(a:Int)(w:World):Calls prog 62 #[.int .i64 a] w (Ret w (.int .i64 (Z.ge 4 a).1)):=by
 rw[<-hZ.ge];exact n7g a w
theorem scalG(hZ:FxOk Z)(s:ByteArray)(hs0:s.size<1000)(xs:List UInt8)(hn:xs.length<900000000000)(b off c:Nat)(hc:xs.length<=c)(w:World)(h:SegU w b off xs)(hg:Glb w):Calls prog 94 #[.string s,.slice (some ⟨b,off,none⟩) xs.length c] w (Ret w (.int .i64 (Z.sc s xs))):=by
 rw[<-hZ.sc];obtain⟨cs,t,fr,h1,h2,h3⟩:=h;obtain⟨⟨t2,fr2,g1⟩,t3,fr3,g2⟩:=hg;exact nmk s xs.length (fU xs) b off c t t2 t3 fr fr2 fr3 cs hs0 hc zG w h1 h2 h3 g1 g2
def b8 (n:Int) (i:Nat):UInt8:=UInt8.ofNat ((n%18446744073709551616).toNat/2^(56-8*i)%256)
def be8 (n:Int):List UInt8:=(List.range 8).map (b8 n)
theorem nEi(n:Int):(be8 n).length=8:=by simp[be8]
theorem nsk(n:Int)(i:Nat)(h:i<8):(be8 n).take (i+1)=(be8 n).take i++[b8 n i]:=by
 have hl:i<(be8 n).length:=by rw[nEi];exact h
 rw[aep hl];congr 2;simp[be8]
theorem b8_re(n k:Int)(i:Nat)(hi:i<8)(hk:k=56-8*(i:Int)):(n%18446744073709551616).fdiv (2^(min (Int.toNat k) IntKind.u64.bits))%256=((b8 n i).toNat:Int):=by
 subst hk;have e1:min (Int.toNat (56-8*(i:Int))) IntKind.u64.bits=56-8*i:=by simp[IntKind.bits];omega
 obtain⟨m,hm⟩:∃m:Nat,n%18446744073709551616=(m:Int):=⟨(n%18446744073709551616).toNat,by omega⟩;rw[e1];unfold b8;rw[hm,nre,a8o];simp only[UInt8.toNat_ofNat'];rw[nVd];omega
def nCc (ns:List Int):List UInt8:=ns.flatMap be8
theorem nyj(ns:List Int):(nCc ns).length=8*ns.length:=by
 induction ns with
 |nil=>rfl
 |cons n ns ih=>simp only[nCc,avp,aHo,axo]at *;rw[nEi];omega
theorem nTm(ns:List Int)(j:Nat)(h:j<ns.length):nCc (ns.take (j+1))=nCc (ns.take j)++be8 ns[j]:=by
 rw[aep h];unfold nCc;rw[List.flatMap_append];simp
def roV (ro:Option (Nat×Nat×List Value)) (ys:List UInt8):Value:=match ro with|none=>.slice none 0 0|some (b,c,_)=>rowV b ys.length c
def roH (e:Nat) (ro:Option (Nat×Nat×List Value)) (ys:List UInt8):Heap:=match ro with|none=>[]|some (b,_,sp)=>[(b,rowC e ys sp)]
def RoOk (G:Gh) (L:List World) (ro:Option (Nat×Nat×List Value)) (ys:List UInt8):Prop:=match ro with|none=>ys=[]|some (b,c,sp)=>RowOk ys c sp/\Fr G L b
theorem nvj(hZ:FxOk Z)(s:ByteArray)(hs0:s.size<1000)(msg:List UInt8)(bm om cm:Nat)(hml:msg.length<=100000000000)(ns:List Int)(bn cn tn:Nat)(frn:Nat×Nat)(hn0:0<ns.length)(hn1:ns.length<=1000)(w:World)(hmsg:SegU w bm om msg)(hbn:w.heap[bn]? =some (.cells (ns.map (Value.int .i64)).toArray tn frn))(hg:Glb w):Calls prog 63 #[.string s,.slice (some ⟨bm,om,none⟩) msg.length cm,.slice (some ⟨bn,0,none⟩) ns.length cn] w (Ret w (.int .i64 (Z.sc s (nCc ns++msg)))):=by
 have hbnl:=(ago.1 hbn).1;have hmsl:=hmsg.lt;have hg4:=hg.lt;refine enter (vs:=[_,_,_]) func63 rfl ntmps63 rfl ?_;refine B 19 ?_;refine CJ.loop (α:=List UInt8×Nat×Option (Nat×Nat×List Value)) (λp=>[(0,.string s),(1,.slice (some ⟨bm,om,none⟩) msg.length cm),(7,roV p.2.2 p.1),(11,.slice (some ⟨bn,0,none⟩) ns.length cn),(12,.int .i64 (ns.length:Int)),(13,.int .i64 (p.2.1:Int))]) (λp=>roH 5 p.2.2 p.1) (λp=>[w]) (λp=>Gh.no) (λp=>p.1=nCc (ns.take p.2.1)/\p.2.1<=ns.length/\RoOk Gh.no [w] p.2.2 p.1) (λp=>ns.length-p.2.1) ([],0,none) ⟨rfl,a3o _,rfl⟩ zR rfl rfl zS ?_;rintro⟨ys0,j,ro0⟩ ⟨hys0,hj,hro0⟩;dsimp only at hys0 hj hro0 ⊢;refine B 6 ?_;refine zCD ?_ ?_
 ·intro hc1;refine B 7 ?_;obtain⟨n,hn⟩:∃n,ns[j]'zG=n:=⟨_,rfl⟩;refine rv rfl rfl rfl (ldR_r (v:=.int .i64 n) isAgg3 rfl A0 hbn zO (by cases ro0 with|none=>trivial|some p=>obtain⟨b1,c1,s1⟩:=p;obtain⟨hr,hf⟩:=hro0;simp only[Fr,Gh.no,Above,and_true,false_or]at hf;exact⟨by dsimp only;omega,trivial⟩) (by simp only[aUo,aSo];rw[aNo zG];simp[<-hn])) ?_;refine B 9 ?_;have hyl0:ys0.length<=8000:=by rw[hys0,nyj,anp];omega
  refine CJ.loop (α:=List UInt8×Nat×Option (Nat×Nat×List Value)) (λp=>[(0,.string s),(1,.slice (some ⟨bm,om,none⟩) msg.length cm),(7,roV p.2.2 p.1),(9,.int .i64 n),(10,.int .i64 (56-8*(p.2.1:Int))),(11,.slice (some ⟨bn,0,none⟩) ns.length cn),(12,.int .i64 (ns.length:Int)),(13,.int .i64 (j:Int))]) (λp=>roH 5 p.2.2 p.1) (λp=>[w]) (λp=>Gh.no) (λp=>p.1=ys0++(be8 n).take p.2.1/\p.2.1<=8/\RoOk Gh.no [w] p.2.2 p.1) (λp=>8-p.2.1) (ys0,0,ro0) ⟨by simp,by dsimp only;omega,hro0⟩ zR rfl rfl zS ?_;rintro⟨ys,i,ro⟩ ⟨hys,hi,hro⟩;dsimp only at hys hi hro ⊢;have hyl:ys.length<=8008:=by rw[hys,aHo,anp,nEi];omega
  refine B 7 ?_;refine zCD ?_ ?_
  ·intro hc2;refine B 7 ?_;refine rv rfl rfl rfl (RV.re (v':=.int .u64 (n%18446744073709551616)) (cvtW_r underlying3 underlying210 rfl) (congrArg (Value.int .u64) (ny n))) ?_;refine B 1 ?_;refine rv rfl rfl rfl (shrW_r rfl rfl zG) ?_;refine rv rfl rfl rfl (RV.re (v':=.int .u8 ((b8 n i).toNat:Int)) (cvtB_r underlying210 underlying5 rfl) (congrArg (Value.int .u8) (b8_re n _ i zG rfl))) ?_;refine bsB [b8 n i] bt zeroValue5 rfl rfl rfl rfl rfl rfl rfl rfl rfl ?_;intro b27 ha27 ho27 hx27 hr27;replace ha27:=yb ha27;replace ho27:=yd ho27;rcases ro with _|⟨b1,c1,s1⟩
   ·have e0:ys=[]:=hro;subst e0;refine apN (zs:=[b8 n i]) bt rfl rfl rfl rfl (SrcB.own (i:=0) underlying52 rfl) zS zS ?_;intro b28 c28 s28 ha28 ho28 hx28 hr28;replace ha28:=yb ha28;replace ho28:=yd ho28;have hf28:Fr Gh.no [w] b28:=.inr ⟨ha28.1,trivial⟩;refine OJ.dropF (i:=1) rfl (.inr ⟨ha27.1,trivial⟩) ?_;refine B 9 ?_;refine PJ.again ([b8 n i],i+1,some (b28,c28,s28)) ⟨by dsimp only;rw[nsk n i zG,<-a2o,<-hys];first|done|rfl,by dsimp only;omega,hr28,hf28⟩ z2 ⟨rfl,rfl,rfl,rfl,congrArg some (congrArg (Value.int .i64) z2),rfl,rfl,rfl,trivial⟩ rfl rfl zS
   obtain⟨hr,hf⟩:=hro;refine apB (i:=1) (xs:=ys) (zs:=[b8 n i]) (sp:=s1) rfl bt rfl rfl rfl rfl (SrcB.own (i:=0) underlying52 rfl) hr hf zDb ?_;intro b28 c28 s28 hf28 hr28;have hg28:=hf28;replace hg28:=ye hg28;refine OJ.dropF (i:=0) rfl (.inr ⟨ha27.1,trivial⟩) ?_;refine B 9 ?_;refine PJ.again (ys++[b8 n i],i+1,some (b28,c28,s28)) ⟨by dsimp only;rw[nsk n i zG,<-a2o,<-hys];first|done|rfl,by dsimp only;omega,hr28,hf28⟩ z2 ⟨rfl,rfl,rfl,rfl,congrArg some (congrArg (Value.int .i64) z2),rfl,rfl,rfl,trivial⟩ rfl rfl zS
  intro hc2;refine B 10 ?_;refine PJ.again (ys,j+1,ro) ⟨by dsimp only;rw[nTm ns j zG,hn,hys,show i=8 by omega,hys0];first|done|rfl,by dsimp only;omega,hro⟩ z2 zR rfl rfl zS
 intro hc1;refine B 6 ?_;have ej:j=ns.length:=by omega
 subst ej;rw[afp (abo _)]at hys0;have hyl:=nyj ns;rcases ro0 with _|⟨b1,c1,s1⟩
 ·exact absurd (show ys0=[]from hro0) (by intro e;rw[e]at hys0;rw[<-hys0]at hyl;simp at hyl;omega)
 obtain⟨hr,hf⟩:=hro0;subst hys0;have hg1:=hf;simp only[Fr,Gh.no,Above,and_true,false_or]at hg1;refine CJ.reH (H':=[(b1,rowC 5 (nCc ns) s1)]) rfl ?_;refine B 4 ?_;refine apB (i:=0) (xs:=nCc ns) (zs:=msg) (sp:=s1) rfl bt rfl rfl rfl rfl (SrcB.seg underlying52 A0 hmsg zO zvb) hr hf (by rw[hyl];omega) ?_;intro b33 c33 s33 hf33 hr33;have hg33:=hf33;replace hg33:=ye hg33;refine call call94 rfl rfl rfl (λW hS=>scalG hZ s hs0 (nCc ns++msg) (by rw[aHo,hyl];omega) b33 0 c33 hr33.le W (SegU.row (hS.own _ A0)) (hg.old hS A0 zN zH)) ?_;refine B 4 ?_;refine retO (.inl rfl) results63 (RS.t rfl (RS.n)) A0 zL ?_;rfl
def nkc (Z:Fx) (x:Int) (msg:List UInt8):Int:=Z.sc (⟨#[110,111,110,99,101]⟩:ByteArray) (nCc [x]++msg)
def nKc (Z:Fx) (r p:Int) (msg:List UInt8):Int:=Z.sc (⟨#[115,105,103,110]⟩:ByteArray) (nCc [r,p]++msg)
def sigR (Z:Fx) (x:Int) (msg:List UInt8):Int:=(Z.ge 4 (nkc Z x msg)).1
def sigS (Z:Fx) (x:Int) (msg:List UInt8):Int:=(sAdd (nkc Z x msg) (sMul (nKc Z (sigR Z x msg) (Z.ge 4 x).1 msg) x).1).1
def sigT (Z:Fx) (x:Int) (msg:List UInt8):Value:=if KOk x then .tuple #[.agg #[.int .i64 (sigR Z x msg),.int .i64 (sigS Z x msg)],.int .i64 0]else .tuple #[.agg #[.int .i64 0,.int .i64 0],.int .i64 50]
theorem nmm(a b:Int):SOk (sMul a b).1:=by
 unfold sMul;split
 ·exact⟨Int.emod_nonneg _ zI,Int.emod_lt_of_pos _ zI⟩
 exact⟨by decide,by decide⟩
theorem n5k(hZ:FxOk Z)(x:Int)(msg:List UInt8):SOk (nkc Z x msg):=by have:=hZ.bd (⟨#[110,111,110,99,101]⟩:ByteArray) (nCc [x]++msg);unfold nkc;exact⟨by omega,by omega⟩
theorem sigS_err(hZ:FxOk Z)(x:Int)(msg:List UInt8):(sAdd (nkc Z x msg) (sMul (nKc Z (sigR Z x msg) (Z.ge 4 x).1 msg) x).1).2=0:=by
 unfold sAdd;rw[if_pos ⟨n5k hZ _ _,nmm _ _⟩]
theorem sigT_ok(hZ:FxOk Z)(x k e:Int)(msg:List UInt8)(hK:KOk x)(hk:nkc Z x msg=k)(he:nKc Z (Z.ge 4 k).1 (Z.ge 4 x).1 msg=e):Value.tuple #[.agg #[.int .i64 (Z.ge 4 k).1,.int .i64 (sAdd k (sMul e x).1).1],.int .i64 (sAdd k (sMul e x).1).2]=sigT Z x msg:=by
 have hE:=sigS_err hZ x msg;subst hk;subst he;unfold sigT;rw[if_pos hK];exact congrArg (λz=>Value.tuple #[.agg #[.int .i64 (sigR Z x msg),.int .i64 (sigS Z x msg)],.int .i64 z]) hE
theorem sigT_no(Z:Fx)(x:Int)(msg:List UInt8)(hK:¬KOk x):Value.tuple #[.agg #[.int .i64 0,.int .i64 0],.int .i64 50]=sigT Z x msg:=by
 unfold sigT;rw[if_neg hK]
theorem n7m(hZ:FxOk Z)(x k:Int)(msg:List UInt8)(hk:nkc Z x msg=k)(hml:msg.length<=100000000000)(bm om cm bn cn tn:Nat)(frn:Nat×Nat)(w:World)(hmsg:SegU w bm om msg)(hbn:w.heap[bn]? =some (.cells #[.int .i64 x] tn frn))(hg:Glb w):Calls prog 63 #[.string (⟨#[110,111,110,99,101]⟩:ByteArray),.slice (some ⟨bm,om,none⟩) msg.length cm,.slice (some ⟨bn,0,none⟩) 1 cn] w (Ret w (.int .i64 k)):=by
 subst hk;exact nvj hZ (⟨#[110,111,110,99,101]⟩:ByteArray) zI msg bm om cm hml [x] bn cn tn frn zS zS w hmsg hbn hg
theorem nYh(hZ:FxOk Z)(r p e:Int)(msg:List UInt8)(he:nKc Z r p msg=e)(hml:msg.length<=100000000000)(bm om cm bn cn tn:Nat)(frn:Nat×Nat)(w:World)(hmsg:SegU w bm om msg)(hbn:w.heap[bn]? =some (.cells #[.int .i64 r,.int .i64 p] tn frn))(hg:Glb w):Calls prog 63 #[.string (⟨#[115,105,103,110]⟩:ByteArray),.slice (some ⟨bm,om,none⟩) msg.length cm,.slice (some ⟨bn,0,none⟩) 2 cn] w (Ret w (.int .i64 e)):=by
 subst he;exact nvj hZ (⟨#[115,105,103,110]⟩:ByteArray) zI msg bm om cm hml [r,p] bn cn tn frn zS zS w hmsg hbn hg
theorem n5n(hZ:FxOk Z)(x:Int)(msg:List UInt8)(bm om cm:Nat)(hml:msg.length<=100000000000)(w:World)(hmsg:SegU w bm om msg)(hg:Glb w):Calls prog 32 #[.int .i64 x,.slice (some ⟨bm,om,none⟩) msg.length cm] w (Ret w (sigT Z x msg)):=by
 have hmsl:=hmsg.lt;have hg4:=hg.lt;obtain⟨k,hk⟩:∃k,nkc Z x msg=k:=⟨_,rfl⟩;obtain⟨e,he⟩:∃e,nKc Z (Z.ge 4 k).1 (Z.ge 4 x).1 msg=e:=⟨_,rfl⟩;refine enter (vs:=[_,_]) func32 rfl ntmps32 rfl ?_;refine B 2 ?_;refine allW zeroValue54 rfl rfl ?_;intro b4 ha4 ho4;replace ha4:=yb ha4;replace ho4:=yc ho4;refine B 12 ?_;refine z7f ?_;refine B 1 ?_;refine z7f ?_;refine B 8 ?_;refine callF (first:=[.int .i64 x]) (cap:=[]) rfl call61 rfl rfl rfl (λW hS=>nzi x W) ?_;refine B 3 ?_;refine zCD ?_ ?_
 ·intro hc1;refine B 3 ?_;refine stWw (i:=0) rfl sizeOf54 rfl rfl rfl rfl rfl rfl ?_;refine B 5 ?_;refine retO (.inl rfl) results32 (RS.wA (i:=0) rfl isAgg54 sizeOf54 rfl (apo rfl) (RS.t rfl (RS.n))) A0 zL ?_;exact sigT_no Z x msg zZ
 intro hc1;refine B 6 ?_;refine zte ?_;intro b23 w23 hb23 ha23 ho23 hm23 hz23;replace ha23:=yb ha23;replace ho23:=yc ho23;refine call call63 rfl rfl rfl (λW hS=>n7m hZ x k msg hk hml bm om cm b23 _ _ _ W (hmsg.old hS A1 zO zvb) (hS.old A0 hb23 hm23 zvb) (hg.old hS A1 zN zH)) ?_;refine B 6 ?_;refine call call64 rfl rfl rfl (λW hS=>baseG hZ _ W) ?_;refine B 4 ?_;refine z1f ?_;refine B 3 ?_;refine CJ.less (E':=[(0,_),(1,_),(4,_),(5,_),(6,_),(7,_),(8,_),(9,_),(12,_),(13,_),(14,_),(15,_),(16,_),(17,_),(18,_),(19,_),(21,_),(22,_),(23,_),(24,_),(25,_),(26,_),(27,_),(28,_),(30,_)]) zR ?_;refine nJ 13 [5] [([],some _),([],some _),([1],some (.int .i64 (Z.ge 4 k).1)),([],some _),([3],some _),([2,4],none),([0,5],some (.int .i64 e)),([],some _),([6,7],some _),([8],some _),([9],some _),([9],some _),([10],some _)] (λcv L' H'=>match cv with| []=>L'=[w23,w]/\H'=[(b4,.cells #[.int .i64 (Z.ge 4 k).1,.int .i64 0] 54 (0,0))]| [v1]=>∃(b37:Nat) (w37:World),v1= .slice (some ⟨b37,0,none⟩) 2 2/\L'=[w37,w23,w]/\H'=[(b4,.cells #[.int .i64 (Z.ge 4 k).1,.int .i64 0] 54 (0,0))]/\w37.heap[b37]? =some (.cells #[.int .i64 (Z.ge 4 k).1,.int .i64 (Z.ge 4 x).1] 3 (0,0))/\(w23.heap.size<=b37/\w.heap.size<=b37)/\b4≠b37/\¬Gh.no.X b37/\w37.heap.size=b37+1|_=>False) zM ⟨rfl,rfl⟩ zM zM zM zM zM zM (pc zP (pc ztb (pc (λcv L' H' hd hP=>match cv,hd,hP with| [],hd,hP=>(by obtain⟨rfl,rfl⟩:=hP;exact X.val rfl rfl (ldW_r (i:=0) rfl isAgg3 rfl rfl) R2)| [v1],hd,hP=>(by obtain⟨b37,w37,rfl,rfl,rfl,hb37,ha37,ho37,hm37,hz37⟩:=hP;exact X.val rfl rfl (ldW_r (i:=0) rfl isAgg3 rfl rfl) R2)|_::_::_,_,hP=>hP.elim) (pc zP (pc (by exact λcv L' H' hd hP=>n6l (first:=[.int .i64 x]) (cap:=[]) rfl call62 rfl rfl (λW hS _=>publicG hZ x W) (λ_=>rfl)) (pk (pc (λcv L' H' hd hP=>match cv,hd,hP with| [],hd,hP=>(absurd (show false=true from hd) zI)| [v1],hd,hP=>(by obtain⟨b37,w37,rfl,rfl,rfl,hb37,ha37,ho37,hm37,hz37⟩:=hP;exact ni call63 rfl rfl (λW hS _=>nYh hZ _ _ e msg he hml bm om cm b37 _ _ _ W (hmsg.old hS A2 zO zvb) (hS.old A0 hb37 hm37 zvb) (hg.old hS A2 zN zH)) (λ_=>rfl))|_::_::_,_,hP=>hP.elim) (pc zP (pc (by exact λcv L' H' hd hP=>ni call65 rfl rfl (λW hS _=>nHn _ _ W) (λ_=>rfl)) (pc zP (pc (by exact λcv L' H' hd hP=>X.val rfl rfl (ext_r rfl rfl) R2) (pc (by exact λcv L' H' hd hP=>X.val rfl rfl (ext_r rfl rfl) R2) (pc (by exact λcv L' H' hd hP=>X.val rfl rfl (asg_r rfl) R2) (pn)))))))))))))) ?_ ?_
 ·refine sc rfl rfl rfl ?_ ?_
  ·intro cv L' H' hl hP F Q' hk;obtain rfl:=aap hl;obtain⟨rfl,rfl⟩:=hP;refine zte ?_;intro b37 w37 hb37 ha37 ho37 hm37 hz37;exact OJ.done (hk _ _ _ ⟨b37,w37,rfl,rfl,rfl,hb37,⟨ha37.1,ha37.2.1⟩,ho37.1,hm37,hz37⟩)
  exact sn
 intro cv L' H' hl hP;obtain⟨v1,rfl⟩:=len1 hl;obtain⟨b37,w37,rfl,rfl,rfl,hb37,ha37,ho37,hm37,hz37⟩:=hP;refine B 7 ?_;refine call call66 rfl rfl rfl (λW hS=>n0n _ _ W) ?_;refine B 4 ?_;refine z1f ?_;refine B 7 ?_;refine stWw (i:=0) rfl sizeOf54 rfl rfl rfl rfl rfl rfl ?_;refine B 4 ?_;refine retO (.inl rfl) results32 (RS.wA (i:=0) rfl isAgg54 sizeOf54 rfl (apo rfl) (RS.t rfl (RS.n))) A2 zL ?_;exact sigT_ok hZ x k e msg zZ hk he
theorem kPub_ge(hZ:FxOk Z)(x:Int):kPub x=if KOk x then((Z.ge 4 x).1,0)else(0,50):=by
 unfold kPub;split
 ·rename_i h;rw[<-hZ.ge,gExp4 h]
 rfl
def dgU (f:Nat->Int):List UInt8:=(List.range 32).map λi=>UInt8.ofNat (f i).toNat
theorem nKb(f:Nat->Int):(dgU f).length=32:=by simp[dgU]
theorem nSh(f:Nat->Int)(hf:Byt f)(i:Nat)(h:i<32):fU (dgU f) i=f i:=by
 have:=hf i;simp only[fU,dgU,aSo,List.getElem?_range h,aTo,Option.getD_some,UInt8.toNat_ofNat'];omega
theorem SegU.dg{w:World}{t:Nat}(h:w.heap[b]? =some (.cells (dg f) t fr))(hf:Byt f):SegU w b 0 (dgU f):=
 ⟨_,_,_,h,by rw[nKb];exact abo 32,λi hi=>by rw[nKb]at hi;rw[aVo,dg_at f i hi,nSh f hf i hi]⟩
theorem nZi(hZ:FxOk Z)(s:ByteArray)(hs0:s.size<1000)(xs:List UInt8)(hn:xs.length<900000000000)(b off c:Nat)(hc:xs.length<=c)(w:World)(h:SegU w b off xs)(hg:Glb w):Calls prog 26 #[.string s,.slice (some ⟨b,off,none⟩) xs.length c] w (Ret w (.agg (Px.dg (Z.tg s xs)))):=by
 rw[<-hZ.tg];obtain⟨cs,t,fr,h1,h2,h3⟩:=h;obtain⟨⟨t2,fr2,g1⟩,t3,fr3,g2⟩:=hg;exact nLf s xs.length (fU xs) b off c t t2 t3 fr fr2 fr3 cs hs0 hc zG w h1 h2 h3 g1 g2
abbrev I64 (n:Int):Prop:= -9223372036854775808<=n/\n<=9223372036854775807
def nTg:V->List Value
 | .int n=>[.int .i64 1,.int .i64 n,.string ⟨#[]⟩,.slice none 0 0]
 | .text s=>[.int .i64 2,.int .i64 0,.string s,.slice none 0 0]
 | .list _=>[]
def nab:V->Bool
 | .list _=>false
 |_=>true
def nM (l:List V):List Value:=l.flatMap nTg
theorem nag(x:V)(h:nab x=true):(nTg x).length=4:=by cases x<;>simp_all[nab,nTg]
theorem nbn(l:List V)(h:l.all nab=true):(nM l).length=l.length*4:=by
 induction l with
 |nil=>rfl
 |cons x l ih=>
  simp only[List.all_cons,awo]at h;simp only[nM,avp,aHo,axo]at *;rw[nag x h.1,ih h.2];omega
theorem flatVs(N:Nat)(w:World):∀(l:List V),l.all nab=true->∀(pre sp:List Value),VsAt N w (pre++(nM l++sp)).toArray pre.length l
 | [],_,_,_=>by simp only[VsAt]
 |x::l,h,pre,sp=>by
  simp only[List.all_cons,awo]at h;have ih:=flatVs N w l h.2 (pre++nTg x) sp;have e:pre++nTg x++(nM l++sp)=pre++(nM (x::l)++sp):=by simp[nM]
  rw[e,aHo,nag x h.1]at ih;have hc:cut (pre++(nM (x::l)++sp)).toArray pre.length 4=(nTg x).toArray:=by
   unfold cut;simp only[nM,avp,a2o];rw[List.drop_left' rfl,<-nag x h.1,aqp rfl]
  simp only[VsAt];refine⟨?_,?_,ih⟩
  ·simp only[amp,aHo,nbn (x::l) (by simp[h.1,h.2]),axo];omega
  rw[hc];cases x with
  |int n=>simp only[VAt];rfl
  |text s=>simp only[VAt];rfl
  |list l'=>simp[nab]at h
theorem nOi{t cap:Nat}{w:World}{l:List V}(hl:l.all nab=true)(hb:b<N)(hc:l.length<=cap)(h:w.heap[b]? =some (.cells (nM l++sp).toArray t fr)):VAt N w (.list l) (vL (some ⟨b,0,none⟩) l.length cap):=by
 simp only[VAt];exact⟨_,_,rfl,hc,.inr ⟨b,_,t,fr,rfl,hb,h,by have:=flatVs N w l hl [] sp;simpa using this⟩⟩
theorem nwc(x:V)(hf:nab x=true)(h:x.fine):x.enc.length<=1000000020:=by
 cases x with
 |int n=>
  simp only[V.fine]at h;have:=nJb (zig_lt n h.1 h.2);simp only[V.enc,axo];omega
 |text s=>
  simp only[V.fine]at h;have:=nJb (u:=s.size) zG;have e:s.data.toList.length=s.size:=Array.length_toList;simp only[V.enc,axo,aHo,e];omega
 |list l=>simp[nab]at hf
theorem nDe(l:List V)(hf:l.all nab=true)(h:V.fineL l):(V.encL l).length<=l.length*1000000020/\V.depthL l=0:=by
 induction l with
 |nil=>simp[V.encL,V.depthL]
 |cons x l ih=>
  simp only[List.all_cons,awo]at hf;simp only[V.fineL]at h;obtain⟨h1,h2⟩:=ih hf.2 h.2;have h3:=nwc x hf.1 h.1;simp only[V.encL,V.depthL,aHo,axo,h2];refine⟨by omega,?_⟩;cases x with
  |int n=>simp[V.depth]
  |text s=>simp[V.depth]
  |list l'=>simp[nab]at hf
theorem nBe(l:List V)(hf:l.all nab=true)(h:V.fineL l)(hl:l.length<=100):(V.list l).fine/\(V.list l).depth<=16/\(V.list l).enc.length<=800000000000:=by
 obtain⟨h1,h2⟩:=nDe l hf h;have h3:=nJb (u:=l.length) zG;simp only[V.fine,V.depth,V.enc,axo,aHo,h2];exact⟨⟨by omega,by omega,h⟩,by omega,by omega⟩
abbrev dT (f:Nat->Int):ByteArray:=strOfNums (dgL f)
theorem dT_size(f:Nat->Int):(dT f).size=32:=by rw[strOfNums_size];simp[dgL]
theorem cvtD_r{src dst e t:Nat}(hs:C.P.underlying src=some (.slice e))(he:C.P.underlying e=some (.int .u8))(hd:C.P.underlying dst=some .string)(hx:ev E x=some (.slice (some ⟨b,0,none⟩) 32 32))(hm:w1∈L)(hb:w1.heap[b]? =some (.cells (dg f) t fr))(hG:¬G.X b)(hO:Off H b):RV C G L H E (.convert src dst x) (.string (dT f)):=λd ty pos aft g a W hF hS=>by
 have hW:=hS.old hm hb hG hO;have hr:=run_convert_bytes_arg (P:=C.P) W src e hs he b 0 32 32 (dgL f) (by simp[dgL]) (λi hi=>by
  rw[nAc hW,aVo,dg_at f i hi];simp[dgL,List.getD,List.getElem?_range hi]) dst hd
 simp[execOp,hF.ev hx,hr]
theorem sign32(hZ:FxOk Z)(x:Int)(f:Nat->Int)(hf:Byt f)(b t:Nat)(fr:Nat×Nat)(w:World)(h:w.heap[b]? =some (.cells (dg f) t fr))(hg:Glb w):Calls prog 32 #[.int .i64 x,.slice (some ⟨b,0,none⟩) 32 32] w (Ret w (sigT Z x (dgU f))):=by
 have:=n5n hZ x (dgU f) b 0 32 (by rw[nKb];decide) w (SegU.dg h hf) hg;rwa[nKb]at this
theorem n4n(hZ:FxOk Z)(x:Int)(hx:KOk x)(f:Nat->Int)(hf:Byt f)(r s:Int)(hr:sigR Z x (dgU f)=r)(hs:sigS Z x (dgU f)=s)(b t:Nat)(fr:Nat×Nat)(w:World)(h:w.heap[b]? =some (.cells (dg f) t fr))(hg:Glb w):Calls prog 32 #[.int .i64 x,.slice (some ⟨b,0,none⟩) 32 32] w (Ret w (.tuple #[.agg #[.int .i64 r,.int .i64 s],.int .i64 0])):=by
 have:=sign32 hZ x f hf b t fr w h hg;unfold sigT at this;rw[if_pos hx,hr,hs]at this;exact this
theorem nMm(hZ:FxOk Z)(x:Int)(hx:KOk x)(w:World):Calls prog 31 #[.int .i64 x] w (Ret w (eTup ((Z.ge 4 x).1,0))):=by
 have h:=n4g x w;rw[kPub_ge hZ,if_pos hx]at h;exact h
theorem pubG_no(x:Int)(hx:¬KOk x)(w:World):Calls prog 31 #[.int .i64 x] w (Ret w (eTup (0,50))):=by
 have h:=n4g x w;unfold kPub at h;rw[if_neg hx]at h;exact h
theorem nUb:EqA prog 2 43 (repK 32 [.i]):=EqA.array underlying43 sizeOf5 rfl (EqP.int underlying5 isAgg5)
theorem nob:prog.eqGuardType prog.depth 43=false:=by kernel_rfl
def eqD (f g:Nat->Int):Bool:=eqL (dg f).toList (dg g).toList
def gMul (a b:Int):Int×Int:=if GOk a/\GOk b then(a*b%4611686018427377339,0)else(0,40)
theorem nrm{a b:Int}(h:¬(GOk a/\GOk b)):gMul a b=(0,40):=by unfold gMul;rw[if_neg h]
theorem nVi{a b:Int}(ha:GOk a)(hb:GOk b):gMul a b=(a*b%4611686018427377339,0):=by unfold gMul;rw[if_pos ⟨ha,hb⟩]
theorem n3b{x:Int}(h:¬(if GOk x then(0:Int)else 40)=0):¬GOk x:=λg=>h (if_pos g)
theorem nXf{x:Int}(h:(if GOk x then(0:Int)else 40)=0):GOk x:=Decidable.byContradiction λg=>by rw[if_neg g]at h;exact absurd h zI
def nEd (a b:Int) (j:Nat):Int:=match j with|0=>a|_=>b
theorem pick2_at(a b:Int)(j:Nat)(h:j<2):(#[.int .i64 a,.int .i64 b]:Array Value)[j]? =some (.int .i64 (nEd a b j)):=by
 match j,h with
 |0,_=>rfl
 |1,_=>rfl
theorem nNn(a b:Int)(w:World):Calls prog 100 #[.int .i64 a,.int .i64 b] w (Ret w (eTup (gMul a b))):=by
 refine enter (vs:=[_,_]) func100 rfl ntmps100 rfl ?_;refine B 11 ?_;refine rv rfl rfl rfl (bldQ_r underlying279 zeroValue279 sizeOf3 rfl rfl rfl rfl) ?_;refine B 4 ?_;refine CJ.loop (α:=Nat) (λj=>[(0,.int .i64 a),(1,.int .i64 b),(11,.agg #[.int .i64 a,.int .i64 b]),(12,.int .i64 (j:Int))]) (λj=>[]) (λj=>[w]) (λj=>Gh.no) (λj=>j<=2/\(1<=j->GOk a)/\(2<=j->GOk b)) (λj=>2-j) 0 ⟨by omega,λh=>absurd h zG,λh=>absurd h zG⟩ zR rfl rfl zS ?_;rintro j ⟨hj,hok1,hok2⟩;refine B 6 ?_;refine zCD ?_ ?_
 ·intro hc1;refine B 6 ?_;refine rv rfl rfl rfl (RV.re (v':=.int .i64 (nEd a b j)) (idxV_r underlying279 isAgg3 sizeOf3 rfl rfl zG zG (by rw[arp];exact pick2_at a b _ zG)) (congrArg (λk=>Value.int .i64 (nEd a b k)) zG)) ?_;refine B 6 ?_;obtain⟨e,he⟩:∃e,(if GOk (nEd a b j)then(0:Int)else 40)=e:=⟨_,rfl⟩;refine zzf ?_;refine B 9 ?_;refine zCD ?_ ?_
  ·intro hc2;refine B 13 ?_;refine nP results100 rfl rfl A0 ?_ ?_
   ·exact congrArg (Value.int .i64) (by rw[nrm (λg=>by match j,he with|0,he=>exact n3b (x:=nEd a b 0) zWb g.1|j+1,he=>exact n3b (x:=nEd a b (j+1)) zWb g.2)])
   exact congrArg (Value.int .i64) (by rw[nrm (λg=>by match j,he with|0,he=>exact n3b (x:=nEd a b 0) zWb g.1|j+1,he=>exact n3b (x:=nEd a b (j+1)) zWb g.2),<-he];exact if_neg (n3b zWb))
  intro hc2;refine B 7 ?_;refine PJ.again (j+1) ⟨by omega,λ_=>by match j,hok1,he with|0,_,he=>exact nXf (x:=nEd a b 0) zWb|j+1,hok1,_=>exact hok1 zG,λh=>by match j,hj,he with|0,_,_=>exact absurd h zG|1,_,he=>exact nXf (x:=nEd a b 1) zWb|j+2,hj,_=>exact absurd hc1 zG⟩ zG zR rfl rfl zS
 intro hc1;refine B 6 ?_;have hj2:j=2:=by omega
 have hga:=hok1 zG;have hgb:=hok2 zG;have ha1:=hga.1;have ha2:=hga.2.1;have hb1:=hgb.1;have hb2:=hgb.2.1;have hm0:=Int.emod_nonneg (a*b) (b:=4611686018427377339) zI;have hm1:=Int.emod_lt_of_pos (a*b) (b:=4611686018427377339) zI;refine B 5 ?_;refine call call149 rfl rfl rfl (λW hS=>nMe a b zG zG zG zG W) ?_;refine B 6 ?_;refine nP results100 rfl rfl A0 ?_ ?_
 ·exact congrArg (Value.int .i64) (by rw[nVi hga hgb])
 exact congrArg (Value.int .i64) (by rw[nVi hga hgb])
def ks218:List TK:=repK 3 [.i]
theorem eqA218:EqA prog 2 218 ks218:=EqA.array underlying218 sizeOf39 rfl ((EqP.int underlying39 isAgg39).up zI:EqP prog 1 39 [.i])
theorem eqG218:prog.eqGuardType prog.depth 218=false:=by kernel_rfl
def verB (Z:Fx) (p:Int) (msg:List UInt8) (r s:Int):Bool:=decide (GOk p/\GOk r/\SOk s/\(Z.ge 4 s).1=(gMul r (Z.ge p (nKc Z r p msg)).1).1)
theorem nCm{x e:Int}(h:(if GOk x then(0:Int)else 40)=e):e=0↔GOk x:=⟨λg=>nXf (h.trans g),λg=>by rw[<-h,if_pos g]⟩
theorem schk_iff{x e:Int}(h:(if sOut x then(1:Int)else 0)=e):e=0↔SOk x:=by
 subst h;by_cases g:SOk x
 ·rw[ndf.2 g];exact⟨λ_=>g,λ_=>rfl⟩
 rw[n6f.2 g];exact⟨λh=>absurd h zI,λh=>absurd h g⟩
theorem verB_no{p r s e1 e2 e3:Int}{msg:List UInt8}(h1:e1=0↔GOk p)(h2:e2=0↔GOk r)(h3:e3=0↔SOk s)(h:¬(e1=0/\e2=0/\e3=0)):Value.bool false= .bool (verB Z p msg r s):=by
 refine congrArg Value.bool (decide_eq_false ?_).symm;rintro⟨g1,g2,g3,_⟩;exact h ⟨h1.2 g1,h2.2 g2,h3.2 g3⟩
theorem verB_yes{p r s e1 e2 e3 e:Int}{msg:List UInt8}{m:Int×Int}(h1:e1=0↔GOk p)(h2:e2=0↔GOk r)(h3:e3=0↔SOk s)(h:e1=0/\e2=0/\e3=0)(he:nKc Z r p msg=e)(hm:gMul r (Z.ge p e).1=m):Value.bool (decide ((Z.ge 4 s).1=m.1))= .bool (verB Z p msg r s):=by
 subst he;subst hm;refine congrArg Value.bool (decide_eq_decide.2 ?_);exact⟨λg=>⟨h1.1 h.1,h2.1 h.2.1,h3.1 h.2.2,g⟩,λg=>g.2.2.2⟩
theorem expG(hZ:FxOk Z)(a k:Int)(w:World):Calls prog 95 #[.int .i64 a,.int .i64 k] w (Ret w (eTup (Z.ge a k))):=by
 rw[<-hZ.ge];exact nIj a k w
theorem eq3(a b c:Int):(!eqL [.int .i64 a,.int .i64 b,.int .i64 c] [.int .i64 0,.int .i64 0,.int .i64 0])=decide (¬(a=0/\b=0/\c=0)):=by
 simp only[eqL,eqV,Bool.and_true];by_cases h1:a=0<;>by_cases h2:b=0<;>by_cases h3:c=0<;>simp[h1,h2,h3]
theorem nyd(hZ:FxOk Z)(p r s:Int)(msg:List UInt8)(bm om cm:Nat)(hml:msg.length<=100000000000)(w:World)(hmsg:SegU w bm om msg)(hg:Glb w):Calls prog 70 #[.int .i64 p,.slice (some ⟨bm,om,none⟩) msg.length cm,.agg #[.int .i64 r,.int .i64 s]] w (Ret w (.bool (verB Z p msg r s))):=by
 have hmsl:=hmsg.lt;obtain⟨e1,he1⟩:∃e,(if GOk p then(0:Int)else 40)=e:=⟨_,rfl⟩;obtain⟨e2,he2⟩:∃e,(if GOk r then(0:Int)else 40)=e:=⟨_,rfl⟩;obtain⟨e,he⟩:∃e,nKc Z r p msg=e:=⟨_,rfl⟩;obtain⟨m,hm⟩:∃m,gMul r (Z.ge p e).1=m:=⟨_,rfl⟩;have hi1:=nCm he1;have hi2:=nCm he2;have hg4:=hg.lt;obtain⟨e3,he3⟩:∃e,(if sOut s then(1:Int)else 0)=e:=⟨_,rfl⟩;have hi3:=schk_iff he3;refine enter (vs:=[_,_,_]) func70 rfl ntmps70 rfl ?_;refine B 3 ?_;intro b5 w5 hb5 ha5 ho5 hm5 hz5;replace ha5:=yb ha5;replace ho5:=yc ho5;refine B 4 ?_;refine CJ.less (E':=[(0,_),(1,_),(2,_),(5,_),(6,_)]) zR ?_;refine nJ 10 [9] [([],some _),([0],some (.int .i64 e1)),([],some _),([2],some (.int .i64 r)),([3],some (.int .i64 e2)),([],some _),([5],some (.int .i64 s)),([6],some (.int .i64 e3)),([1,4,7],some (.agg #[.int .i64 e1,.int .i64 e2,.int .i64 e3])),([],none)] (λcv L' H'=>match cv with| []=>L'=[w5,w]/\H'=[]| [v1]=>∃(b7:Nat),v1=ptr b7 0/\L'=[w5,w]/\H'=[(b7,.cells #[.int .i64 0,.int .i64 0,.int .i64 0] 218 (0,0))]/\(w5.heap.size<=b7/\w.heap.size<=b7)|_=>False) zM ⟨rfl,rfl⟩ zM zM zM zM zM zM (pc zP (pc (by exact λcv L' H' hd hP=>ni call98 rfl rfl (λW hS _=>by rw[<-he1];exact nD p W) (λ_=>rfl)) (pc ztb (pc zck (pc (by exact λcv L' H' hd hP=>ni call98 rfl rfl (λW hS _=>by rw[<-he2];exact nD r W) (λ_=>rfl)) (pc ztb (pc zck (pc (by exact λcv L' H' hd hP=>ni call99 rfl rfl (λW hS _=>by rw[<-he3];exact nFl s W) (λ_=>rfl)) (pc (by exact λcv L' H' hd hP=>X.val rfl rfl (bldQ_r underlying218 zeroValue218 sizeOf39 rfl rfl rfl rfl) R2) (pk (pn))))))))))) ?_ ?_
 ·refine sc rfl rfl rfl ?_ ?_
  ·intro cv L' H' hl hP F Q' hk;obtain rfl:=aap hl;obtain⟨rfl,rfl⟩:=hP;refine allW zeroValue218 rfl rfl ?_;intro b7 ha ho;exact OJ.done (hk _ _ _ ⟨b7,rfl,rfl,rfl,⟨ha.1,ha.2.1⟩⟩)
  exact sn
 intro cv L' H' hl hP;obtain⟨v1,rfl⟩:=len1 hl;obtain⟨b7,rfl,rfl,rfl,ha7⟩:=hP;refine stWw (i:=0) rfl sizeOf218 rfl rfl rfl rfl rfl rfl ?_;refine B 7 ?_;refine rv rfl rfl rfl (RV.re (v':=.bool (decide (¬(e1=0/\e2=0/\e3=0)))) (neqA_r eqA218 zI eqG218 rfl rfl rfl) (congrArg Value.bool (eq3 e1 e2 e3))) ?_;refine B 2 ?_;refine zCD ?_ ?_
 ·intro hc1;refine B 7 ?_;refine retO (.inl rfl) results70 (RS.t rfl (RS.n)) A1 zL ?_;exact verB_no hi1 hi2 hi3 (by simpa using hc1)
 intro hc1;refine B 6 ?_;refine call call64 rfl rfl rfl (λW hS=>baseG hZ _ W) ?_;refine B 14 ?_;refine zte ?_;intro b38 w38 hb38 ha38 ho38 hm38 hz38;replace ha38:=yb ha38;replace ho38:=yc ho38;refine call call63 rfl rfl rfl (λW hS=>nYh hZ r p e msg he hml bm om cm b38 _ _ _ W (hmsg.old hS A2 zO z8) (hS.old A0 hb38 hm38 z8) (hg.old hS A2 zN zH)) ?_;refine call call95 rfl rfl rfl (λW hS=>expG hZ p e W) ?_;refine B 12 ?_;refine call call100 rfl rfl rfl (λW hS=>by rw[<-hm];exact nNn _ _ W) (v:=eTup m) ?_;refine B 16 ?_;refine retO (.inl rfl) results70 (RS.t rfl (RS.n)) A2 zL ?_;exact verB_yes hi1 hi2 hi3 (by simpa using hc1) he hm
theorem nCn(m:Int)(q:Nat)(h:(4:Int)^q%m=1)(n:Nat):(4:Int)^(n%q)%m=4^n%m:=by
 have e:(4:Int)^n=(4^q)^(n/q)*4^(n%q):=by rw[<-Int.pow_mul,<-Int.pow_add,a4o]
 rw[e,Int.mul_emod,<-nKg (4^q) m (n/q),h,Int.one_pow];by_cases hm:m=1
 ·subst hm;simp[Int.emod_one]
 have h1:(1:Int)%m=1:=by
  have:=h;rw[<-this,Int.emod_emod_of_dvd _ (Int.dvd_refl m)]
 rw[h1,Int.one_mul,Int.emod_emod_of_dvd _ (Int.dvd_refl m)]
theorem nJf(k:Int)(h0:0<=k):powM 4 k 4611686018427377339=4^k.toNat%4611686018427377339:=n8i 4 k 4611686018427377339 h0 zI
theorem four_q:(4:Int)^(Int.toNat (2305843009213688669:Int))%4611686018427377339=1:=by rw[<-nJf (2305843009213688669:Int) zI];exact gok4.2.2
theorem nij(n:Nat):GOk ((4:Int)^n%4611686018427377339):=by
 have hq:=four_q;obtain⟨q,hqq⟩:∃q,Int.toNat (2305843009213688669:Int)=q:=⟨_,rfl⟩;rw[hqq]at hq;have h1:powM ((4:Int)^n%4611686018427377339) (2305843009213688669:Int) 4611686018427377339=1:=by
  rw[n8i _ (2305843009213688669:Int) 4611686018427377339 zI zI,hqq,nKg,<-Int.pow_mul,a6o,Int.pow_mul,<-nKg,hq,Int.one_pow];rfl
 refine⟨?_,Int.emod_lt_of_pos _ zI,h1⟩;have h0:=Int.emod_nonneg ((4:Int)^n) (b:=4611686018427377339) zI;by_cases hz:(4:Int)^n%4611686018427377339=0
 ·rw[hz]at h1;exact absurd h1 (by decide +kernel)
 omega
theorem npn(hZ:FxOk Z)(x:Int)(hx:KOk x)(msg:List UInt8):verB Z (Z.ge 4 x).1 msg (sigR Z x msg) (sigS Z x msg)=true:=by
 have hk:=n5k hZ x msg;unfold verB sigS;have hR:sigR Z x msg=4^(nkc Z x msg).toNat%4611686018427377339:=by
  unfold sigR;rw[<-hZ.ge];unfold gExp;rw[if_pos gok4,if_pos hk];exact nJf _ hk.1
 have hX:(Z.ge 4 x).1=4^x.toNat%4611686018427377339:=by rw[<-hZ.ge,gExp4 hx];exact nJf x (by have:=hx.1;omega)
 obtain⟨e,he⟩:∃e,nKc Z (sigR Z x msg) (Z.ge 4 x).1 msg=e:=⟨_,rfl⟩;have heb:1<=e/\e<(2305843009213688669:Int):=by rw[<-he];unfold nKc;exact hZ.bd _ _
 rw[he];obtain⟨k,hkk⟩:∃k,nkc Z x msg=k:=⟨_,rfl⟩;rw[hkk]at hk hR ⊢;have hxS:SOk x:=⟨by have:=hx.1;omega,hx.2⟩;have hm1:(sMul e x).1=e*x%(2305843009213688669:Int):=by unfold sMul;rw[if_pos ⟨⟨by omega,heb.2⟩,hxS⟩]
 have hmo:=nmm e x;have hs1:(sAdd k (sMul e x).1).1=(k+e*x%(2305843009213688669:Int))%(2305843009213688669:Int):=by
  unfold sAdd;rw[if_pos ⟨hk,hmo⟩,hm1]
 have hso:SOk ((k+e*x%(2305843009213688669:Int))%(2305843009213688669:Int)):=⟨Int.emod_nonneg _ zI,Int.emod_lt_of_pos _ zI⟩;rw[hs1,hR,hX];have hgx:=nij x.toNat;have hgk:=nij k.toNat;have hpe:(Z.ge (4^x.toNat%4611686018427377339) e).1=4^(x.toNat*e.toNat)%4611686018427377339:=by
  rw[<-hZ.ge];unfold gExp;rw[if_pos hgx,if_pos ⟨by omega,heb.2⟩];show powM _ _ _=_;rw[n8i _ e 4611686018427377339 zG zI,nKg,<-Int.pow_mul]
 have hge:=nij (x.toNat*e.toNat);rw[hpe,nVi hgk hge];have hl:(Z.ge 4 ((k+e*x%(2305843009213688669:Int))%(2305843009213688669:Int))).1=4^((k+e*x%(2305843009213688669:Int))%(2305843009213688669:Int)).toNat%4611686018427377339:=by
  rw[<-hZ.ge];unfold gExp;rw[if_pos gok4,if_pos hso];exact nJf _ hso.1
 rw[hl];refine decide_eq_true ⟨hgx,hgk,hso,?_⟩;show _=(4^k.toNat%4611686018427377339*(4^(x.toNat*e.toNat)%4611686018427377339))%4611686018427377339;rw[<-Int.mul_emod,<-Int.pow_add];have hq:=four_q;obtain⟨q,hqq⟩:∃q,Int.toNat (2305843009213688669:Int)=q:=⟨_,rfl⟩;rw[hqq]at hq;have hqi:(2305843009213688669:Int)=(q:Int):=by rw[<-hqq];rfl
 obtain⟨k',rfl⟩:=aqo hk.1;obtain⟨x',rfl⟩:=aqo hxS.1;obtain⟨e',rfl⟩:=aqo (show 0<=e by omega);have ht:(((k':Int)+(e':Int)*(x':Int)%(2305843009213688669:Int))%(2305843009213688669:Int)).toNat=(k'+x'*e')%q:=by
  rw[Int.add_emod_emod,hqi];have:((k':Int)+(e':Int)*(x':Int))%(q:Int)=(((k'+x'*e')%q:Nat):Int):=by
   rw[Int.mul_comm];push_cast;rfl
  rw[this,a8o]
 rw[ht,nCn 4611686018427377339 q hq];rfl
def upL (n:Nat):List Nat:=if h:1<n then n::upL (n/2)else[]
termination_by n
decreasing_by omega
theorem nAe{n:Nat}(h:1<n):upL n=n::upL (n/2):=by rw[upL,dif_pos h]
theorem nWg{n:Nat}(h:¬1<n):upL n=[]:=by rw[upL,dif_neg h]
theorem n8l(n:Nat):(upL n).length<=n:=by
 induction n using Nat.strongRecOn with
 |ind n ih=>
  by_cases h:1<n
  ·rw[nAe h,axo];have:=ih (n/2) zG;omega
  rw[nWg h];simp
theorem upL_mem{n:Nat}:∀x∈upL n,1<x/\x<=n:=by
 induction n using Nat.strongRecOn with
 |ind n ih=>
  intro x hx;by_cases h:1<n
  ·rw[nAe h]at hx;rcases aeo.1 hx with rfl|hx
   ·exact⟨h,abo _⟩
   have:=ih (n/2) zG x hx;omega
  rw[nWg h]at hx;simp at hx
def parN (n:Nat):Nat:=n/2
def sibN (n:Nat):Nat:=n^^^1
theorem xor_one(n:Nat)(h:n<4611686018427387904):IntKind.i64.wrap ((BitVec.ofInt 64 (n:Int)^^^BitVec.ofInt 64 1).toNat:Int)=((sibN n:Nat):Int):=by
 have h1:n^^^1<2^62:=Nat.xor_lt_two_pow zG zI;have e1:(BitVec.ofInt 64 (n:Int))=BitVec.ofNat 64 n:=by simp
 have e2:(BitVec.ofInt 64 1)=BitVec.ofNat 64 1:=rfl;rw[e1,e2,BitVec.toNat_xor,BitVec.toNat_ofNat,BitVec.toNat_ofNat,Nat.mod_eq_of_lt (a:=n) zG];show IntKind.i64.wrap ((n^^^1:Nat):Int)=((n^^^1:Nat):Int);generalize n^^^1=m at *;simp[IntKind.wrap,IntKind.bits,IntKind.signed];omega
abbrev DvOk (d:Int):Prop:=0<=d/\d<512
theorem infoZ:prog.info? 3=some Tryz.t3:=by kernel_rfl
theorem nDg:RowT prog 32 3 1:=⟨underlying32,Tryz.t3,.int .i64 0,infoZ,rfl,rfl,rfl,by decide⟩
theorem nen(d:Int)(h:DvOk d)(w:World):Calls prog 307 #[.int .i64 d] w (Ret w (.tuple #[.int .i64 (512+d),.int .i64 0])):=by
 have h1:=h.1;have h2:=h.2;refine enter (vs:=[_]) func307 rfl ntmps307 rfl ?_;refine zTh ?_;refine B 15 ?_;refine nP results307 rfl rfl A0 ?_ ?_;all_goals rfl
theorem n6g(n:Nat)(h:n<4611686018427387904)(w:World):Calls prog 265 #[.int .i64 (n:Int)] w (Ret w (.int .i64 ((parN n:Nat):Int))):=by
 refine enter (vs:=[_]) func265 rfl ntmps265 rfl ?_;refine B 8 ?_;refine rv rfl rfl rfl (quoI_r rfl rfl zG zG zG) ?_;refine B 4 ?_;refine retV results265 rfl A0 ?_;exact congrArg (Value.int .i64) (by unfold parN;omega)
theorem ndl(n:Nat)(h:n<4611686018427387904)(w:World):Calls prog 267 #[.int .i64 (n:Int)] w (Ret w (.int .i64 ((sibN n:Nat):Int))):=by
 refine enter (vs:=[_]) func267 rfl ntmps267 rfl ?_;refine B 8 ?_;refine rv rfl rfl rfl (RV.re (v':=.int .i64 ((sibN n:Nat):Int)) (xorW_r rfl rfl) (congrArg (Value.int .i64) (xor_one n h))) ?_;refine B 4 ?_;refine retV results267 rfl A0 ?_;rfl
theorem paths_up(n:Nat)(w:World):Calls prog 308 #[.int .i64 (n:Int)] w (RetX w (λb:Nat=>.func (.func 348) #[] #[ptr b 0]) (λb w1=>w.heap.size<=b/\True/\w1.heap[b]? =some (.cells #[.int .i64 (n:Int)] 404 (0,0)))):=by
 refine enter (vs:=[_]) func308 rfl ntmps308 rfl ?_;refine B 3 ?_;intro b1 w1 hb1 ha1 ho1 hm1 hz1;replace ha1:=yb ha1;replace ho1:=yc ho1;refine B 10 ?_;refine nE b1 results308 rfl A1 rfl ?_;exact λW hS=>⟨ha1.1,True.intro,hS.old A0 hb1 hm1 trivial⟩
theorem up_iter(n:Nat)(hn:n<4611686018427387904)(b:Nat)(W:World)(hb1:W.heap[b]? =some (.cells #[.int .i64 (n:Int)] 404 (0,0))):n7b prog 348 [ptr b 0] (λm:Nat=>[.int .i64 (m:Int)]) (Pfx (upL n)) (Is (upL n)) (λk=>k=b) (λ_=>False) W:=by
 intro l M I X0 hM hI hX hy h0;refine nT (it2 hM (λ_=>False) (hI [] _)) [(b,.cells #[.int .i64 (n:Int)] 404 (0,0))] (vs:=[_,_]) func348 rfl ntmps348 rfl (nMd hM (hI [] _) h0 (by intro p hp;simp at hp;subst hp;exact hb1) (dist1 _) zS) ?_;refine B 1 ?_;refine CJ.loop (α:=(List Nat×Nat)×Foot) (λp=>[(0,yv l),(1,ptr b 0)]) (λp=>[(b,.cells #[.int .i64 (p.1.2:Int)] 404 (0,0))]) (λp=>[W]) (λp=>it2 hM p.2 (hI p.1.1 p.2)) (λp=>p.1.1++upL p.1.2=upL n/\p.1.2<=n/\∀k,p.2 k->W.heap.size<=k) (λp=>p.1.2) (([],n),λ_=>False) ⟨rfl,abo _,λ_ h=>h.elim⟩ ⟨rfl,rfl,trivial⟩ rfl rfl zS ?_;rintro⟨⟨pre,m⟩,V⟩ ⟨hpm,hmn,hV⟩;dsimp only at hpm hmn hV ⊢;refine B 6 ?_;refine nf (t:=5) rfl (λhc1=>?_) (λhc1=>?_)
 ·replace hc1:=ya hc1;refine B 2 ?_;refine yld2 (λV=>hI (pre++[m]) V) hX hV zS rfl rfl rfl rfl (λW1 hV1 hI1=>hy (pre) (m) V W1 ⟨upL (m/2),by rw[a2o,<-hpm,nAe (n:=m) zG];rfl⟩ hV1 hI1) ?_ ?_
  ·intro V hV;refine B 13 ?_;refine call call265 rfl rfl rfl (λW hS=>n6g m zG W) ?_;refine stW (i:=0) rfl sizeOf404 rfl rfl rfl rfl (apo rfl) rfl ?_;refine B 1 ?_;refine PJ.again ((pre++[m],parN m),V) ⟨by dsimp only;rw[<-hpm,nAe (n:=m) zG,a2o];rfl,by dsimp only[parN];omega,hV⟩ (by dsimp only[parN];omega) ⟨rfl,rfl,trivial⟩ rfl rfl zS
  intro V hV;refine B 8 ?_;exact n2b (.inr rfl) results348 A0 hV zS (λA hA=>.inr hA)
 replace hc1:=ya hc1;refine B 11 ?_;exact n2b (.inr rfl) results348 A0 hV zS (λA hA=>.inl ⟨pre,by rw[<-hpm,nWg zG,asp],hA⟩)
theorem nVn(fo:Nat->Nat)(pre:List Nat)(x:Nat):(pre++[x]).map (λn=>((fo n:Nat):Int))=pre.map (λn=>((fo n:Nat):Int))++[((fo x:Nat):Int)]:=by simp
theorem n5g(fo:Nat->Nat)(g:Nat)(hent:Ent prog g)(hof:∀(n:Nat) (w:World),n<4611686018427387904->Calls prog g #[.int .i64 (n:Int)] w (Ret w (.int .i64 ((fo n:Nat):Int))))(d:Int)(kk:Nat)(hkk:512+d=(kk:Int))(hd:DvOk d)(w:World):Calls prog 264 #[.int .i64 d,.func (.func g) #[] #[]] w (nC w encZ 1 3 (List.map (λn=>((fo n:Nat):Int)) (upL kk)) (λs=>.tuple #[s,.int .i64 0])):=by
 have hd1:=hd.1;have hd2:=hd.2;have hul:=n8l kk;refine n1b Gh.no [] (vs:=[_,_]) func264 rfl ntmps264 rfl (nmc w) ?_;refine B 3 ?_;intro b3 w3 hb3 ha3 ho3 hm3 hz3;replace ha3:=yb ha3;replace ho3:=yc ho3;refine allW zeroValue32 rfl rfl ?_;intro b4 ha4 ho4;replace ha4:=yb ha4;replace ho4:=yc ho4;refine B 6 ?_;refine call call307 rfl rfl rfl (λW hS=>by rw[<-hkk];exact nen d hd W) (v:=.tuple #[.int .i64 (kk:Int),.int .i64 0]) ?_;refine B 11 ?_;refine zmg ?_;refine B 9 ?_;refine nvg (α:=Nat) (v:=λb=>.func (.func 348) #[] #[ptr b 0]) (bo:=λb=>(b,.cells #[.int .i64 (kk:Int)] 404 (0,0))) (Φ:=λ_=>True) call308 rfl rfl rfl (λW hS=>paths_up kk W) ?_;intro bu hau hou _;dsimp only at hau hou ⊢;replace hau:=yb hau;simp only[Off,and_true]at hou;refine B 3 ?_;refine nfn (f:=348) (cap:=[ptr bu 0]) (α:=Nat) (enc:=(λm:Nat=>[.int .i64 (m:Int)])) (Pre:=Pfx (upL kk)) (Fin:=Is (upL kk)) (RO:=λ_=>False) (i:=0) (b:=bu) (o:=.cells #[.int .i64 (kk:Int)] 404 (0,0)) (H:=[(b4,.cells #[.slice none 0 0] 32 (0,0))]) rfl rfl zQ zO rfl call348 (λW W2 hS hbo hB=>up_iter kk zG bu W2 (by rw[hB.block bu (ago.1 hbo).1];exact hbo)) (λ_ _ _ hk=>hk.elim) (λ_=>rfl) (λpre G' Hc=>G'=Gh.no/\∃r:Rw,r.Fr Gh.no [w3,w]/\r.Fit 1 (List.map (λn=>((fo n:Nat):Int)) pre)/\Hc=[(b4,.cells #[r.val (List.map (λn=>((fo n:Nat):Int)) pre).length] 32 (0,0))]++(r.hp encZ 3 (List.map (λn=>((fo n:Nat):Int)) pre)++[])) (λ_ _ _=>False) ⟨rfl,.nil,True.intro,rfl,rfl⟩ zI ?_ ?_ ?_
 ·rintro pre x G' Hc l Dk rec W1 M V Wy hrs hrp hpre ⟨rfl,r,hrf,hrfit,rfl⟩ haD hlD hlW haW hlent hsY;simp only[Above]at haD haW;have hrge:r.ge w3.heap.size:=Rw.ge_of hrf A0;have hm3:=hlent.z (k:=b3) zG zO zGb zO;have hxm:=upL_mem x (hpre.subset zS);have hpl:=hpre.length_le;simp only[aHo,axo,a1o]at hpl;have hrz:∀p∈r.hp encZ 3 (List.map (λn=>((fo n:Nat):Int)) pre),M p.1\/V p.1:=λp hp=>hlent.loc.h p zJc;refine B 3 ?_;refine n8b hrs ?_;refine B 1 ?_;refine CJ.less (E':=[(0,_),(1,_),(3,_),(4,_),(5,_),(6,_),(7,_),(8,_),(9,_),(10,_),(11,_),(12,_),(13,_),(14,_),(16,_),(17,_),(18,_)]) zR ?_;refine nJ 5 [4] [([],some _),([],some _),([],some _),([1,2],some _),([3],none)] (λcv L' H'=>match cv with| []=>L'=[Wy,w3,w]/\H'=book ([(b4,.cells #[r.val (List.map (λn=>((fo n:Nat):Int)) pre).length] 32 (0,0))]++(r.hp encZ 3 (List.map (λn=>((fo n:Nat):Int)) pre)++[])) l {rec with state:=.busy} (bxD Dk)| [v1]=>∃(b23:Nat) (w23:World),v1= .slice (some ⟨b23,0,none⟩) 1 1/\L'=[w23,Wy,w3,w]/\H'=book ([(b4,.cells #[r.val (List.map (λn=>((fo n:Nat):Int)) pre).length] 32 (0,0))]++(r.hp encZ 3 (List.map (λn=>((fo n:Nat):Int)) pre)++[])) l {rec with state:=.busy} (bxD Dk)/\w23.heap[b23]? =some (.cells #[.int .i64 ((fo x:Nat):Int)] 3 (0,0))/\Off (book ([(b4,.cells #[r.val (List.map (λn=>((fo n:Nat):Int)) pre).length] 32 (0,0))]++(r.hp encZ 3 (List.map (λn=>((fo n:Nat):Int)) pre)++[])) l {rec with state:=.busy} (bxD Dk)) b23/\¬(Gh.no.ext λk=>M k\/V k).X b23|_=>False) zM ⟨rfl,rfl⟩ zM zM zM zM zM zM (pc zcl (pc zcl (pc zP (pc (by exact λcv L' H' hd hP=>n6l (first:=[]) (cap:=[]) rfl hent rfl rfl (λW hS _=>hof x W zG) (λ_=>rfl)) (pk (pn)))))) ?_ ?_
  ·refine sc rfl rfl rfl ?_ ?_
   ·intro cv L' H' hl hP F Q' hk;obtain rfl:=aap hl;obtain⟨rfl,rfl⟩:=hP;refine zte ?_;intro b23 w23 hb ha ho hm hz;exact OJ.done (hk _ _ _ ⟨b23,w23,rfl,rfl,rfl,hb,ho,hm⟩)
   exact sn
  intro cv L' H' hl hP;obtain⟨v1,rfl⟩:=len1 hl;obtain⟨b23,w23,rfl,rfl,rfl,hb23,ho23,hm23⟩:=hP;refine apT (r:=r) (xs:=(List.map (λn=>((fo n:Nat):Int)) pre)) (zs:=[((fo x:Nat):Int)]) (enc:=encZ) (m:=1) (H0:=[(b4,.cells #[r.val (List.map (λn=>((fo n:Nat):Int)) pre).length] 32 (0,0))]) (H1:=(l,.loop {rec with state:=.busy})::bxD Dk) zub nDg nB rfl rfl rfl rfl (SrcT.one (z:=((fo x:Nat):Int)) nB nkd underlying32 (Lies.old A0 hb23 hm23 ho23)) hrfit (Rw.Fr_ext hrz) zS z7b ?_;intro b24 cp24 sp24 hf24 hfit24;replace hf24:=yb hf24;refine stWw (i:=0) rfl sizeOf32 rfl rfl rfl rfl rfl rfl ?_;refine B 2 ?_;refine nR (L':=[Wy,w3,w]) zS ?_;refine njb (G2:=Gh.no) (Hc2:=[(b4,.cells #[(Rw.row b24 cp24 sp24).val ((List.map (λn=>((fo n:Nat):Int)) pre)++[((fo x:Nat):Int)]).length] 32 (0,0))]++((Rw.row b24 cp24 sp24).hp encZ 3 ((List.map (λn=>((fo n:Nat):Int)) pre)++[((fo x:Nat):Int)])++[])) hlent hlD ⟨λ_ h=>h,λ_ h=>.inl h,λ_ h=>.inl h,(nwh rfl (hf24.imp id (λh=>h.2.1))),zMd⟩ (nxb hrs hrp) ?_;rw[nVn];exact⟨rfl,.row b24 cp24 sp24,hf24.elim (λh=>Rw.Fr_at hrf h) (λh=>.inr h.2.2),hfit24,rfl⟩
 ·rintro xs' l Dk rec G' Hc rfl haD hlD ⟨rfl,r,hrf,hrfit,rfl⟩;replace haD:=yb haD;have hrge:r.ge w3.heap.size:=Rw.ge_of hrf A0;refine nCg λWd hSd=>?_;have hbn:=nod hSd;refine B 5 ?_;refine stWw (i:=0) rfl sizeOf32 rfl rfl rfl (Rw.val_size _ _) rfl (Rw.val_one _ _) ?_;refine B 4 ?_;have hq:=λ(k:Nat)=>Rw.mem_ge (enc:=encZ) (t:=3) (xs:=(List.map (λn=>((fo n:Nat):Int)) (upL kk))) (k:=k) hrge;refine PJ.reH (H':=(b4,.cells #[r.val (List.map (λn=>((fo n:Nat):Int)) (upL kk)).length] 32 (0,0))::(r.hp encZ 3 (List.map (λn=>((fo n:Nat):Int)) (upL kk))++(l,.loop rec)::bxD Dk)) (by simp[book,Rw.val_cells]) ?_;refine retRwM (b:=b4) (r:=r) (xs:=(List.map (λn=>((fo n:Nat):Int)) (upL kk))) (.inl rfl) results264 isAgg32 rfl rfl zS A0 (hbn _ A0).1 rfl hrfit (λp hp=>⟨.tail _ (azo.2 (.inl hp)),(hbn p (azo.2 (.inr (azo.2 (.inl hp))))).1⟩) (Rw.ge_of hrf A1) (λW H' hS hmap=>(hS.links w A1).below λk hk hx=>?_);exact zLi
 exact zRj
def pthL (d:Int):List Int:=(upL (512+d).toNat).map λn=>((parN n:Nat):Int)
def cptL (d:Int):List Int:=(upL (512+d).toNat).map λn=>((sibN n:Nat):Int)
theorem entPar:Ent prog 265:=call265
theorem entSib:Ent prog 267:=call267
theorem nEf(d:Int)(hd:DvOk d)(w:World):Calls prog 209 #[.int .i64 d] w (nC w encZ 1 3 (pthL d) (λs=>.tuple #[s,.int .i64 0])):=by
 obtain⟨kk,hkk⟩:∃kk:Nat,512+d=(kk:Int):=⟨(512+d).toNat,by have:=hd.1;omega⟩;have e:pthL d=(List.map (λn=>((parN n:Nat):Int)) (upL kk)):=by unfold pthL;rw[hkk,a8o]
 rw[e];refine enter (vs:=[_]) func209 rfl ntmps209 rfl ?_;refine B 9 ?_;refine ned (enc:=encZ) (m:=1) (t:=3) (xs:=(List.map (λn=>((parN n:Nat):Int)) (upL kk))) (v:=λs=>.tuple #[s,.int .i64 0]) (first:=[]) (cap:=[]) rfl call264 rfl rfl rfl (λW hS=>n5g parN 265 entPar (λn w h=>n6g n h w) d kk hkk hd W) ?_;intro r hrf hrfit;refine B 7 ?_;exact nU (H0:=[]) (H1:=[]) (r:=r) (.inl rfl) results209 (RS.t rfl (RS.t rfl RS.n)) A0 zFc rfl hrfit (Rw.ge_of hrf A0) zS
theorem nql(d:Int)(hd:DvOk d)(w:World):Calls prog 214 #[.int .i64 d] w (nC w encZ 1 3 (cptL d) (λs=>.tuple #[s,.int .i64 0])):=by
 obtain⟨kk,hkk⟩:∃kk:Nat,512+d=(kk:Int):=⟨(512+d).toNat,by have:=hd.1;omega⟩;have e:cptL d=(List.map (λn=>((sibN n:Nat):Int)) (upL kk)):=by unfold cptL;rw[hkk,a8o]
 rw[e];refine enter (vs:=[_]) func214 rfl ntmps214 rfl ?_;refine B 9 ?_;refine ned (enc:=encZ) (m:=1) (t:=3) (xs:=(List.map (λn=>((sibN n:Nat):Int)) (upL kk))) (v:=λs=>.tuple #[s,.int .i64 0]) (first:=[]) (cap:=[]) rfl call264 rfl rfl rfl (λW hS=>n5g sibN 267 entSib (λn w h=>ndl n h w) d kk hkk hd W) ?_;intro r hrf hrfit;refine B 7 ?_;exact nU (H0:=[]) (H1:=[]) (r:=r) (.inl rfl) results214 (RS.t rfl (RS.t rfl RS.n)) A0 zFc rfl hrfit (Rw.ge_of hrf A0) zS
end Px
