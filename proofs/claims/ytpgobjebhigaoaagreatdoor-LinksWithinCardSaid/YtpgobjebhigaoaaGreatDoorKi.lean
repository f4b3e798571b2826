/- Contracts of functions of the program. No condition beyond those stated. -/
import Derived.Test.YtpgobjebhigaoaaGreatDoorKh
import Derived.Test.YtpgobjebhigaoaaGreatDoorProg
set_option linter.unusedSimpArgs false
set_option linter.unusedVariables false
set_option linter.unusedSectionVars false
set_option linter.unnecessarySimpa false
set_option maxRecDepth 20000
set_option maxHeartbeats 8000000
namespace Px
open Go Go.RowKit Go.Proofs Go.Proofs.Tryz
noncomputable def JM (Z:Fx) (s:Sc) (lk:Lk):Bool:=(po Z s lk.fo).any λg=>Ec Z g.ms lk.by_ (fe Z lk) lk.sr lk.ss
variable {cs Jq:Array Value} {C:Cx} {R:Ending->World->Prop} {E:Env} {Z:Fx} {G:Gh} {g:Gp} {H:ae} {d:Int} {D:List Deferred} {pre:List Gv} {L:List World} {lk:Lk} {N i j k m:Nat} {Tw:Nat×Nat} {o:Obj} {a:Option Addr} {s:Sc} {W:World}
theorem n8i(hZ:FxOk Z)(s:Sc)(ho:fh s)(N:Nat)(w:World)(hN:N<=w.heap.size)(hs:dP N w s)(lk:Lk)(hlk:cT lk)(hg:Glb w):Calls prog 35 #[.agg (gw s),.agg (lkC lk)] w (av w (.bool (JM Z s lk))):=by
 have eC:=hg.lt;refine xK Gh.no [] (vs:=[_,_]) func35 rfl ntmps35 rfl (u7 w) ?_;refine B 2 ?_;refine yX ?_;intro b2 w2 aH aF dS cE cX;refine yX ?_;intro b3 w3 aC ay cS bV cL;refine aU zeroValue4 rfl rfl ?_;refine yW ?_;intro b4 dQ dV;refine B 5 ?_;refine rr (.agg (gw s)) (af isAgg81 sizeOf81 rfl A1 aH aF zL rfl) ?_;refine B 2 ?_;refine rr (.int .i64 lk.fo) (aa isAgg3 rfl A0 aC ay zL rfl) ?_;refine nu (α:=Nat×Nat) (v:=λq:Nat×Nat=>.func (.func 83) #[] #[ptr q.1 0,ptr q.2 0]) (Φ:=λW q w1=>W.heap.size<=q.1/\W.heap.size<=q.2/\w1.heap[q.1]? =some (.cells (gw s) 81 (0,0))/\w1.heap[q.2]? =some (.cells #[.int .i64 lk.fo] 3 (0,0))) call41 rfl rfl rfl (λW hS=>nvg s lk.fo W) ?_;rintro Wn q wn jc o7 ⟨eN,eQ,du,fu⟩;try dsimp only at eN eQ du fu
 have sf:=(aM.1 du).1;have sh:=(aM.1 fu).1;have DW:=o7.size;have aes:=(jc.links w A2).size;refine B 3 ?_;have lb4:=jc.lt (b4,_) A0;try dsimp only at lb4
 refine CJ.range3 (f:=83) (cap:=[ptr q.1 0,ptr q.2 0]) (α:=Gv) (enc:=(λg:Gv=>[.agg (aX g)])) (Pre:=(λ(p:List Gv) (Y:aB) (A:World)=>(p.map (·.g) <+:po Z s lk.fo/\p.length<=1000)/\∀e∈p,aL A.heap.size A e/\dp Y e)) (Fin:=(λ(p:List Gv) (_:aB) (_:World)=>p.map (·.g)=po Z s lk.fo/\p.length<=1000)) (RO:=sN w.heap.size q.1 q.2) (MI:=λ_=>False) rfl call83 (λW' W2 hS hB=>by have l1:=(hS.links wn A0).size;exact nJh hZ s ho w.heap.size lk.fo q.1 q.2 W2 (aS zM hB.size) eC ((hs.up hN (hS.same A3 hN zU wx)).up (ao _) (λk hk=>hB.block k zM)) ((hg.old hS A3 zU wx).bel hB) SJ SK) (λ_ _ _ hk=>hk.elim) (λW' hS k hk=>by have l1:=(hS.links wn A0).size;simp only[eE,iD,cP,fG,or_false];rcases hk with hk|rfl|rfl<;>exact⟨by omega,by omega,λh=>h⟩) (λ_=>rfl) (λpre G' Hc=>G'=Gh.no/\(pre.any λg:Gv=>(Ec Z g.g.ms lk.by_ (fe Z lk) lk.sr lk.ss))=false/\Hc=[(b4,.cells #[.bool false] 4 (0,0))]) (λc G' Hc=>c= .ret/\G'=Gh.no/\Hc=[(b4,.cells #[.bool true] 4 (0,0))]/\JM Z s lk=true) ⟨rfl,rfl,rfl⟩ zQ ?_ ?_ ?_
 ·rintro pre x G' Hc l Dk rec W1 M V Wy jX ov dU ⟨rfl,fm,rfl⟩ dr fK Dh oL bj th;simp only[ad]at dr oL;have Eb:∀k,k<w.heap.size->¬(Gh.no.ext λk=>M k\/V k).X k:=λk hk=>bj.z zM zX X7 zX;clear aF ay;have aF:¬(Gh.no.ext λk=>M k\/V k).X b2:=bj.z zM zX X7 zX;have ay:¬(Gh.no.ext λk=>M k\/V k).X b3:=bj.z zM zX X7 zX;have tE:=dU.2 x (cO.2 (.inr A0));have Eh:dp (Gh.no.ext λk=>M k\/V k).X x:=⟨λq e=>(tE.2.1 q e).imp id (λh1 h2=>h2.elim zX h1),λq e=>(tE.2.2 q e).imp id (λh1 h2=>h2.elim zX h1)⟩;refine B 1 ?_;refine rj ?_;refine yW ?_;intro b5 gQ gR;refine Jm ?_;refine B 1 ?_;refine PJ.reH (H':=book ([(b5,.cells (aX x) 57 (0,0)),(b4,.cells #[.bool false] 4 (0,0))]) l rec (bQ Dk)) rfl ?_;have JJ:∀p∈book ([(b5,.cells (aX x) 57 (0,0)),(b4,.cells #[.bool false] 4 (0,0))]) l {rec with state:=.busy} (bQ Dk),mE p.1 x:=by
   intro p hp;simp only[book,bQ,eY,dX,cP,fG,or_false]at hp;rcases hp with rfl|rfl|rfl|rfl
   ·exact tE.1.off dL
   ·exact tE.2.off (bj.loc.h (b4,_) A0)
   ·exact tE.2.off (.inl (bj.m' _ (.inr fK)))
   exact tE.2.off (.inl (bj.m' _ (.inl rfl)))
  refine Pb jX ?_;refine B 2 ?_;cases oV:(Ec Z x.g.ms lk.by_ (fe Z lk) lk.sr lk.ss)with
  |true=>
   refine zMh ?_;refine nJ 9 [5] [([],some (.agg (aX x))),([],some _),([1],some _),([2],some (.int .i64 lk.by_)),([],some (.agg (lkC lk))),([4],none),([],some _),([6],some _),([7],some (.agg #[.int .i64 lk.sr,.int .i64 lk.ss]))] (λcv L' H'=>match cv with| []=>L'=[Wy,wn,w3,w2,w]/\H'=book ([(b5,.cells (aX x) 57 (0,0)),(b4,.cells #[.bool false] 4 (0,0))]) l {rec with state:=.busy} (bQ Dk)| [v1]=>∃(bm:Nat) (wm:World),v1= .slice (some ⟨bm,0,none⟩) 32 32/\L'=[wm,Wy,wn,w3,w2,w]/\H'=book ([(b5,.cells (aX x) 57 (0,0)),(b4,.cells #[.bool false] 4 (0,0))]) l {rec with state:=.busy} (bQ Dk)/\wm.heap[bm]? =some (.cells (dg (fe Z lk)) 34 (0,0))/\bm<wm.heap.size/\(b5<bm/\b4<bm/\Dk+1<bm)/\¬(Gh.no.ext λk=>M k\/V k).X bm|_=>False) zT ⟨rfl,rfl⟩ zT zT zT zT zT zT (pc JN (pc z3 (pc z9 (pc JN (pc JN (pk (pc z3 (pc OQ (pc JN (pn)))))))))) ?_ ?_
   ·exact zuj
   intro cv L' H' hl hP;obtain⟨v1,rfl⟩:=dd hl;obtain⟨bm,wm,rfl,rfl,rfl,jb,JO,pb⟩:=hP;refine call (v:=.bool true) call73 rfl rfl rfl (λW hS=>by
    have h9:=nif hZ x W.heap.size W (ao _) ((tE.1).toZ hS A1 (ao _) Eh (λp hp=>JJ p hp)) lk.by_ (fe Z lk) bm 34 (0,0) (hS.old A0 jb pb.2 (by simp only[bE,book,bQ,eY,dX,and_true];omega)) (Rv hZ lk) lk.sr lk.ss (hg.old hS A5 (λk hk=>Eb k zM) zDc);rwa[oV]at h9) ?_
   refine B 5 ?_;refine aZ (i:=1) rfl sizeOf4 rfl rfl rfl rfl rfl rfl ?_;refine B 4 ?_;refine WI (L':=[Wy,wn,w3,w2,w]) z1 ?_;refine mx ?_;refine n9c (G2:=Gh.no) (Hc2:=[(b4,.cells #[.bool true] 4 (0,0))]) (c:=.ret) bj fK ⟨λ_ h=>h,λ_ h=>.inl h,λ_ h=>.inl h,PE,PE⟩ (.inl ⟨rfl,rfl⟩) rfl ?_;exact⟨rfl,rfl,rfl,by unfold JM;rw[List.any_eq_true];exact⟨x.g,dU.1.1.subset z1,oV⟩⟩
  |false=>
   refine zMh ?_;refine nJ 9 [5] [([],some (.agg (aX x))),([],some _),([1],some _),([2],some (.int .i64 lk.by_)),([],some (.agg (lkC lk))),([4],none),([],some _),([6],some _),([7],some (.agg #[.int .i64 lk.sr,.int .i64 lk.ss]))] (λcv L' H'=>match cv with| []=>L'=[Wy,wn,w3,w2,w]/\H'=book ([(b5,.cells (aX x) 57 (0,0)),(b4,.cells #[.bool false] 4 (0,0))]) l {rec with state:=.busy} (bQ Dk)| [v1]=>∃(bm:Nat) (wm:World),v1= .slice (some ⟨bm,0,none⟩) 32 32/\L'=[wm,Wy,wn,w3,w2,w]/\H'=book ([(b5,.cells (aX x) 57 (0,0)),(b4,.cells #[.bool false] 4 (0,0))]) l {rec with state:=.busy} (bQ Dk)/\wm.heap[bm]? =some (.cells (dg (fe Z lk)) 34 (0,0))/\bm<wm.heap.size/\(b5<bm/\b4<bm/\Dk+1<bm)/\¬(Gh.no.ext λk=>M k\/V k).X bm|_=>False) zT ⟨rfl,rfl⟩ zT zT zT zT zT zT (pc JN (pc z3 (pc z9 (pc JN (pc JN (pk (pc z3 (pc OQ (pc JN (pn)))))))))) ?_ ?_
   ·exact zuj
   intro cv L' H' hl hP;obtain⟨v1,rfl⟩:=dd hl;obtain⟨bm,wm,rfl,rfl,rfl,jb,JO,pb⟩:=hP;refine call (v:=.bool false) call73 rfl rfl rfl (λW hS=>by
    have h9:=nif hZ x W.heap.size W (ao _) ((tE.1).toZ hS A1 (ao _) Eh (λp hp=>JJ p hp)) lk.by_ (fe Z lk) bm 34 (0,0) (hS.old A0 jb pb.2 (by simp only[bE,book,bQ,eY,dX,and_true];omega)) (Rv hZ lk) lk.sr lk.ss (hg.old hS A5 (λk hk=>Eb k zM) zDc);rwa[oV]at h9) ?_
   refine B 5 ?_;refine WI (L':=[Wy,wn,w3,w2,w]) z1 ?_;refine mx ?_;refine DM (G2:=Gh.no) (Hc2:=[(b4,.cells #[.bool false] 4 (0,0))]) bj fK ⟨λ_ h=>h,λ_ h=>.inl h,λ_ h=>.inl h,PE,PE⟩ (DN jX ov) ?_;exact⟨rfl,by rw[List.any_append,fm];simp[oV],rfl⟩
 ·rintro im l Dk rec G' Hc Zf Wd ⟨bZ,_⟩ hZf dr fK ⟨rfl,fm,rfl⟩;replace dr:=yb dr;refine B 4 ?_;refine OR ?_;refine B 3 ?_;refine zC (b:=b4) (.inl rfl) results35 isAgg4 rfl xL (cs:=#[.bool false]) (ct:=4) (fr:=(0,0)) (by exact .head _) zM rfl (λW H' hS bO=>⟨congrArg Ending.returned (vb (by unfold JM;rw[<-bZ,List.any_map];exact fm.symm)),(hS.links w A4).below (λk hk hx=>by rw[bO]at hx;simp[Gh.no,book]at hx;omega)⟩)
 rintro l Dk rec c G' Hc dr fK ⟨rfl,rfl,rfl,o8⟩;replace dr:=yb dr;refine B 3 ?_;refine zC (b:=b4) (.inl rfl) results35 isAgg4 rfl xL (cs:=#[.bool true]) (ct:=4) (fr:=(0,0)) (by exact .head _) zM rfl (λW H' hS bO=>⟨congrArg Ending.returned (vb o8.symm),(hS.links w A3).below (λk hk hx=>by rw[bO]at hx;simp[Gh.no,book]at hx;omega)⟩)
noncomputable def dw (Z:Fx) (s:Sc):Nat->Lk->Bool
 |0,l=>nB l&&(if l.by_= -1 then false else JM Z s l)
 |n+1,l=>nB l&&(if l.by_= -1 then(match db Z s.lks l with
  |some p=>iC Z s.pls l p&&dw Z s n p
  |none=>false)else JM Z s l)
theorem Hr{l:Lk}(hv:nB l=false):∀n,dw Z s n l=false
 |0=>by unfold dw;rw[hv];rfl
 |n+1=>by unfold dw;rw[hv];rfl
theorem Nr{l:Lk}(hv:nB l=true)(hb:¬l.by_= -1):∀n,dw Z s n l=JM Z s l
 |0=>by unfold dw;rw[hv,if_neg hb];rfl
 |n+1=>by unfold dw;rw[hv,if_neg hb];rfl
theorem Cu{l:Lk}(hb:l.by_= -1)(hp:db Z s.lks l=none):∀n,dw Z s n l=false
 |0=>by unfold dw;rw[if_pos hb];simp
 |n+1=>by unfold dw;rw[if_pos hb,hp];simp
theorem Cv{l:Lk}(hb:l.by_= -1):dw Z s 0 l=false:=by unfold dw;rw[if_pos hb];simp
theorem n6k{l p:Lk}(hv:nB l=true)(hb:l.by_= -1)(hp:db Z s.lks l=some p)(n:Nat):dw Z s (n+1) l=(iC Z s.pls l p&&dw Z s n p):=by
 rw[dw,hv,if_pos hb,hp];rfl
def Ux (Z:Fx) (s:Sc) (N n:Nat):Prop:=∀(l:Lk) (w:World),cT l->N<=w.heap.size->dP N w s->Glb w->Calls prog 19 #[.agg (gw s),.agg (lkC l),.int .i64 (n:Int)] w (av w (.bool (dw Z s n l)))
theorem nRj(hZ:FxOk Z)(s:Sc)(ho:fh s)(N:Nat)(w:World)(hN:N<=w.heap.size)(hs:dP N w s)(l:Lk)(hlk:cT l)(hg:Glb w)(n:Nat)(hn:n<=256)(hv:nB l=false):Calls prog 19 #[.agg (gw s),.agg (lkC l),.int .i64 (n:Int)] w (av w (.bool (dw Z s n l))):=by
 have eC:=hg.lt;refine K0 ?_;refine yV ?_;intro b3 w3 aC ay cS bV cL;refine yX ?_;intro b4 w4 dm eb mI dQ dV;refine B 6 ?_;refine RG ?_;refine call call26 rfl rfl rfl (λW hS=>by have h9:=nI l W;rwa[hv]at h9) (v:=.bool false) ?_;refine B 11 ?_;refine ax results19 rfl A2 ?_;exact vb (Hr hv n).symm
theorem n6l(hZ:FxOk Z)(s:Sc)(ho:fh s)(N:Nat)(w:World)(hN:N<=w.heap.size)(hs:dP N w s)(l:Lk)(hlk:cT l)(hg:Glb w)(n:Nat)(hn:n<=256)(hv:nB l=true)(hb:¬l.by_= -1):Calls prog 19 #[.agg (gw s),.agg (lkC l),.int .i64 (n:Int)] w (av w (.bool (dw Z s n l))):=by
 have eC:=hg.lt;refine K0 ?_;refine yV ?_;intro b3 w3 aC ay cS bV cL;refine yX ?_;intro b4 w4 dm eb mI dQ dV;refine B 6 ?_;refine RG ?_;refine call call26 rfl rfl rfl (λW hS=>by have h9:=nI l W;rwa[hv]at h9) (v:=.bool true) ?_;refine B 11 ?_;refine rr (.int .i64 l.by_) (aa isAgg3 rfl A0 dm eb trivial rfl) ?_;refine rq (.bool true) (cy rfl rfl) (vb Ni) ?_;refine B 5 ?_;refine rr (.agg (gw s)) (af isAgg81 sizeOf81 rfl A1 aC ay trivial rfl) ?_;refine RG ?_;refine call (v:=.bool (JM Z s l)) call35 rfl rfl rfl (λW hS=>n8i hZ s ho N W (aS hN (hS.links w A2).size) (hs.up (ao _) (hS.same A2 hN zU trivial)) l hlk (hg.old hS A2 zU trivial)) ?_;refine B 5 ?_;refine ax results19 rfl A2 ?_;exact vb (Nr hv hb n).symm
theorem nMi(hZ:FxOk Z)(s:Sc)(ho:fh s)(N:Nat)(w:World)(hN:N<=w.heap.size)(hs:dP N w s)(l:Lk)(hlk:cT l)(hg:Glb w)(n:Nat)(hn:n<=256)(hv:nB l=true)(hb:l.by_= -1)(hp:db Z s.lks l=none):Calls prog 19 #[.agg (gw s),.agg (lkC l),.int .i64 (n:Int)] w (av w (.bool (dw Z s n l))):=by
 have eC:=hg.lt;refine K0 ?_;refine yV ?_;intro b3 w3 aC ay cS bV cL;refine yX ?_;intro b4 w4 dm eb mI dQ dV;refine B 6 ?_;refine zDe ?_;refine call (v:=.tuple #[.agg (lkC kH),.bool false]) call36 rfl rfl rfl (λW hS=>by have h9:=nNc hZ s ho N W (aS hN (hS.links w A2).size) (hs.up (ao _) (hS.same A2 hN zU trivial)) l (hg.old hS A2 zU trivial);rwa[hp]at h9) ?_;refine B 3 ?_;refine Rx ?_;refine yW ?_;intro b7 gg ow;refine IH ?_;refine B 27 ?_;refine Yk ?_;exact vb (Cu hb hp n).symm
theorem nso(hZ:FxOk Z)(s:Sc)(ho:fh s)(N:Nat)(w:World)(hN:N<=w.heap.size)(hs:dP N w s)(l:Lk)(hlk:cT l)(hg:Glb w)(n:Nat)(hn:n<=256)(hv:nB l=true)(hb:l.by_= -1)(p:Lk)(hp:db Z s.lks l=some p)(h0:n=0):Calls prog 19 #[.agg (gw s),.agg (lkC l),.int .i64 (n:Int)] w (av w (.bool (dw Z s n l))):=by
 have eC:=hg.lt;refine K0 ?_;refine yV ?_;intro b3 w3 aC ay cS bV cL;refine yX ?_;intro b4 w4 dm eb mI dQ dV;refine zQi ?_;refine yW ?_;intro b7 gg ow;refine IH ?_;refine B 8 ?_;refine Iu ?_;refine B 18 ?_;refine Yk ?_;exact vb (by subst h0;exact(Cv hb).symm)
theorem nEo(hZ:FxOk Z)(s:Sc)(ho:fh s)(N:Nat)(w:World)(hN:N<=w.heap.size)(hs:dP N w s)(l:Lk)(hlk:cT l)(hg:Glb w)(n:Nat)(hn:n<=256)(hv:nB l=true)(hb:l.by_= -1)(p:Lk)(hp:db Z s.lks l=some p)(m:Nat)(h0:n=m+1)(hc:iC Z s.pls l p=false):Calls prog 19 #[.agg (gw s),.agg (lkC l),.int .i64 (n:Int)] w (av w (.bool (dw Z s n l))):=by
 have eC:=hg.lt;refine K0 ?_;refine yV ?_;intro b3 w3 aC ay cS bV cL;refine yX ?_;intro b4 w4 dm eb mI dQ dV;refine zQi ?_;refine yW ?_;intro b7 gg ow;refine IH ?_;refine B 8 ?_;refine OF ?_;refine B 2 ?_;refine zVf ?_;refine call (v:=.bool false) call37 rfl rfl rfl (λW hS=>by have h9:=n8e hZ s ho N W (aS hN (hS.links w A2).size) (hs.up (ao _) (hS.same A2 hN zU wH)) l p hlk (hg.old hS A2 zU wH);rwa[hc]at h9) ?_;refine B 12 ?_;refine Yk ?_;exact vb (by subst h0;rw[n6k hv hb hp,hc];rfl)
theorem ndo(hZ:FxOk Z)(s:Sc)(ho:fh s)(N:Nat)(w:World)(hN:N<=w.heap.size)(hs:dP N w s)(l:Lk)(hlk:cT l)(hg:Glb w)(n:Nat)(hn:n<=256)(hv:nB l=true)(hb:l.by_= -1)(p:Lk)(hp:db Z s.lks l=some p)(m:Nat)(h0:n=m+1)(hc:iC Z s.pls l p=true)(ih:Ux Z s N m):Calls prog 19 #[.agg (gw s),.agg (lkC l),.int .i64 (n:Int)] w (av w (.bool (dw Z s n l))):=by
 have eC:=hg.lt;refine K0 ?_;refine yV ?_;intro b3 w3 aC ay cS bV cL;refine yX ?_;intro b4 w4 dm eb mI dQ dV;refine zQi ?_;refine yW ?_;intro b7 gg ow;refine IH ?_;refine B 8 ?_;refine OF ?_;refine B 2 ?_;refine zVf ?_;refine call (v:=.bool true) call37 rfl rfl rfl (λW hS=>by have h9:=n8e hZ s ho N W (aS hN (hS.links w A2).size) (hs.up (ao _) (hS.same A2 hN zU wH)) l p hlk (hg.old hS A2 zU wH);rwa[hc]at h9) ?_;refine B 2 ?_;refine rr (.agg (gw s)) (af isAgg81 sizeOf81 rfl A1 aC ay zL rfl) ?_;refine rr (.agg (lkC p)) (aP (i:=0) rfl isAgg84 sizeOf84 rfl rfl) ?_;refine B 1 ?_;refine rq (.int .i64 (m:Int)) (gT rfl rfl zM zM) ((vi zM)) ?_;refine call (v:=.bool (dw Z s m p)) call19 rfl rfl rfl (λW hS=>ih p W (ho.ko p (Hk hp)) (aS hN (hS.links w A2).size) (hs.up (ao _) (hS.same A2 hN zU wH)) (hg.old hS A2 zU wH)) ?_;refine B 5 ?_;refine Yk ?_;exact vb (by subst h0;rw[n6k hv hb hp,hc];rfl)
theorem nSd(hZ:FxOk Z)(s:Sc)(ho:fh s)(N:Nat):∀n,n<=256->Ux Z s N n:=by
 intro n;induction n with
 |zero=>
  intro hn l w hlk hN hs hg;cases hv:nB l with
  |false=>exact nRj hZ s ho N w hN hs l hlk hg 0 hn hv
  |true=>
   by_cases hb:l.by_= -1
   ·cases hp:db Z s.lks l with
    |none=>exact nMi hZ s ho N w hN hs l hlk hg 0 hn hv hb hp
    |some p=>exact nso hZ s ho N w hN hs l hlk hg 0 hn hv hb p hp rfl
   exact n6l hZ s ho N w hN hs l hlk hg 0 hn hv hb
 |succ m ih=>
  intro hn l w hlk hN hs hg;cases hv:nB l with
  |false=>exact nRj hZ s ho N w hN hs l hlk hg (m+1) hn hv
  |true=>
   by_cases hb:l.by_= -1
   ·cases hp:db Z s.lks l with
    |none=>exact nMi hZ s ho N w hN hs l hlk hg (m+1) hn hv hb hp
    |some p=>
     cases hc:iC Z s.pls l p with
     |false=>exact nEo hZ s ho N w hN hs l hlk hg (m+1) hn hv hb p hp m rfl hc
     |true=>exact ndo hZ s ho N w hN hs l hlk hg (m+1) hn hv hb p hp m rfl hc (ih zM)
   exact n6l hZ s ho N w hN hs l hlk hg (m+1) hn hv hb
theorem nxl(p:Fa->Bool)(f:Nat)(cap:List Value)(az:dR prog f)(xs:List Fa)(cb:xs.length<=1000000)(N:Nat)(a:Option Addr)(cp:Nat)(w:World)(hN:N<=w.heap.size)(aJ:ah gY 68 N w a xs)(hp:∀(j:Nat) (x:Fa),xs[j]? =some x->∀W,Below w.heap.size w W->Calls prog f (.agg (gY x)::cap).toArray W (av W (.bool (p x)))):Calls prog 42 #[.slice a xs.length cp,.func (.func f) #[] cap.toArray] w (cu w (λi:Int=>.int .i64 i) (λi _=>cR p xs i)):=by
 refine enter (vs:=[_,_]) func42 rfl ntmps42 rfl ?_;refine I4 ?_;rintro j ⟨hj,dO⟩;refine B 6 ?_;refine aK ?_ ?_
 ·intro aj;refine B 11 ?_;obtain⟨bo,oo,cs0,to,fp,rfl,ft,hcs,ar⟩:=aJ.get zM;obtain⟨x,hx⟩:=nk xs j zM;refine B 5 ?_;refine rq (.agg (gY x)) (ag isAgg59 sizeOf59 rfl A0 hcs zX trivial (ni ar hx rfl)) (va (np ar hx rfl)) ?_;refine I5 ?_;refine aK ?_ ?_
  ·intro aN;refine B 12 ?_;refine jG (j:Int) results42 rfl A0 rfl ?_;exact I6
  exact F8
 intro aj;refine B 11 ?_;refine jG (-1:Int) results42 rfl A0 rfl ?_;exact F9
noncomputable def qN (Z:Fx) (s:Sc) (lk:Lk) (g:Gp):Option (Gp×Fa):=match s.fas.find? (λf:Fa=>kE Z (db Z s.lks lk) (iL Z lk) g f)with
 |some f=>if g.epoch<=lk.exp then some (g,f)else none
 |none=>none
noncomputable def xz (Z:Fx) (s:Sc) (lk:Lk) (ds:List Int):List (Gp×Fa):=ds.flatMap λd=>(po Z s d).filterMap (qN Z s lk)
noncomputable def Hs (Z:Fx) (s:Sc) (lk:Lk):List (Gp×Fa):=xz Z s lk (iB s.pls lk.fo)
def rn (e:Gv×Fa):Gp×Fa:=(e.1.g,e.2)
theorem Ns(h:s.fas.any (λf:Fa=>kE Z (db Z s.lks lk) (iL Z lk) g f)=false):qN Z s lk g=none:=by
 unfold qN;rw[nen h]
theorem Cw{f:Fa}(hk:s.fas[k]? =some f)(hp:kE Z (db Z s.lks lk) (iL Z lk) g f=true)(fm:fw (λf:Fa=>kE Z (db Z s.lks lk) (iL Z lk) g f) s.fas k)(he:¬g.epoch<=lk.exp):qN Z s lk g=none:=by
 unfold qN;rw[fm.find hk hp];exact if_neg he
theorem Ht{f:Fa}(hk:s.fas[k]? =some f)(hp:kE Z (db Z s.lks lk) (iL Z lk) g f=true)(fm:fw (λf:Fa=>kE Z (db Z s.lks lk) (iL Z lk) g f) s.fas k)(he:g.epoch<=lk.exp):qN Z s lk g=some (g,f):=by
 unfold qN;rw[fm.find hk hp];exact if_pos he
theorem nTk{ds:List Int}(h:ds[i]? =some d):xz Z s lk (ds.take (i+1))=xz Z s lk (ds.take i)++(po Z s d).filterMap (qN Z s lk):=by
 unfold xz;rw[nz h,List.flatMap_append,List.flatMap_singleton]
theorem Hu{ds:List Int}(i:Nat):xz Z s lk (ds.take i) <+:xz Z s lk ds:=by
 unfold xz;conv=>rhs;rw[<-Dy i ds,List.flatMap_append]
 exact List.prefix_append _ _
theorem ncn{ys:List (Gv×Fa)}{x:Gv}(oS:ys.map rn=(pre.map (·.g)).filterMap (qN Z s lk))(h1:qN Z s lk x.g=none):ys.map rn=((pre++[x]).map (·.g)).filterMap (qN Z s lk):=by
 rw[gj,List.filterMap_append,oS];simp[h1]
theorem ndn{ys:List (Gv×Fa)}{x:Gv}{y:Fa}(oS:ys.map rn=(pre.map (·.g)).filterMap (qN Z s lk))(h1:qN Z s lk x.g=some (x.g,y)):(ys++[(x,y)]).map rn=((pre++[x]).map (·.g)).filterMap (qN Z s lk):=by
 rw[gj,gj,List.filterMap_append,oS];simp[h1,rn]
theorem Nt{ds:List Int}{yd ys:List (Gv×Fa)}{x:Gv}{y:Fa}(JP:yd.map rn=xz Z s lk (ds.take i))(oS:ys.map rn=(pre.map (·.g)).filterMap (qN Z s lk))(hx:ds[i]? =some d)(hp:(pre++[x]).map (·.g) <+:po Z s d)(h1:qN Z s lk x.g=some (x.g,y)):((yd++ys)++[(x,y)]).map rn <+:xz Z s lk ds:=by
 refine List.IsPrefix.trans ?_ (Hu (i+1));rw[i7,gj,ndn oS h1,JP,nTk hx];exact(List.prefix_append_right_inj _).2 (hp.filterMap _)
theorem Hv{ds:List Int}{yd ys:List (Gv×Fa)}{xs:List Gv}(JP:yd.map rn=xz Z s lk (ds.take i))(oS:ys.map rn=(xs.map (·.g)).filterMap (qN Z s lk))(hx:ds[i]? =some d)(hf:xs.map (·.g)=po Z s d):(yd++ys).map rn=xz Z s lk (ds.take (i+1)):=by
 rw[gj,oS,JP,hf,nTk hx]
structure lu (Z:Fx) (s:Sc) (lk:Lk) (q:Nat×Nat×Nat) (W:World):Prop where
 r:W.heap[q.1]? =some (.cells #[.func (.func 79) #[] #[],.func (.func 80) #[] #[ptr q.2.1 0,ptr q.2.2 0]] 128 (0,0))
 p:W.heap[q.2.1]? =some (.cells #[.bool (db Z s.lks lk).isSome] 4 (0,0))
 l:W.heap[q.2.2]? =some (.cells (lkC ((db Z s.lks lk).getD kH)) 84 (0,0))
structure PL (Z:Fx) (s:Sc) (lk:Lk) (g:Gv) (bi bg bs:Nat) (W:World):Prop where
 at_:aL W.heap.size W g
 glb:Glb W
 hi:W.heap[bi]? =some (.cells (dg (iL Z lk)) 34 (0,0))
 hg:W.heap[bg]? =some (.cells (aX g) 57 (0,0))
 ru:∃q,W.heap[bs]? =some (.cells #[.slice (some ⟨q.1,0,none⟩) 2 2] 118 (0,0))/\lu Z s lk q W
theorem PM{w:World}(hB:Below w.heap.size w W)(h:w.heap[k]? =some o):W.heap[k]? =some o:=(hB.block k (aM.1 h).1).trans h
theorem lu.bel{q:Nat×Nat×Nat}{w:World}(h:lu Z s lk q w)(hB:Below w.heap.size w W):lu Z s lk q W:=⟨PM hB h.r,PM hB h.p,PM hB h.l⟩
theorem PL.bel{g:Gv}{bi bg bs:Nat}{w:World}(h:PL Z s lk g bi bg bs w)(hB:Below w.heap.size w W):PL Z s lk g bi bg bs W:=by
 obtain⟨q,h1,h2⟩:=h.ru;exact⟨h.at_.up hB.size λk hk=>hB.block k hk,h.glb.bel hB,PM hB h.hi,PM hB h.hg,q,PM hB h1,h2.bel hB⟩
theorem PL.call(hZ:FxOk Z){g:Gv}{bi bg bs:Nat}(h:PL Z s lk g bi bg bs W)(f:Fa)(hf:kD f):Calls prog 43 #[.agg (gY f),ptr bi 0,ptr bg 0,ptr bs 0] W (av W (.bool (kE Z (db Z s.lks lk) (iL Z lk) g.g f))):=by
 obtain⟨⟨q1,q2,q3⟩,h1,h2⟩:=h.ru;exact Cp hZ f hf g W.heap.size W (ao _) h.at_ h.glb (db Z s.lks lk) (iL Z lk) bi bg bs q1 q2 q3 h.hi h.hg h1 h2.r h2.p h2.l
theorem St.blk{w:World}(hS:St G L H W)(hw:w∈L)(hk:k<w.heap.size)(hX:¬G.X k)(ho:bE H k):W.heap[k]? =w.heap[k]? :=(hS.links w hw).block k hk (λhx=>hx.elim hX ho.mem)
theorem nVn{c:Code}{Q:aG}(L':List World)(ha:∀w∈L',∀p∈H,w.heap.size<=p.1)(hs:∀w∈L',w∈L)(k:∀W,St G L H W->CJ C c Q E D G (W::L') []):CJ C c Q E D G L H:=
 λa W hN hD hF hS=>by
  have hl:∀w∈L',aI (λk=>G.X k\/k∈([]:ae).map (·.1)) w W:=λw hw=>(hS.links w (hs w hw)).mono λj hj hx=>by
   rcases hx with hx|hx
   ·exact .inl hx
   obtain⟨p,hp,rfl⟩:=bU.1 hx;have:=ha w hw p hp;omega
  exact k W hS a W hN hD hF (St.snap ⟨hS.ghost,hS.vlt,hS.xlt,hl,(λp hp=>by cases hp),I0,(λp hp=>by cases hp)⟩)
theorem nkk(s:Sc)(lk:Lk)(w:World):Calls prog 20 #[.agg (gw s),.agg (lkC lk)] w (cu w (λq:Nat×Nat=>.func (.func 38) #[] #[ptr q.1 0,ptr q.2 0]) (λq w1=>w.heap.size<=q.1/\w.heap.size<=q.2/\w1.heap[q.1]? =some (.cells (lkC lk) 84 (0,0))/\w1.heap[q.2]? =some (.cells (gw s) 81 (0,0)))):=by
 refine enter (vs:=[_,_]) func20 rfl ntmps20 rfl ?_;refine B 2 ?_;refine yX ?_;intro b2 w2 aH aF dS cE cX;refine yX ?_;intro b3 w3 aC ay cS bV cL;refine B 10 ?_;refine jG (b3,b2) results20 rfl A2 rfl ?_;try simp only[ad]at cE bV
 have Q8:=cE.1;have KT:=bV.1;try have aew:=bV.2.1
 exact λW hS=>⟨by omega,by omega,hS.old A0 aC ay trivial,hS.old A1 aH aF trivial⟩
theorem nEl(hZ:FxOk Z)(s:Sc)(ho:fh s)(N:Nat)(lk:Lk)(hlk:cT lk)(b1 b2:Nat)(W:World)(hN:N<=W.heap.size)(hNg:5<=N)(hs:dP N W s)(hg:Glb W)(aR:W.heap[b1]? =some (.cells (lkC lk) 84 (0,0)))(aH:W.heap[b2]? =some (.cells (gw s) 81 (0,0))):vm prog 38 [ptr b1 0,ptr b2 0] (λe:Gv×Fa=>[.agg (aX e.1),.agg (gY e.2)]) (λp:List (Gv×Fa)=>p.map rn <+:Hs Z s lk/\p.length<=20000) (λp:List (Gv×Fa)=>p.map rn=Hs Z s lk/\p.length<=20000) (λ_=>False) (sN N b1 b2) W:=by
 intro l0 M0 I X0 hM hI hX hy h0;have aY:¬(cj hM (λ_=>False) (hI [] _)).X b1:=by rintro(h|h);exact(hM _ h).2.2 (.inr (.inl rfl));exact h.elim
 have aF:¬(cj hM (λ_=>False) (hI [] _)).X b2:=by rintro(h|h);exact(hM _ h).2.2 (.inr (.inr rfl));exact h.elim
 have mr:=(aM.1 aR).1;have xb:=(aM.1 aH).1;refine xK (cj hM (λ_=>False) (hI [] _)) [] (vs:=[_,_,_]) func38 rfl ntmps38 rfl (IP hM (hI [] _) h0 z1 I0 z1) ?_;refine B 2 ?_;refine yX ?_;intro b3 w3 aC ay cS bV cL;refine B 3 ?_;refine ng (E':=[(0,_),(1,_),(2,_),(3,_)]) zR ?_;refine KW 7 [4,5,6] [([],some (.agg (lkC lk))),([0],some (.agg (dg (iL Z lk)))),([],some (.agg (gw s))),([],some (.agg (lkC lk))),([2,3],none),([],none),([],none)] [[],[],[]] (λcv L' H'=>match cv with| [none,none,none]=>L'=[w3,W]/\H'=[]| [none,none,some v6]=>∃(b5:Nat),v6=ptr b5 0/\L'=[w3,W]/\H'=[(b5,.cells #[.slice none 0 0] 118 (0,0))]/\W.heap.size<=b5/\w3.heap.size<=b5| [none,some v5,none]=>∃(b4:Nat),v5=ptr b4 0/\L'=[w3,W]/\H'=[(b4,.cells (dg (λ_=>0)) 34 (0,0))]/\W.heap.size<=b4/\w3.heap.size<=b4| [none,some v5,some v6]=>∃(b4:Nat) (b5:Nat),v5=ptr b4 0/\v6=ptr b5 0/\L'=[w3,W]/\H'=[(b5,.cells #[.slice none 0 0] 118 (0,0)),(b4,.cells (dg (λ_=>0)) 34 (0,0))]/\W.heap.size<=b4/\w3.heap.size<=b4/\W.heap.size<=b5/\w3.heap.size<=b5| [some v4,none,none]=>∃(q:Nat×Nat×Nat) (wr:World),v4= .slice (some ⟨q.1,0,none⟩) 2 2/\L'=[wr,w3,W]/\H'=[]/\lu Z s lk q wr/\(q.1<wr.heap.size/\q.2.1<wr.heap.size/\q.2.2<wr.heap.size)/\(W.heap.size<=q.1/\W.heap.size<=q.2.1/\W.heap.size<=q.2.2)| [some v4,none,some v6]=>∃(q:Nat×Nat×Nat) (wr:World) (b5:Nat),v4= .slice (some ⟨q.1,0,none⟩) 2 2/\v6=ptr b5 0/\L'=[wr,w3,W]/\H'=[(b5,.cells #[.slice none 0 0] 118 (0,0))]/\lu Z s lk q wr/\(q.1<wr.heap.size/\q.2.1<wr.heap.size/\q.2.2<wr.heap.size)/\(W.heap.size<=q.1/\W.heap.size<=q.2.1/\W.heap.size<=q.2.2)/\W.heap.size<=b5/\w3.heap.size<=b5/\(q.1≠b5/\q.2.1≠b5/\q.2.2≠b5)| [some v4,some v5,none]=>∃(q:Nat×Nat×Nat) (wr:World) (b4:Nat),v4= .slice (some ⟨q.1,0,none⟩) 2 2/\v5=ptr b4 0/\L'=[wr,w3,W]/\H'=[(b4,.cells (dg (λ_=>0)) 34 (0,0))]/\lu Z s lk q wr/\(q.1<wr.heap.size/\q.2.1<wr.heap.size/\q.2.2<wr.heap.size)/\(W.heap.size<=q.1/\W.heap.size<=q.2.1/\W.heap.size<=q.2.2)/\W.heap.size<=b4/\w3.heap.size<=b4/\(q.1≠b4/\q.2.1≠b4/\q.2.2≠b4)| [some v4,some v5,some v6]=>∃(q:Nat×Nat×Nat) (wr:World) (b4:Nat) (b5:Nat),v4= .slice (some ⟨q.1,0,none⟩) 2 2/\v5=ptr b4 0/\v6=ptr b5 0/\L'=[wr,w3,W]/\H'=[(b5,.cells #[.slice none 0 0] 118 (0,0)),(b4,.cells (dg (λ_=>0)) 34 (0,0))]/\lu Z s lk q wr/\(q.1<wr.heap.size/\q.2.1<wr.heap.size/\q.2.2<wr.heap.size)/\(W.heap.size<=q.1/\W.heap.size<=q.2.1/\W.heap.size<=q.2.2)/\W.heap.size<=b4/\w3.heap.size<=b4/\W.heap.size<=b5/\w3.heap.size<=b5/\(q.1≠b4/\q.2.1≠b4/\q.2.2≠b4)/\(q.1≠b5/\q.2.1≠b5/\q.2.2≠b5)|_=>False) zT ⟨rfl,rfl⟩ zT zT zT zT zT zT rfl (qc Yl (qc Yl (qc Yl (qc Yl (qk (qk (qk (qn)))))))) ?_ ?_
 ·refine nc rfl rfl rfl rfl ?_ ?_
  ·intro cv L' H' hl hr hP F Q' hk;obtain⟨x4,x5,x6,rfl⟩:=fM hl;rcases x4 with _|v4<;>rcases x5 with _|v5<;>rcases x6 with _|v6
   ·obtain⟨rfl,rfl⟩:=hP;refine Ym ?_;rintro Wr q wr o6 LQ ⟨hg1,sZ,GN,jF,sO,rp⟩;try dsimp only at hg1 sZ GN jF sO rp
    have og:lu Z s lk q wr:=⟨jF,sO,rp⟩;have lE:(q.1<wr.heap.size/\q.2.1<wr.heap.size/\q.2.2<wr.heap.size):=⟨(aM.1 jF).1,(aM.1 sO).1,(aM.1 rp).1⟩;have mB:=(o6.links W A1).size;have mZ:W.heap.size<=q.1/\W.heap.size<=q.2.1/\W.heap.size<=q.2.2:=⟨by omega,by omega,by omega⟩;exact OJ.done (hk _ _ _ ⟨q,wr,rfl,rfl,rfl,og,lE,mZ⟩)
   ·obtain⟨b5,rfl,rfl,rfl,ry,sP⟩:=hP;refine Ym ?_;rintro Wr q wr o6 LQ ⟨hg1,sZ,GN,jF,sO,rp⟩;try dsimp only at hg1 sZ GN jF sO rp
    have og:lu Z s lk q wr:=⟨jF,sO,rp⟩;have lE:(q.1<wr.heap.size/\q.2.1<wr.heap.size/\q.2.2<wr.heap.size):=⟨(aM.1 jF).1,(aM.1 sO).1,(aM.1 rp).1⟩;have mB:=(o6.links W A1).size;have mZ:W.heap.size<=q.1/\W.heap.size<=q.2.1/\W.heap.size<=q.2.2:=⟨by omega,by omega,by omega⟩;have Hw:(q.1≠b5/\q.2.1≠b5/\q.2.2≠b5):=by have h9:=o6.lt (b5,_) A0;dsimp only at h9;exact⟨by omega,by omega,by omega⟩
    exact znl
   ·obtain⟨b4,rfl,rfl,rfl,rz,sQ⟩:=hP;refine Ym ?_;rintro Wr q wr o6 LQ ⟨hg1,sZ,GN,jF,sO,rp⟩;try dsimp only at hg1 sZ GN jF sO rp
    have og:lu Z s lk q wr:=⟨jF,sO,rp⟩;have lE:(q.1<wr.heap.size/\q.2.1<wr.heap.size/\q.2.2<wr.heap.size):=⟨(aM.1 jF).1,(aM.1 sO).1,(aM.1 rp).1⟩;have mB:=(o6.links W A1).size;have mZ:W.heap.size<=q.1/\W.heap.size<=q.2.1/\W.heap.size<=q.2.2:=⟨by omega,by omega,by omega⟩;have Hx:(q.1≠b4/\q.2.1≠b4/\q.2.2≠b4):=by have h9:=o6.lt (b4,_) A0;dsimp only at h9;exact⟨by omega,by omega,by omega⟩
    exact zol
   ·obtain⟨b4,b5,rfl,rfl,rfl,rfl,rz,sQ,ry,sP⟩:=hP;refine Ym ?_;rintro Wr q wr o6 LQ ⟨hg1,sZ,GN,jF,sO,rp⟩;try dsimp only at hg1 sZ GN jF sO rp
    have og:lu Z s lk q wr:=⟨jF,sO,rp⟩;have lE:(q.1<wr.heap.size/\q.2.1<wr.heap.size/\q.2.2<wr.heap.size):=⟨(aM.1 jF).1,(aM.1 sO).1,(aM.1 rp).1⟩;have mB:=(o6.links W A1).size;have mZ:W.heap.size<=q.1/\W.heap.size<=q.2.1/\W.heap.size<=q.2.2:=⟨by omega,by omega,by omega⟩;have Hx:(q.1≠b4/\q.2.1≠b4/\q.2.2≠b4):=by have h9:=o6.lt (b4,_) A1;dsimp only at h9;exact⟨by omega,by omega,by omega⟩
    have Hw:(q.1≠b5/\q.2.1≠b5/\q.2.2≠b5):=by have h9:=o6.lt (b5,_) A0;dsimp only at h9;exact⟨by omega,by omega,by omega⟩
    exact z7j
   ·exact aA
   ·exact aA
   ·exact aA
   exact aA
  refine nc rfl rfl rfl rfl ?_ ?_
  ·intro cv L' H' hl hr hP F Q' hk;obtain⟨x4,x5,x6,rfl⟩:=fM hl;rcases x4 with _|v4<;>rcases x5 with _|v5<;>rcases x6 with _|v6
   ·obtain⟨rfl,rfl⟩:=hP;refine rG ?_;intro b4 ha ho;have rz:W.heap.size<=b4:=ha.mem W z1;have sQ:w3.heap.size<=b4:=ha.mem w3 z1;exact OJ.done (hk _ _ _ ⟨b4,rfl,rfl,rfl,rz,sQ⟩)
   ·obtain⟨b5,rfl,rfl,rfl,ry,sP⟩:=hP;refine rG ?_;intro b4 ha ho;have rz:W.heap.size<=b4:=ha.mem W z1;have sQ:w3.heap.size<=b4:=ha.mem w3 z1;refine zCh ?_;exact OJ.done (hk _ _ _ ⟨b4,b5,rfl,rfl,rfl,rfl,rz,sQ,ry,sP⟩)
   ·exact aA
   ·exact aA
   ·obtain⟨q,wr,rfl,rfl,rfl,og,lE,mZ⟩:=hP;refine rG ?_;intro b4 ha ho;have rz:W.heap.size<=b4:=ha.mem W z1;have sQ:w3.heap.size<=b4:=ha.mem w3 z1;have Hx:(q.1≠b4/\q.2.1≠b4/\q.2.2≠b4):=by have h9:=ha.mem wr z1;exact⟨by omega,by omega,by omega⟩
    exact zol
   ·obtain⟨q,wr,b5,rfl,rfl,rfl,rfl,og,lE,mZ,ry,sP,Hw⟩:=hP;refine rG ?_;intro b4 ha ho;have rz:W.heap.size<=b4:=ha.mem W z1;have sQ:w3.heap.size<=b4:=ha.mem w3 z1;have Hx:(q.1≠b4/\q.2.1≠b4/\q.2.2≠b4):=by have h9:=ha.mem wr z1;exact⟨by omega,by omega,by omega⟩
    refine zCh ?_;exact z7j
   ·exact aA
   exact aA
  refine nc rfl rfl rfl rfl ?_ ?_
  ·intro cv L' H' hl hr hP F Q' hk;obtain⟨x4,x5,x6,rfl⟩:=fM hl;rcases x4 with _|v4<;>rcases x5 with _|v5<;>rcases x6 with _|v6
   ·obtain⟨rfl,rfl⟩:=hP;refine aU zeroValue118 rfl rfl ?_;intro b5 ha ho;have ry:W.heap.size<=b5:=ha.mem W z1;have sP:w3.heap.size<=b5:=ha.mem w3 z1;exact OJ.done (hk _ _ _ ⟨b5,rfl,rfl,rfl,ry,sP⟩)
   ·exact aA
   ·obtain⟨b4,rfl,rfl,rfl,rz,sQ⟩:=hP;refine aU zeroValue118 rfl rfl ?_;intro b5 ha ho;have ry:W.heap.size<=b5:=ha.mem W z1;have sP:w3.heap.size<=b5:=ha.mem w3 z1;exact OJ.done (hk _ _ _ ⟨b4,b5,rfl,rfl,rfl,rfl,rz,sQ,ry,sP⟩)
   ·exact aA
   ·obtain⟨q,wr,rfl,rfl,rfl,og,lE,mZ⟩:=hP;refine aU zeroValue118 rfl rfl ?_;intro b5 ha ho;have ry:W.heap.size<=b5:=ha.mem W z1;have sP:w3.heap.size<=b5:=ha.mem w3 z1;have Hw:(q.1≠b5/\q.2.1≠b5/\q.2.2≠b5):=by have h9:=ha.mem wr z1;exact⟨by omega,by omega,by omega⟩
    exact znl
   ·exact aA
   ·obtain⟨q,wr,b4,rfl,rfl,rfl,rfl,og,lE,mZ,rz,sQ,Hx⟩:=hP;refine aU zeroValue118 rfl rfl ?_;intro b5 ha ho;have ry:W.heap.size<=b5:=ha.mem W z1;have sP:w3.heap.size<=b5:=ha.mem w3 z1;have Hw:(q.1≠b5/\q.2.1≠b5/\q.2.2≠b5):=by have h9:=ha.mem wr z1;exact⟨by omega,by omega,by omega⟩
    exact z7j
   exact aA
  exact nn
 intro cv L' H' hl hr hP;obtain⟨x4,x5,x6,rfl⟩:=fM hl;rcases x4 with _|v4<;>rcases x5 with _|v5<;>rcases x6 with _|v6
 ·exact aA
 ·exact aA
 ·exact aA
 ·exact aA
 ·exact aA
 ·exact aA
 ·exact aA
 obtain⟨q,wr,b4,b5,rfl,rfl,rfl,rfl,rfl,og,lE,mZ,rz,sQ,ry,sP,Hx,Hw⟩:=hP;refine aZ (i:=1) rfl sizeOf34 rfl rfl rfl rfl rfl rfl ?_;refine aZ (i:=0) rfl sizeOf118 rfl rfl rfl rfl rfl rfl ?_;refine B 3 ?_;refine CJ.reH (H':=[(b5,.cells #[.slice (some ⟨q.1,0,none⟩) 2 2] 118 (0,0)),(b4,.cells (dg (iL Z lk)) 34 (0,0))]) rfl ?_;refine nVn [w3,W] (by intro v hv p hp;simp only[cP,fG,or_false]at hv hp;rcases hv with rfl|rfl<;>rcases hp with rfl|rfl<;>(dsimp only;omega)) z1 (λWb Nu=>?_);have eg:=Nu.own (b5,_) A0;have dm:=Nu.own (b4,_) A1;try dsimp only at dm eg
 have hxq:∀k,W.heap.size<=k->¬(cj hM (λ_=>False) (hI [] _)).X k:=λk hk=>by rintro(h|h);(have:=(hM _ h).1;omega);exact h.elim
 replace og:lu Z s lk q Wb:=⟨Nu.old A0 og.r (hxq _ mZ.1) xX,Nu.old A0 og.p (hxq _ mZ.2.1) xX,Nu.old A0 og.l (hxq _ mZ.2.2) xX⟩;have hzb:=(Nu.links W A2).size;have ahD:=(Nu.links w3 A1).size;refine B 1 ?_;refine rr (.agg (gw s)) (ag isAgg81 sizeOf81 rfl A2 aH aF trivial (aV rfl)) ?_;refine rr (.agg (lkC lk)) (ag isAgg84 sizeOf84 rfl A2 aR aY trivial (aV rfl)) ?_;refine vx (enc:=ai) (m:=1) (t:=3) (xs:=(iB s.pls lk.fo)) (v:=id) (first:=[]) (cap:=[]) rfl call40 rfl rfl rfl nr (λW9 hS=>nHk hZ s ho N W9 (aS hN (hS.links W A2).size) (hs.up (ao _) (λk hk=>hS.ro A2 (λ_ h=>h.elim) z7 (.inl hk) zM)) lk) ?_;intro W7 a7 c7 w7 hS7 hB7 iz pH;replace iz:ah encI 1 w7.heap.size w7 a7 (iB s.pls lk.fo):=iz;have Zs:=hB7.size;have Zt:=(hS7.links Wb A0).size;have ts:=nQl s.pls lk.fo;have hpl:=ho.pl;refine B 5 ?_;refine nfm (α:=((Nat×List Mk)×aB)×List (Gv×Fa)) (λp=>Sj p.1.1.2) (λp=>[(1,ptr b1 0),(2,ptr b2 0),(3,ptr b3 0),(4,ptr b4 0),(5,ptr b5 0),(17,.slice a7 (iB s.pls lk.fo).length c7),(18,.int .i64 ((iB s.pls lk.fo).length:Int)),(19,.int .i64 (p.1.1.1:Int))]) (λp=>jP p.1.1.2) (λp=>[w7,Wb,w3,W]) (λp=>cj hM p.1.2 (hI p.2 p.1.2)) (λp=>p.1.1.1<=(iB s.pls lk.fo).length/\uB w7.heap.size p.1.1.2/\(∀j,p.1.2 j->w7.heap.size<=j)/\p.2.map rn=xz Z s lk ((iB s.pls lk.fo).take p.1.1.1)/\p.2.length<=p.1.1.1*1000) (λp=>(iB s.pls lk.fo).length-p.1.1.1) (((0,[]),λ_=>False),[]) ⟨cZ _,n4l _,λ_ h=>h.elim,rfl,cZ _⟩ zR rfl rfl z1 rfl ?_
 rintro⟨⟨⟨i,ms⟩,V0⟩,yd⟩ ⟨hi,ri,pK,JP,Q2⟩;dsimp only at hi ri pK JP Q2 ⊢;have Eb:∀k,sN N b1 b2 k\/W.heap.size<=k->k<w7.heap.size->¬(cj hM V0 (hI yd V0)).X k:=by
  rintro k h1 h2 (h|h)
  ·rcases h1 with h1|h1
   ·exact(hM _ h).2.2 h1
   have:=(hM _ h).1;omega
  have:=pK _ h;omega
 refine B 6 ?_;refine aK ?_ ?_
 ·intro aj;refine B 5 ?_;obtain⟨bo,oo,cs0,to,fp,rfl,ft,hcs,ar⟩:=iz.get zM;obtain⟨df,hx⟩:=nk (iB s.pls lk.fo) i zM;refine B 2 ?_;refine rv rfl rfl rfl (aa (v:=.int .i64 df) isAgg3 rfl A0 hcs (Eb bo (.inr (by have:=pH _ rfl;dsimp only at this;omega)) ft) (Sk ri ft) (vE ar hx rfl 0 zQ)) ?_;refine B 5 ?_;refine rr (.agg (gw s)) (ag isAgg81 sizeOf81 rfl A3 aH (Eb b2 (.inl (.inr (.inr rfl))) zM) (Sk ri zM) (aV rfl)) ?_;refine B 1 ?_;refine nu (α:=Nat×Nat) (v:=λq:Nat×Nat=>.func (.func 83) #[] #[ptr q.1 0,ptr q.2 0]) (Φ:=λW q w1=>W.heap.size<=q.1/\W.heap.size<=q.2/\w1.heap[q.1]? =some (.cells (gw s) 81 (0,0))/\w1.heap[q.2]? =some (.cells #[.int .i64 df] 3 (0,0))) call41 rfl rfl rfl (λW hS=>nvg s df W) ?_;rintro Wn q0 wn jc o7 ⟨eN,eQ,du,fu⟩;try dsimp only at eN eQ du fu
  have sf:=(aM.1 du).1;have sh:=(aM.1 fu).1;have DW:=o7.size;have ahE:=(jc.links W A3).size;have ahF:=(jc.links w7 A0).size;have hVk:∀j,V0 j->j<Wn.heap.size:=λj hj=>jc.xlt j (.inr hj);have AA:∀j,Wn.heap.size<=j->j∉(jP ms).map (·.1)/\¬(cj hM V0 (hI yd V0)).X j:=λj hj=>⟨λhm=>by obtain⟨p,hp,e⟩:=bU.1 hm;have:=jc.lt p hp;omega,λhx=>by rcases hx with hx|hx;(have:=(hM _ hx).1;omega);(have:=hVk _ hx;omega)⟩;have si:∀j,sN N q0.1 q0.2 j->j<wn.heap.size/\j∉(jP ms).map (·.1)/\¬(cj hM V0 (hI yd V0)).X j:=by
   intro j hj;rcases hj with hj|rfl|rfl
   ·exact⟨by omega,λhm=>by obtain⟨p,hp,e⟩:=bU.1 hm;have:=FZ ri p hp;omega,Eb j (.inl (.inl hj)) zM⟩
   ·exact⟨sf,AA _ eN⟩
   exact⟨sh,AA _ eQ⟩
  refine B 3 ?_;refine CJ.range3 (f:=83) (cap:=[ptr q0.1 0,ptr q0.2 0]) (α:=Gv) (enc:=(λg:Gv=>[.agg (aX g)])) (Pre:=(λ(p:List Gv) (Y:aB) (A:World)=>(p.map (·.g) <+:po Z s df/\p.length<=1000)/\∀e∈p,aL A.heap.size A e/\dp Y e)) (Fin:=(λ(p:List Gv) (_:aB) (_:World)=>p.map (·.g)=po Z s df/\p.length<=1000)) (RO:=sN N q0.1 q0.2) (MI:=λ_=>False) rfl call83 (λW' W2 hS hB=>by have l1:=(hS.links wn A0).size;have l2:=(hS.links W A4).size;have sm:∀k,k<N->W2.heap[k]? =W.heap[k]? :=λk hk=>(hB.block k zM).trans (hS.blk A4 zM (si k (.inl hk)).2.2 (bE.of_mem (si k (.inl hk)).2.1));exact nJh hZ s ho N df q0.1 q0.2 W2 (aS zM hB.size) hNg (hs.up (ao _) sm) (hg.up (λk hk=>sm k zM)) (by rw[hB.block q0.1 zM];exact hS.old A0 du (si _ (.inr (.inl rfl))).2.2 (bE.of_mem (si _ (.inr (.inl rfl))).2.1)) (by rw[hB.block q0.2 zM];exact hS.old A0 fu (si _ (.inr (.inr rfl))).2.2 (bE.of_mem (si _ (.inr (.inr rfl))).2.1))) (λ_ _ _ hk=>hk.elim) (λW' hS j hj=>⟨by have:=(si j hj).1;have:=(hS.links wn A0).size;omega,(si j hj).2⟩) (λ_=>rfl) (λpre G' Hc=>∃(V1:aB) (ys:List (Gv×Fa)),(∀j,V0 j->V1 j)/\(∀j,V1 j->V0 j\/w7.heap.size<=j)/\ys.map rn=(pre.map (·.g)).filterMap (qN Z s lk)/\ys.length<=pre.length/\G'=cj hM V1 (hI (yd++ys) V1)/\Hc=jP ms) (λc G' Hc=>c= .ret/\∃V1:aB,(∀j,V1 j->W.heap.size<=j)/\G'=cj hM V1 (hX V1)/\Hc=jP ms) ⟨V0,[],λ_ h=>h,λ_ h=>.inl h,rfl,cZ _,by rw[dE],rfl⟩ zQ ?_ ?_ ?_
  ·rintro pre x G' Hc l Dk rec W1 M V Wy jX ov dU ⟨V1,ys,DT,vC,oS,IA,rfl,rfl⟩ dr fK Dh oL bj th;simp only[ad]at dr oL;have LA:∀j,V1 j->W.heap.size<=j:=λj hj=>by rcases vC j hj with h|h;(have:=pK j h;omega);omega
   have Nv:∀k,sN N b1 b2 k\/W.heap.size<=k->k<w7.heap.size->¬((cj hM V1 (hI (yd++ys) V1)).ext λk=>M k\/V k).X k:=λk h1 h2=>bj.z zM (Eb k h1 h2) (λhm=>by obtain⟨p,hp,e⟩:=bU.1 hm;have:=FZ ri p hp;omega) (by rintro(h|h);(rcases h1 with h1|h1;(exact(hM _ h).2.2 h1);(have:=(hM _ h).1;omega));(rcases vC _ h with h|h;(have:=pK _ h;omega);omega));have tE:=dU.2 x (cO.2 (.inr A0));have Eh:dp ((cj hM V1 (hI (yd++ys) V1)).ext λk=>M k\/V k).X x:=⟨λq e=>(tE.2.1 q e).imp id (λh1 h2=>h1 (h2.elim (bj.loc.x _) id)),λq e=>(tE.2.2 q e).imp id (λh1 h2=>h1 (h2.elim (bj.loc.x _) id))⟩;have hzy:=(th.links w7 A1).size;refine B 1 ?_;refine rj ?_;refine yW ?_;intro b8 wt wu;refine Jm ?_;refine B 1 ?_;refine PJ.reH (H':=book ([(b8,.cells (aX x) 57 (0,0))]++jP ms) l rec (bQ Dk)) rfl ?_;have pb:∀k,k<w7.heap.size->bE (book ([(b8,.cells (aX x) 57 (0,0))]++jP ms) l {rec with state:=.busy} (bQ Dk)) k:=λk hk=>by unfold book;rw[ne];exact⟨⟨by dsimp only;omega,Sk ri hk⟩,by simp only[bQ,bE,and_true];omega⟩
   have JJ:∀p∈book ([(b8,.cells (aX x) 57 (0,0))]++jP ms) l {rec with state:=.busy} (bQ Dk),mE p.1 x:=by
    intro p hp;simp only[book,bQ,eY,dX,cP,cO,fG,or_false]at hp;rcases hp with rfl|hp|rfl|rfl
    ·exact tE.1.off dL
    ·exact tE.2.off (bj.loc.h p hp)
    ·exact tE.2.off (.inl (bj.m' _ (.inr fK)))
    exact tE.2.off (.inl (bj.m' _ (.inl rfl)))
   refine Pb jX ?_;refine B 5 ?_;refine rr (.slice s.xa s.fas.length s.xc) (aa isAgg28 rfl A5 aH (Nv b2 (.inl (.inr (.inr rfl))) zM) (pb b2 zM) rfl) ?_;refine B 1 ?_;refine nu (α:=Int) (v:=λi:Int=>.int .i64 i) (Φ:=λ_ i _=>cR (λf:Fa=>kE Z (db Z s.lks lk) (iL Z lk) x.g f) s.fas i) call42 rfl rfl rfl (λW9 hS=>by
    have l9:=(hS.links W A5).size;have sm:∀k,k<N->W9.heap[k]? =W.heap[k]? :=λk hk=>hS.blk A5 zM (Nv k (.inl (.inl hk)) zM) (pb k zM);have sb:∀k o,W.heap.size<=k->Wb.heap[k]? =some o->W9.heap[k]? =some o:=λk o hk h=>by have h8:=(aM.1 h).1;exact(hS.blk A3 h8 (Nv k (.inr hk) zM) (pb k zM)).trans h
    have hR:PL Z s lk x b4 b8 b5 W9:=⟨tE.1.toZ hS A0 (ao _) Eh JJ,hg.up (λk hk=>sm k zM),sb _ _ rz dm,hS.own (b8,_) A0,q,sb _ _ ry eg,sb _ _ mZ.1 og.r,sb _ _ mZ.2.1 og.p,sb _ _ mZ.2.2 og.l⟩;exact nxl (λf:Fa=>kE Z (db Z s.lks lk) (iL Z lk) x.g f) 43 [ptr b4 0,ptr b8 0,ptr b5 0] call43 s.fas (by have:=ho.xl;omega) N s.xa s.xc W9 (aS hN l9) (hs.fx.up (ao _) sm) (λj y hy W2 hB=>(hR.bel hB).call hZ y (ho.xo y (cC hy)))) ?_
   intro Wi i2 wi sj sk DI;refine B 4 ?_;rcases DI with⟨rfl,ie⟩|⟨kf,y,rfl,rD,hpy,fm⟩
   ·have h1:=Ns ie;refine zvf ?_;refine nl 19 [.det [] _,.det [0] _,.det [1] _,.det [2] undef,.det [2,3] undef,.det [2] undef,.det [2,5] undef,.det [2,6] undef,.det [2,4,7] undef,.det [2,8] _,.det [9] _,.det [10] undef,.det [10] undef,.det [10] undef,.det [10,13] undef,.det [10,14] undef,.det [10] undef,.det [10,15,16] undef,.det [10,17] undef] zT (xc zO (xc Uj (xc zO (xc zN (xc zN (xc zN (xc zN (xc zN (xc zN (xc z8 (xc zO (xc zN (xc zN (xc zN (xc zN (xc zN (xc zN (xc zN (xc zN (xn)))))))))))))))))))) zT zT zT (λab=>?_);exact zhl
   by_cases hep:x.g.epoch<=lk.exp
   ·have h1:=Ht rD hpy fm hep;obtain⟨bf,of,csf,tf,frf,jC,hbf,Cy,sR⟩:=hs.fx.get (by have:=nE rD;omega);have lD:=nE rD;refine zvf ?_;refine nl 19 [.det [] _,.det [0] _,.det [1] _,.det [2] _,.det [2,3] _,.det [2] _,.det [2,5] _,.det [2,6] _,.det [2,4,7] _,.det [2,8] _,.det [9] _,.det [10] _,.det [10] _,.det [10] _,.det [10,13] _,.det [10,14] _,.det [10] _,.det [10,15,16] _,.det [10,17] _] zT (xc zO (xc M9 (xc zO (xc yj (xc z4d (xc qq (xc rQ (xc zPd (xc zVd (xc z6 (xc zO (xc (by exact λab=>X.val rfl rfl (aa (v:=yv l0) isAgg117 rfl A5 aC (Nv b3 (.inr zM) zM) (pb b3 zM) rfl) (λ_ _=>rfl)) (xc (by exact λab=>X.val rfl rfl (RV.re (v':=.agg (aX x)) (aP (i:=0) rfl isAgg57 sizeOf57 rfl rfl) (rfl)) (λ_ _=>rfl)) (xc (by exact λab=>X.val rfl rfl (ak underlying81 rfl sizeOf31 rfl) (λ_ _=>rfl)) (xc Yn (xc (by exact λab=>X.val rfl rfl (RV.re (v':=.slice (some ⟨bf,of,none⟩) s.fas.length s.xc) (aa isAgg28 rfl A6 aH (Nv b2 (.inl (.inr (.inr rfl))) zM) (pb b2 zM) rfl) JG) (λ_ _=>rfl)) (xc zO (xc Yo (xc (by exact λab=>X.val rfl rfl (RV.re (v':=.agg (gY y)) (ag isAgg59 sizeOf59 rfl A6 Cy (Nv bf (.inl (.inl hbf)) zM) (pb bf zM) (ni sR rD rfl)) (va (np sR rD rfl))) (λ_ _=>rfl)) (xn)))))))))))))))))))) zT zT zT (λab=>?_);refine LB (λj=>M j\/V j) (λG=>G.ext λj=>M j\/V j) (I2 _) (V:=V1) (λV=>hI ((yd++ys)++[(x,y)]) V) hX LA rfl rfl rfl rfl (λW1 rW kI=>hy (yd++ys) (x,y) V1 W1 ⟨Nt JP oS hx dU.1.1 h1,by have h9:=dU.1.2;have h8:=nQl s.pls lk.fo;have h7:=ho.pl;simp only[cF,dW,lC]at h9 ⊢;omega⟩ rW kI) ?_ ?_
    ·intro V2 vD qA;have lb:=qA Wy A1;have xd:∀j,V2 j->V0 j\/w7.heap.size<=j:=λj hj=>by rcases lb j hj with h|h;exact vC j h;exact .inr (by have:=(th.links w7 A1).size;omega)
     try dsimp only
     refine B 7 ?_;refine zNh ?_;refine mx ?_;refine DM (G2:=cj hM V2 (hI ((yd++ys)++[(x,y)]) V2)) (Hc2:=jP ms) bj fK ⟨(λj h=>h.imp id (λh=>vD j (DT j h))),(λj h=>h.elim (λh=>.inl (.inl h)) (λh=>(lb j h).imp .inr id)),(λj h=>h.elim (λh=>.inl (.inl h)) (λh=>(lb j h).imp .inr id)),(λp hp=>.inl (bU.2 ⟨p,hp,rfl⟩)),(λp hp=>.inl (bU.2 ⟨p,hp,rfl⟩))⟩ (DN jX ov) ?_;exact⟨V2,ys++[(x,y)],λj h=>vD j (DT j h),xd,ndn oS h1,by simp only[cF,dW,lC];omega,by rw[i7],rfl⟩
    intro V2 vD qA;have lb:=qA Wy A1;have xd:∀j,V2 j->V0 j\/w7.heap.size<=j:=λj hj=>by rcases lb j hj with h|h;exact vC j h;exact .inr (by have:=(th.links w7 A1).size;omega)
    try dsimp only
    refine B 7 ?_;refine zNh ?_;refine mx ?_;exact zNk
   have h1:=Cw rD hpy fm hep;refine zvf ?_;refine nl 19 [.det [] _,.det [0] _,.det [1] _,.det [2] _,.det [2,3] _,.det [2] _,.det [2,5] _,.det [2,6] _,.det [2,4,7] _,.det [2,8] _,.det [9] _,.det [10] undef,.det [10] undef,.det [10] undef,.det [10,13] undef,.det [10,14] undef,.det [10] undef,.det [10,15,16] undef,.det [10,17] undef] zT (xc zO (xc M9 (xc zO (xc yj (xc z4d (xc qq (xc rQ (xc zPd (xc zud (xc z6 (xc zO (xc zN (xc zN (xc zN (xc zN (xc zN (xc zN (xc zN (xc zN (xn)))))))))))))))))))) zT zT zT (λab=>?_);exact zhl
  ·rintro im l Dk rec G' Hc Zf Wd ⟨bZ,ahG⟩ hZf dr fK ⟨V1,ys,DT,vC,oS,IA,rfl,rfl⟩;replace dr:=yb dr;refine B 7 ?_;refine PJ.perm (WX l Dk rec ms []) ?_;refine n7j (((i+1,(l,rec,Dk)::ms),V1),yd++ys) ⟨by dsimp only;omega,WW dr.2.1 zM ri,λj hj=>(vC j hj).elim (pK j) id,Hv JP oS hx bZ,by dsimp only;rw[cF];omega⟩ dL zR rfl rfl z1 rfl
  rintro l Dk rec c G' Hc dr fK ⟨rfl,V1,LA,rfl,rfl⟩;replace dr:=yb dr;refine CJ.perm (WX l Dk rec ms []) ?_;refine B 6 ?_;exact Lz (ms:=(l,rec,Dk)::ms) (H0:=[]) (.inl rfl) results38 A4 LA (by intro j hj hx;obtain⟨p,hp,e⟩:=bU.1 hx;have:=FZ (n:=w7.heap.size) (ms:=(l,rec,Dk)::ms) (WW dr.2.1 zM ri) p hp;omega) (λA hA=>.inr hA)
 intro aj;refine B 4 ?_;exact Lz (ms:=ms) (H0:=[]) (.inr rfl) results38 A3 (λj hj=>by have:=pK j hj;omega) (by intro j hj hx;obtain⟨p,hp,e⟩:=bU.1 hx;have:=FZ (n:=w7.heap.size) (ms:=ms) ri p hp;omega) (λA hA=>.inl ⟨yd,⟨by rw[JP,show i=(iB s.pls lk.fo).length by omega,IS];rfl,by omega⟩,hA⟩)

theorem nqi(hZ:FxOk Z)(s:Sc)(ho:fh s)(N:Nat)(w:World)(hN:N<=w.heap.size)(hs:dP N w s)(lk:Lk)(hlk:cT lk)(hg:Glb w):Calls prog 9 #[.agg (rdA s),.slice s.pa s.pls.length s.pc,.agg (lkC lk)] w (av w (.bool (dw Z s 256 lk))):=by
 have eC:=hg.lt;refine enter (vs:=[_,_,_]) func9 rfl ntmps9 rfl ?_;refine B 2 ?_;refine yX ?_;intro b3 w3 aC ay cS bV cL;refine yX ?_;intro b5 w5 eg eP mv gQ gR;refine B 5 ?_;refine Yp ?_;refine B 1 ?_;refine zeg ?_;refine rv rfl rfl rfl (af isAgg38 sizeOf38 rfl A0 eg eP trivial rfl) ?_;refine rr (.agg (lkC lk)) (bS underlying84 zeroValue84 (bC.c sizeOf38 (bC.n)) rfl rfl) ?_;refine call (v:=.bool (dw Z s 256 lk)) call19 rfl rfl rfl (λW hS=>nSd hZ s ho N 256 (ao _) lk W hlk (aS hN (hS.links w A2).size) (hs.up (ao _) (hS.same A2 hN zU trivial)) (hg.old hS A2 zU trivial)) ?_;refine B 4 ?_;refine ax results9 rfl A2 ?_;rfl
noncomputable def fA (Z:Fx) (s:Sc) (lk:Lk):List Dk:=if dw Z s 256 lk=true then(Hs Z s lk).map (λp=>dk p.1.last)else[]
def pq (pre:List (Gv×Fa)):List Dk:=pre.map λe=>dk e.1.g.last
theorem n9l(pre:List (Gv×Fa))(x:Gv×Fa):pq (pre++[x])=pq pre++[dk x.1.g.last]:=by simp[pq]
theorem nAn(pre:List (Gv×Fa)):(pq pre).length=pre.length:=by simp[pq]
theorem npj{pre:List (Gv×Fa)}(h:pre.map rn=Hs Z s lk)(ha:dw Z s 256 lk=true):pq pre=fA Z s lk:=by
 unfold fA;rw[if_pos ha,<-h,List.map_map];rfl
theorem Uy{fn:Func}{Dk t4 T4 b4 TZ:Nat}{v4:Value}{e:Exit}(he:e= .ret\/e= .normal)(hr:fn.results=#[.cell t4 T4])(KV:fq C.P T4 false)(T0:look E t4=some (ptr b4 0))(hm:(Dk,.deferred (some []))∈H)(dm:(b4,.cells Jq TZ Tw)∈H)(n4:b4≠Dk)(T3:Jq[0]? =some v4)(h:∀W H',St G L H' W->H'.map (·.1)=H.map (·.1)->(∀p∈H,p.1≠Dk->p∈H')->R (.returned v4) W):PJ C (bodyPostM (FW none) 0 C.P fn R) e E [er Dk] G L H:=
 uk he hm λa W H' hF hS bY bO=>by
  obtain⟨i,hi⟩:=jL.1 (bY _ dm n4);exact⟨_,(RS.w (C:=C) hi KV T0 T3 RS.n).res hr hF hS,h W H' hS bO bY⟩
theorem n9i(hZ:FxOk Z)(s:Sc)(ho:fh s)(N:Nat)(w:World)(hN:N<=w.heap.size)(hs:dP N w s)(lk:Lk)(hlk:cT lk)(hg:Glb w)(pr:dw Z s 256 lk=false):Calls prog 8 #[.agg (rdA s),.slice s.pa s.pls.length s.pc,.agg (lkC lk)] w (cu w (λq:Option Addr×Nat=>.slice q.1 (fA Z s lk).length q.2) (λq w1=>ah (λx=>(eH x).toArray) 32 w1.heap.size w1 q.1 (fA Z s lk)/\(∀p,q.1=some p->w.heap.size<=p.block)/\(fA Z s lk).length<=20000)):=by
 have eC:=hg.lt;have uS:fA Z s lk=[]:=by unfold fA;rw[if_neg (by rw[pr];decide)]
 refine enter (vs:=[_,_,_]) func8 rfl ntmps8 rfl ?_;refine B 2 ?_;refine yX ?_;intro b3 w3 aC ay cS bV cL;refine yX ?_;intro b5 w5 eg eP mv gQ gR;refine aU zeroValue41 rfl rfl ?_;refine yW ?_;intro b6 gS lB;refine B 4 ?_;refine z3h ?_;refine B 1 ?_;refine zeg ?_;refine aU zeroValue81 rfl rfl ?_;refine yW ?_;intro b7 gg ow;refine zeh ?_;refine B 5 ?_;refine zZe ?_;refine call (v:=.bool false) call19 rfl rfl rfl (λW hS=>by have h9:=nSd hZ s ho N 256 (ao _) lk W hlk (aS hN (hS.links w A2).size) (hs.up (ao _) (hS.same A2 hN zU Du)) (hg.old hS A2 zU Du);rwa[pr]at h9) ?_;refine B 6 ?_;refine aZ (i:=1) rfl sizeOf41 rfl rfl rfl rfl rfl rfl ?_;refine B 4 ?_;exact bH (.inl rfl) results8 (RS.w (i:=1) rfl isAgg41 rfl rfl RS.n) λW hS=>⟨((none:Option Addr),0),by rw[uS];rfl,hS.base A2 Du,by rw[uS];exact .inl rfl,(λp h=>by cases h),by rw[uS];exact cZ _⟩
theorem n7h(hZ:FxOk Z)(s:Sc)(ho:fh s)(N:Nat)(w:World)(hN:N<=w.heap.size)(hs:dP N w s)(lk:Lk)(hlk:cT lk)(hg:Glb w)(pr:dw Z s 256 lk=true):Calls prog 8 #[.agg (rdA s),.slice s.pa s.pls.length s.pc,.agg (lkC lk)] w (cu w (λq:Option Addr×Nat=>.slice q.1 (fA Z s lk).length q.2) (λq w1=>ah (λx=>(eH x).toArray) 32 w1.heap.size w1 q.1 (fA Z s lk)/\(∀p,q.1=some p->w.heap.size<=p.block)/\(fA Z s lk).length<=20000)):=by
 have eC:=hg.lt;refine xK Gh.no [] (vs:=[_,_,_]) func8 rfl ntmps8 rfl (u7 w) ?_;refine B 2 ?_;refine yX ?_;intro b3 w3 aC ay cS bV cL;refine yX ?_;intro b5 w5 eg eP mv gQ gR;refine aU zeroValue41 rfl rfl ?_;refine yW ?_;intro b6 gS lB;refine B 4 ?_;refine z3h ?_;refine B 1 ?_;refine zeg ?_;refine aU zeroValue81 rfl rfl ?_;refine yW ?_;intro b7 gg ow;refine zeh ?_;refine B 5 ?_;refine zZe ?_;refine call (v:=.bool true) call19 rfl rfl rfl (λW hS=>by have h9:=nSd hZ s ho N 256 (ao _) lk W hlk (aS hN (hS.links w A2).size) (hs.up (ao _) (hS.same A2 hN zU Du)) (hg.old hS A2 zU Du);rwa[pr]at h9) ?_;refine B 9 ?_;refine zZe ?_;refine nu (α:=Nat×Nat) (v:=λq:Nat×Nat=>.func (.func 38) #[] #[ptr q.1 0,ptr q.2 0]) (Φ:=λW q w1=>W.heap.size<=q.1/\W.heap.size<=q.2/\w1.heap[q.1]? =some (.cells (lkC lk) 84 (0,0))/\w1.heap[q.2]? =some (.cells (gw s) 81 (0,0))) call20 rfl rfl rfl (λW hS=>nkk s lk W) ?_;rintro Wn q wn jc o7 ⟨eN,eQ,du,fu⟩;try dsimp only at eN eQ du fu
 have sf:=(aM.1 du).1;have sh:=(aM.1 fu).1;have DW:=o7.size;have aes:=(jc.links w A2).size;refine B 3 ?_;have lb6:=jc.lt (b6,_) A1;have lb7:=jc.lt (b7,_) A0;try dsimp only at lb6 lb7
 refine CJ.reH (H':=[(b7,.cells (gw s) 81 (0,0)),(b6,.cells #[.slice none 0 0] 41 (0,0))]) rfl ?_;refine CJ.range2 (f:=38) (cap:=[ptr q.1 0,ptr q.2 0]) (α:=Gv×Fa) (enc:=(λe:Gv×Fa=>[.agg (aX e.1),.agg (gY e.2)])) (Pre:=(λp:List (Gv×Fa)=>p.map rn <+:Hs Z s lk/\p.length<=20000)) (Fin:=(λp:List (Gv×Fa)=>p.map rn=Hs Z s lk/\p.length<=20000)) (RO:=sN w.heap.size q.1 q.2) (MI:=λ_=>False) rfl call38 (λW' W2 hS hB=>by have l1:=(hS.links wn A0).size;exact nEl hZ s ho w.heap.size lk hlk q.1 q.2 W2 (aS zM hB.size) eC ((hs.up hN (hS.same A3 hN zU Du)).up (ao _) (λk hk=>hB.block k zM)) ((hg.old hS A3 zU Du).bel hB) SJ SK) (λ_ _ _ hk=>hk.elim) (λW' hS k hk=>by have l1:=(hS.links wn A0).size;simp only[eE,iD,cP,fG,or_false];rcases hk with hk|rfl|rfl<;>exact⟨by omega,by omega,λh=>h⟩) (λ_=>rfl) (λpre G' Hc=>G'=Gh.no/\∃r1:Rw,r1.Fr Gh.no [wn,w5,w3,w]/\r1.Fit 32 (pq pre)/\Hc=[(b7,.cells (gw s) 81 (0,0)),(b6,.cells #[r1.val (pq pre).length] 41 (0,0))]++(r1.hp eH 34 (pq pre)++[])) (λ_ _ _=>False) ⟨rfl,.nil,True.intro,rfl,rfl⟩ zQ ?_ ?_ ?_
 ·rintro pre x G' Hc l Dk rec W1 M V Wy jX ov dU ⟨rfl,r1,jo,ew,rfl⟩ dr fK Dh oL bj th;simp only[ad]at dr oL;have iq:r1.ge wn.heap.size:=Rw.ge_of jo A0;have hpl:(pre++[x]).length<=20000:=dU.2;simp only[cF,dW,lC]at hpl;have Hp:∀p∈r1.hp eH 34 (pq pre),M p.1\/V p.1:=λp hp=>bj.loc.h p RR;refine B 1 ?_;refine rj ?_;refine yW ?_;intro b8 wt wu;refine Jm ?_;refine B 1 ?_;refine PJ.reH (H':=book ([(b8,.cells (aX x.1) 57 (0,0))]++([(b7,.cells (gw s) 81 (0,0)),(b6,.cells #[r1.val (pq pre).length] 41 (0,0))]++(r1.hp eH 34 (pq pre)++[]))) l rec (bQ Dk)) rfl ?_;refine Pb jX ?_;refine B 2 ?_;refine rr (r1.val (pq pre).length) (aO (i:=2) rfl isAgg41 rfl rfl) ?_;refine B 1 ?_;refine rr (.agg (dg x.1.g.last)) (de (i:=0) rfl isAgg34 sizeOf34 rfl (aV rfl)) ?_;refine zvh ?_;refine yW ?_;intro gm iT ahH;refine oY (r:=r1) (xs:=(pq pre)) (zs:=[(dk x.1.g.last)]) (enc:=eH) (m:=32) (H0:=[(gm,.cells (dg x.1.g.last) 34 (0,0)),(b8,.cells (aX x.1) 57 (0,0)),(b7,.cells (gw s) 81 (0,0)),(b6,.cells #[r1.val (pq pre).length] 41 (0,0))]) (H1:=(l,.loop {rec with state:=.busy})::bQ Dk) wQ nnm Jp rfl rfl rfl rfl (dt.one (z:=dk x.1.g.last) Jp n3h underlying41 (bL.own (i:=0) rfl)) ew (Rw.Fr_ext Hp) z1 (by rw[nAn];simp only[dW,lC];omega) ?_
  intro ix ey eV iU ez;replace iU:=yb iU;refine aZ (i:=3) rfl sizeOf41 rfl rfl rfl rfl rfl rfl ?_;refine B 2 ?_;refine FI ?_;refine DM (G2:=Gh.no) (Hc2:=[(b7,.cells (gw s) 81 (0,0)),(b6,.cells #[(Rw.row ix ey eV).val (pq pre++[dk x.1.g.last]).length] 41 (0,0))]++((Rw.row ix ey eV).hp eH 34 (pq pre++[dk x.1.g.last])++[])) bj fK ⟨λ_ h=>h,λ_ h=>.inl h,λ_ h=>.inl h,(WJ rfl (iU.imp id (λh=>h.1))),zre⟩ (DN jX ov) ?_;exact⟨rfl,.row ix ey eV,iU.elim (λh=>Rw.Fr_at jo h) (λh=>.inr h.2),by rw[n9l];exact ez,by rw[n9l]⟩
 ·rintro im l Dk rec G' Hc ⟨bZ,ts⟩ dr fK ⟨rfl,r1,jo,ew,rfl⟩;replace dr:=yb dr;have iq:r1.ge wn.heap.size:=Rw.ge_of jo A0;refine O1 λWd pB=>?_;have kG:=Lc pB;refine B 4 ?_;refine rr (r1.val (pq im).length) (aO (i:=1) rfl isAgg41 rfl rfl) ?_;refine aZ (i:=1) rfl sizeOf41 rfl rfl rfl (Rw.val_size _ _) rfl (Rw.val_one _ _) ?_;refine B 3 ?_;refine PJ.reH (H':=book ([(b7,.cells (gw s) 81 (0,0)),(b6,.cells #[r1.val (pq im).length] 41 (0,0))]++(r1.hp eH 34 (pq im)++[])) l rec (bQ Dk)) (by simp[book];exact Rw.val_cells _ _) ?_;refine Uy (.inl rfl) results8 isAgg41 rfl xL A1 (kG _ A1).1 rfl (λW H' hS bO bY=>?_);have BI:r1.At eH 34 (pq im) W:=by
   exact zPk
  obtain⟨a1,c1,rV,BJ⟩:=Rw.sl Jp ew BI (ao W.heap.size);refine⟨(a1,c1),?_,?_,?_,Rw.val_new (Rw.ge_mono iq zM) rV,by rw[<-npj bZ pr,nAn];exact ts⟩
  ·rw[<-npj bZ pr];exact congrArg Ending.returned rV
  ·exact(hS.links w A3).below (λk hk hx=>by rcases hx with hx|hx;(exact hx);rw[bO]at hx;simp only[book,gj,eE,iD,cO,cP,fG,or_false]at hx;rcases hx with((hx|hx)|hx)|hx|hx<;>first|omega|(have:=Rw.mem_ge iq hx;omega))
  rw[<-npj bZ pr];exact BJ
 exact RT
theorem nNg(hZ:FxOk Z)(s:Sc)(ho:fh s)(N:Nat)(w:World)(hN:N<=w.heap.size)(hs:dP N w s)(lk:Lk)(hlk:cT lk)(hg:Glb w):Calls prog 8 #[.agg (rdA s),.slice s.pa s.pls.length s.pc,.agg (lkC lk)] w (cu w (λq:Option Addr×Nat=>.slice q.1 (fA Z s lk).length q.2) (λq w1=>ah (λx=>(eH x).toArray) 32 w1.heap.size w1 q.1 (fA Z s lk)/\(∀p,q.1=some p->w.heap.size<=p.block)/\(fA Z s lk).length<=20000)):=by
 cases pr:dw Z s 256 lk with
 |true=>exact n7h hZ s ho N w hN hs lk hlk hg pr
 |false=>exact n9i hZ s ho N w hN hs lk hlk hg pr
theorem Hy{p:Gp×Fa}(h:p∈Hs Z s lk):∃d∈iB s.pls lk.fo,p.1∈po Z s d/\p.2∈s.fas/\kE Z (db Z s.lks lk) (iL Z lk) p.1 p.2=true/\p.1.epoch<=lk.exp:=by
 unfold Hs xz at h;obtain⟨d,hd,h⟩:=OP.1 h;obtain⟨g,hg,h⟩:=List.mem_filterMap.1 h;unfold qN at h;cases hf:s.fas.find? (λf:Fa=>kE Z (db Z s.lks lk) (iL Z lk) g f)with
 |none=>rw[hf]at h;cases h
 |some f=>
  rw[hf]at h;have h1:=List.mem_of_find?_eq_some hf;have h2:=List.find?_some hf;dsimp only at h;split at h
  ·rename_i he;cases h
   exact⟨d,hd,hg,h1,h2,he⟩
  cases h
def pv (c:Cm):Bool:=c.bxs.all (λx=>decide (x.w.body.length<=200))&&c.wes.all (λx=>decide (x.w.body.length<=200))&&decide (c.chs.length<=10)&&decide (c.path.length<=12)&&decide (c.bxs.length<=40)&&decide (c.wes.length<=10)
theorem n0h{α:Type}{f:α->Bool}{xs:List α}{x:α}(h:(xs.take j).all f=true)(hx:xs[j]? =some x)(hf:f x=true):(xs.take (j+1)).all f=true:=by rw[nz hx,List.all_append,h];simp[hf]
theorem nyj{α:Type}{f:α->Bool}{xs:List α}(h:(xs.take j).all f=true)(hj:¬j<xs.length):xs.all f=true:=by rw[iZ zM]at h;exact h
theorem nYb{α:Type}{f:α->Bool}{xs:List α}{x:α}(hx:xs[j]? =some x)(hf:f x=false):xs.all f=false:=by
 rw[Bool.eq_false_iff];intro h;have:=pP.1 h x (cC hx);rw[hf]at this;cases this
theorem nvj(l:List Ch)(a:Option Addr)(c:Nat)(w:World):Calls prog 72 #[.slice a l.length c] w (av w (.bool (decide (l.length<=10)))):=by
 refine enter (vs:=[_]) func72 rfl ntmps72 rfl ?_;refine B 14 ?_;refine ax results72 rfl A0 ?_;exact vb (by rw[xM];simp;omega)
theorem HA(c:Cm)(N:Nat)(w:World)(hN:N<=w.heap.size)(hC:dJ N w c)(jH:c.bxs.length<=9223372036854775807)(hwl:c.wes.length<=9223372036854775807):Calls prog 34 #[.agg (dY c)] w (av w (.bool (pv c))):=by
 refine enter (vs:=[_]) func34 rfl ntmps34 rfl ?_;refine B 2 ?_;refine yX ?_;intro b1 w1 aR aY gA eK iH;refine B 10 ?_;refine CJ.loop (α:=Nat) (λj=>[(1,ptr b1 0),(3,.int .i64 (j:Int))]) (λj=>[]) (λj=>[w1,w]) (λj=>Gh.no) (λj=>j<=c.bxs.length/\(c.bxs.take j).all (λx:Bx=>decide (x.w.body.length<=200))=true) (λj=>c.bxs.length-j) 0 ⟨cZ _,rfl⟩ ⟨rfl,rfl,trivial⟩ rfl rfl z1 ?_;rintro j ⟨hj,TH⟩;refine B 10 ?_;refine aK ?_ ?_
 ·intro aj;refine B 5 ?_;obtain⟨b0,o0,cs0,t0,fp,jC,mq,hcs,ar⟩:=hC.bxs.get zM;obtain⟨y,hy⟩:=nk c.bxs j zM;refine B 2 ?_;refine rq (.slice (some ⟨b0,o0,none⟩) c.bxs.length c.bc) (aa isAgg96 rfl A0 aR aY trivial rfl) (congrArg (λq=>Value.slice q c.bxs.length c.bc) jC) ?_;refine B 4 ?_;refine rv rfl rfl rfl (aa (v:=.slice y.w.ba y.w.body.length y.w.bc) isAgg64 rfl A1 hcs zX trivial (by have:=vE ar hy rfl 3 zQ;simpa[tk]using this)) ?_;refine B 4 ?_;refine aK ?_ ?_
  ·intro aN;refine B 11 ?_;exact PN
  intro aN;refine B 8 ?_;refine PJ.again (j+1) ⟨by omega,n0h TH hy (decide_eq_true zM)⟩ zM ⟨rfl,rfl,trivial⟩ rfl rfl z1
 intro aj;refine B 7 ?_;have sG:=nyj TH zM;refine B 5 ?_;refine CJ.loop (α:=Nat) (λj=>[(1,ptr b1 0),(4,.int .i64 (j:Int))]) (λj=>[]) (λj=>[w1,w]) (λj=>Gh.no) (λj=>j<=c.wes.length/\(c.wes.take j).all (λx:We=>decide (x.w.body.length<=200))=true) (λj=>c.wes.length-j) 0 ⟨cZ _,rfl⟩ ⟨rfl,rfl,trivial⟩ rfl rfl z1 ?_;rintro j ⟨hj,hwx⟩;refine B 10 ?_;refine aK ?_ ?_
 ·intro cN;refine B 5 ?_;obtain⟨b0,o0,cs0,t0,fp,jC,mq,hcs,ar⟩:=hC.wes.get zM;obtain⟨y,hy⟩:=nk c.wes j zM;refine B 2 ?_;refine rq (.slice (some ⟨b0,o0,none⟩) c.wes.length c.wc) (aa isAgg97 rfl A0 aR aY trivial rfl) (congrArg (λq=>Value.slice q c.wes.length c.wc) jC) ?_;refine B 4 ?_;refine rv rfl rfl rfl (aa (v:=.slice y.w.ba y.w.body.length y.w.bc) isAgg64 rfl A1 hcs zX trivial (by have:=vE ar hy rfl 2 zQ;simpa[sw]using this)) ?_;refine B 4 ?_;refine aK ?_ ?_
  ·intro gf;refine B 11 ?_;exact PN
  intro gf;refine B 8 ?_;refine PJ.again (j+1) ⟨by omega,n0h hwx hy (decide_eq_true zM)⟩ zM ⟨rfl,rfl,trivial⟩ rfl rfl z1
 intro cN;refine B 6 ?_;have haw:=nyj hwx zM;refine B 3 ?_;refine call call72 rfl rfl rfl (λW hS=>nvj c.chs c.ca c.cc W) ?_;refine B 1 ?_;refine nh (t:=40) rfl (λgM=>?_) (λgM=>?_)
 ·replace gM:=ya gM;refine B 6 ?_;refine nh (t:=46) rfl (λjE=>?_) (λjE=>?_)
  ·replace jE:=ya jE;refine B 6 ?_;refine nh (t:=52) rfl (λjx=>?_) (λjx=>?_)
   ·replace jx:=ya jx;refine B 9 ?_;exact PN
   replace jx:=ya jx;refine B 9 ?_;exact PN
  replace jE:=ya jE;refine B 15 ?_;exact PN
 replace gM:=ya gM;refine B 21 ?_;exact PN
def xA (cs:List Cm):Bool:=decide (cs.length<=7)&&cs.all pv
structure CA (c:Cm):Prop where
 b:c.bxs.length<=9223372036854775807
 w:c.wes.length<=9223372036854775807
theorem HB(cs:List Cm)(JO:∀c∈cs,CA c)(N:Nat)(la:Option Addr)(lc:Nat)(w:World)(hN:N<=w.heap.size)(aJ:ah dY 73 N w la cs)(hC:∀c∈cs,dJ N w c):Calls prog 18 #[.slice la cs.length lc] w (av w (.bool (xA cs))):=by
 refine enter (vs:=[_]) func18 rfl ntmps18 rfl ?_;refine B 13 ?_;refine aK ?_ ?_
 ·intro aj;refine B 7 ?_;exact zLj
 intro aj;refine B 9 ?_;refine CJ.loop (α:=Nat) (λj=>[(0,.slice la cs.length lc),(3,.int .i64 (j:Int))]) (λj=>[]) (λj=>[w]) (λj=>Gh.no) (λj=>j<=cs.length/\(cs.take j).all pv=true) (λj=>cs.length-j) 0 ⟨cZ _,rfl⟩ ⟨rfl,rfl,trivial⟩ rfl rfl z1 ?_;rintro j ⟨hj,Jk⟩;refine B 9 ?_;refine aK ?_ ?_
 ·intro aN;refine B 5 ?_;obtain⟨bl,ol,csl,tl,frl,rfl,jH,uM,ml⟩:=aJ.get zM;obtain⟨c,hc⟩:=nk cs j zM;have hcm:=cC hc;refine B 4 ?_;refine rq (.agg (dY c)) (ag isAgg99 sizeOf99 rfl A0 uM zX trivial (ni ml hc rfl)) (va (np ml hc rfl)) ?_;refine call call34 rfl rfl rfl (λW hS=>HA c N W (aS hN (hS.links w A0).size) ((hC c hcm).up (ao _) (hS.same A0 hN zU trivial)) (JO c hcm).b (JO c hcm).w) ?_;refine B 3 ?_;refine aK ?_ ?_
  ·intro cN;refine B 11 ?_;exact zLj
  intro cN;refine B 8 ?_;refine PJ.again (j+1) ⟨by omega,n0h Jk hc (by simpa using ‹_›)⟩ zM ⟨rfl,rfl,trivial⟩ rfl rfl z1
 intro aN;refine B 6 ?_;have bW:=nyj Jk zM;refine B 5 ?_;exact zLj
def qO (s:Sc):Bool:=decide (s.fos.length<=4)&&xA s.cs&&decide (s.lks.length<=6)&&decide (s.fas.length<=8)&&decide (s.pls.length<=10)
theorem nsj(s:Sc)(JO:∀c∈s.cs,CA c)(N:Nat)(w:World)(hN:N<=w.heap.size)(hs:dP N w s):Calls prog 7 #[.agg (rdA s),.slice s.pa s.pls.length s.pc] w (av w (.bool (qO s))):=by
 refine enter (vs:=[_,_]) func7 rfl ntmps7 rfl ?_;refine B 2 ?_;refine yX ?_;intro b2 w2 aH aF dS cE cX;refine B 6 ?_;refine rr (.slice s.fa s.fos.length s.fc) (aa isAgg22 rfl A0 aH aF trivial rfl) ?_;refine B 3 ?_;refine nh (t:=9) rfl (λaj=>?_) (λaj=>?_)
 ·replace aj:=ya aj;refine B 1 ?_;refine rr (.slice s.la s.cs.length s.lc) (aa isAgg24 rfl A0 aH aF trivial rfl) ?_;refine call call18 rfl rfl rfl (λW hS=>HB s.cs JO N s.la s.lc W (aS hN (hS.links w A1).size) (hs.cs.up (ao _) (hS.same A1 hN zU trivial)) (λc hc=>(hs.cm c hc).up (ao _) (hS.same A1 hN zU trivial))) ?_;refine B 2 ?_;refine nh (t:=14) rfl (λaN=>?_) (λaN=>?_)
  ·replace aN:=ya aN;refine B 1 ?_;refine rr (.slice s.ka s.lks.length s.kc) (aa isAgg27 rfl A0 aH aF trivial rfl) ?_;refine B 4 ?_;refine nh (t:=20) rfl (λcN=>?_) (λcN=>?_)
   ·replace cN:=ya cN;refine B 1 ?_;refine rr (.slice s.xa s.fas.length s.xc) (aa isAgg28 rfl A0 aH aF trivial rfl) ?_;refine B 4 ?_;refine nh (t:=26) rfl (λgf=>?_) (λgf=>?_)
    ·replace gf:=ya gf;refine B 8 ?_;exact Uz
    replace gf:=ya gf;refine B 8 ?_;exact Uz
   replace cN:=ya cN;refine B 14 ?_;exact Uz
  replace aN:=ya aN;refine B 20 ?_;exact Uz
 replace aj:=ya aj;refine B 25 ?_;exact Uz
theorem CB(xs:List Int)(cb:xs.length<=1000000)(n:Int)(N:Nat)(a:Option Addr)(c:Nat)(w:World)(hN:N<=w.heap.size)(aJ:ah encI 1 N w a xs):Calls prog 12 #[.slice a xs.length c,.int .i64 n] w (av w (.bool (xs.any λx=>decide (x=n)))):=by
 refine enter (vs:=[_,_]) func12 rfl ntmps12 rfl ?_;refine B 12 ?_;refine CJ.loop (α:=Nat) (λj=>[(0,.slice a xs.length c),(1,.int .i64 n),(5,.int .i64 (j:Int))]) (λj=>[]) (λj=>[w]) (λj=>Gh.no) (λj=>j<=xs.length/\fw (λx=>decide (x=n)) xs j) (λj=>xs.length-j) 0 ⟨cZ _,λi x hi=>absurd hi zM⟩ zR rfl rfl z1 ?_;rintro j ⟨hj,dO⟩;refine B 9 ?_;refine aK ?_ ?_
 ·intro aj;refine B 5 ?_;obtain⟨bo,oo,cs0,to,fp,rfl,ft,hcs,ar⟩:=aJ.get zM;obtain⟨x,hx⟩:=nk xs j zM;refine B 4 ?_;refine rv rfl rfl rfl (aa (v:=.int .i64 x) isAgg3 rfl A0 hcs zX trivial (vE ar hx rfl 0 zQ)) ?_;refine B 4 ?_;refine aK ?_ ?_
  ·intro aN;exact zDk
  exact z8k
 intro aj;exact zDk
def fC (pls:List Pl) (f:Int):List Int:=if(bD pls f).any (λx=>decide (x=f))=true then bD pls f else f::bD pls f
theorem n0k(pls:List Pl)(f:Int):(fC pls f).length<=pls.length+1:=by
 have:=JF pls f;unfold fC;split
 ·omega
 simp only[dW];omega
theorem HC{pls:List Pl}{f x:Int}:x∈fC pls f↔x=f\/x∈bD pls f:=by
 unfold fC;split
 ·rename_i h;obtain⟨y,hy,e⟩:=List.any_eq_true.1 h;have e2:y=f:=by simpa using e
  subst e2;exact⟨.inr,λh=>h.elim (λh=>by rw[h];exact hy) id⟩
 rw[cP]
theorem nFi(pls:List Pl)(hpl:pls.length<=12)(pa:Option Addr)(pc:Nat)(lk:Lk)(N:Nat)(w:World)(hN:N<=w.heap.size)(aJ:ah plA 5 N w pa pls):Calls prog 10 #[.slice pa pls.length pc,.agg (lkC lk)] w (cu w (λq:Option Addr×Nat=>.slice q.1 (fC pls lk.fo).length q.2) (λq w1=>ah encI 1 w1.heap.size w1 q.1 (fC pls lk.fo)/\∀p,q.1=some p->w.heap.size<=p.block)):=by
 refine enter (vs:=[_,_]) func10 rfl ntmps10 rfl ?_;refine B 2 ?_;refine yX ?_;intro b3 w3 aC ay cS bV cL;refine B 7 ?_;refine rr (.int .i64 lk.fo) (aa isAgg3 rfl A0 aC ay trivial rfl) ?_;refine vx (enc:=ai) (m:=1) (t:=3) (xs:=(bD pls lk.fo)) (v:=id) (first:=[]) (cap:=[]) rfl call21 rfl rfl rfl nr (λW hS=>n6d pls hpl N pa pc W (aS hN (hS.links w A1).size) (aJ.up (ao _) (hS.same A1 hN zU trivial)) lk.fo) ?_;intro W5 a5 c5 w5 DB IF CC UA;replace CC:ah encI 1 w5.heap.size w5 a5 (bD pls lk.fo):=CC;have jH:=JF pls lk.fo;have mv:=(DB.links w A1).size;have ahI:=IF.size;refine B 10 ?_;refine CJ.loop (α:=Nat) (λj=>[(3,ptr b3 0),(5,.slice a5 (bD pls lk.fo).length c5),(6,.int .i64 (j:Int))]) (λj=>[]) (λj=>[w5,w3,w]) (λj=>Gh.no) (λj=>j<=(bD pls lk.fo).length/\fw (λx=>decide (x=lk.fo)) (bD pls lk.fo) j) (λj=>(bD pls lk.fo).length-j) 0 ⟨cZ _,λi x hi=>absurd hi zM⟩ zR rfl rfl z1 ?_;rintro j ⟨hj,dO⟩;refine B 9 ?_;refine aK ?_ ?_
 ·intro aj;refine B 5 ?_;obtain⟨bo,oo,cs0,to,fp,rfl,ft,hcs,ar⟩:=CC.get zM;obtain⟨x,hx⟩:=nk (bD pls lk.fo) j zM;refine ng (E':=[(3,_),(5,_),(6,_),(11,_),(12,_),(13,_),(14,_)]) zR ?_;refine nl 6 [.det [] _,.det [] _,.det [0,1] _,.det [2] _,.det [] _,.det [4] _] zT (xc zO (xc zO (xc (by exact λab=>X.val rfl rfl (cx underlying44 sizeOf3 rfl rfl zM zM) (λ_ _=>rfl)) (xc (by exact λab=>X.val rfl rfl (aa (v:=.int .i64 x) isAgg3 rfl A0 hcs zX trivial (vE ar hx rfl 0 zQ)) (λ_ _=>rfl)) (xc rQ (xc (by exact λab=>X.val rfl rfl (RV.re (v':=.int .i64 lk.fo) (aa isAgg3 rfl A1 aC ay trivial rfl) (rfl)) (λ_ _=>rfl)) (xn))))))) zT zT zT (λab=>?_);refine B 3 ?_;refine aK ?_ ?_
  ·intro aN;refine B 1 ?_;have hwy:fC pls lk.fo=(bD pls lk.fo):=by unfold fC;rw[if_pos (nuh hx oC)]
   refine B 11 ?_;refine bH (.inl rfl) results10 (RS.t rfl RS.n) λW hS=>⟨(_,c5),congrArg Ending.returned (by rw[hwy];rfl),hS.base A2 trivial,by rw[hwy];exact CC.up (hS.links w5 A0).size (hS.same A0 (ao _) zU trivial),λp hp=>aS mv (UA p hp)⟩
  exact z8k
 intro aj;refine B 8 ?_;refine rr (.int .i64 lk.fo) (aa isAgg3 rfl A1 aC ay trivial rfl) ?_;refine vo ?_;refine yW ?_;intro ix zh KE;refine B 1 ?_;refine S4 (xs:=[lk.fo]) (zs:=(bD pls lk.fo)) (enc:=ai) (m:=1) (H0:=[]) (H1:=[]) (sp:=[]) (by rfl) DJ nr rfl rfl rfl rfl (dt.sl nr DL underlying44 A0 CC (λb hb=>⟨λh=>h,by simp only[bE,and_true];omega⟩)) ⟨ao _,rfl⟩ (.inr zZ) DO ?_;intro b29 UB aeM UC Nw;replace UC:=yb UC;have PO:fC pls lk.fo=[lk.fo]++(bD pls lk.fo):=by unfold fC;rw[if_neg (by rw[Sm dO zM];decide)];rfl
 refine B 4 ?_;refine bH (.inl rfl) results10 (RS.t rfl RS.n) λW hS=>⟨((some ⟨b29,0,none⟩:Option Addr),UB),?_,hS.base A2 (by simp only[Over,dX,and_true];omega),?_,?_⟩
 ·exact congrArg Ending.returned (by rw[PO];rfl)
 ·obtain⟨a9,c9,e9,h9⟩:=Rw.sl' (r:=.row b29 UB aeM) (t:=3) Nw (hS.own (b29,_) A0);cases e9;rw[PO];exact h9
 intro p hp;cases hp;dsimp only;omega
structure ChI (x:Ch):Prop where
 kind:fY x.kind
 dev:fY x.dev
 pub:fY x.pub
 ver:fY x.ver
 cut:fY x.cut
structure BxI (x:Bx):Prop where
 node:fY x.node
 level:fY x.level
 u:fY x.w.u
structure WeI (x:We):Prop where
 dev:fY x.dev
 u:fY x.w.u
structure HD (c:Cm):Prop where
 folder:fY c.folder
 epoch:fY c.epoch
 par:jh c.par
 author:fY c.author
 chs:∀x∈c.chs,ChI x
 path:∀x∈c.path,fY x
 bxs:∀x∈c.bxs,BxI x
 wes:∀x∈c.wes,WeI x
 conf:jh c.conf
 sr:fY c.sr
 ss:fY c.ss
 lim:CA c
theorem Yq(n:Nat)(hn:n<=100):∀ls:List (List V),(∀l∈ls,l.all oU=true/\l.length<=n/\V.fineL l)->V.fineL (ls.map V.list)/\V.depthL (ls.map V.list)<=1
 | [],_=>by simp[V.fineL,V.depthL]
 |l::ls,h=>by
  obtain⟨h1,h2⟩:=Yq n hn ls (λx hx=>h x (.tail _ hx));obtain⟨g1,g2,g3⟩:=h l A0;obtain⟨_,g4⟩:=Wg l g1 g3;simp only[eE,V.fineL,V.fine,V.depthL,V.depth,g4];exact⟨⟨⟨by omega,by omega,g3⟩,h1⟩,by omega⟩
theorem nPl:∀l:List Int,(∀x∈l,fY x)->V.fineL (l.map V.int)/\V.depthL (l.map V.int)=0
 | [],_=>by simp[V.fineL,V.depthL]
 |y::l,h=>by
  obtain⟨h1,h2⟩:=nPl l (λx hx=>h x (.tail _ hx));simp only[eE,V.fineL,V.fine,V.depthL,V.depth,h2];exact⟨⟨h y A0,h1⟩,by omega⟩
theorem Yr{l:List V}(h:V.fineL l)(hl:l.length<=1000000000)(hd:V.depthL l<=1000000000):V.fine (.list l):=by simp only[V.fine];exact⟨hl,hd,h⟩
theorem CD{c:Cm}(h:pv c=true):(∀x∈c.bxs,x.w.body.length<=200)/\(∀x∈c.wes,x.w.body.length<=200)/\c.chs.length<=10/\c.path.length<=12/\c.bxs.length<=40/\c.wes.length<=10:=by
 simpa[pv,and_assoc]using h
theorem HE{c:Cm}(h:HD c)(hf:pv c=true):cI c:=by
 obtain⟨f1,f2,f3,f4,f5,f6⟩:=CD hf;refine⟨⟨h.par,h.conf,f3,f4,f5,f6,f1,f2⟩,?_⟩;have a1:=Yq 100 zQ (c.chs.map yl) (λl hl=>by
  obtain⟨x,hx,rfl⟩:=bU.1 hl;have g:=h.chs x hx;refine⟨by simp[yl,oU],by simp[yl],?_⟩;simp only[yl,V.fineL,V.fine];exact⟨g.kind,g.dev,g.pub,g.ver,g.cut,trivial⟩)
 have a2:=nPl c.path h.path;have a3:=Yq 100 zQ (c.bxs.map qF) (λl hl=>by
  obtain⟨x,hx,rfl⟩:=bU.1 hl;have g:=h.bxs x hx;have g2:=f1 x hx;refine⟨by simp[qF,oU],by simp[qF],?_⟩;simp only[qF,V.fineL,V.fine];exact⟨g.node,g.level,g.u,by rw[Xo];omega,trivial⟩)
 have a4:=Yq 100 zQ (c.wes.map qG) (λl hl=>by
  obtain⟨x,hx,rfl⟩:=bU.1 hl;have g:=h.wes x hx;have g2:=f2 x hx;refine⟨by simp[qG,oU],by simp[qG],?_⟩;simp only[qG,V.fineL,V.fine];exact⟨g.dev,g.u,by rw[Xo];omega,trivial⟩)
 simp only[lZ,V.fineL];refine⟨by simp only[V.fine];exact h.folder,by simp only[V.fine];exact h.epoch,by simp only[V.fine];rw[Xo,nO];omega,by simp only[V.fine];exact h.author,Yr a1.1 (by simp only[fl];omega) zM,Yr a2.1 (by simp only[fl];omega) zM,Yr a3.1 (by simp only[fl];omega) zM,Yr a4.1 (by simp only[fl];omega) zM,by simp only[V.fine];rw[Xo,nO];omega,by simp only[V.fine];exact h.sr,by simp only[V.fine];exact h.ss,trivial⟩
structure uT (s:Sc):Prop where
 cm:∀c∈s.cs,HD c
 lk:∀l∈s.lks,cT l
 fa:∀f∈s.fas,kD f
theorem Nx(h:qO s=true):s.fos.length<=4/\s.cs.length<=7/\(∀c∈s.cs,pv c=true)/\s.lks.length<=6/\s.fas.length<=8/\s.pls.length<=10:=by
 simpa[qO,xA,and_assoc,pP]using h
theorem uT.ok(h:uT s)(hf:qO s=true):fh s:=by
 obtain⟨h1,h2,h3,h4,h5,h6⟩:=Nx hf;exact⟨by omega,by omega,λc hc=>HE (h.cm c hc) (h3 c hc),by omega,h.lk,by omega,h.fa,by omega⟩
theorem ah.unmap{α β:Type}{enc:β->Array Value}{f:α->β}{n:Nat}{w:World}{xs:List α}(h:ah enc n N w a (xs.map f)):ah (λx=>enc (f x)) n N w a xs:=by
 rcases h with h|⟨b,off,cs,t,fr,h1,h2,h3,h4⟩
 ·exact .inl (List.map_eq_nil_iff.1 h)
 refine .inr ⟨b,off,cs,t,fr,h1,h2,h3,λi hi=>?_⟩;have h5:=h4 i (by rw[fl];exact hi);rwa[JQ]at h5
theorem nZl{α:Type}{p:α->Bool}{xs:List α}(h:(xs.take j).any p=true):(xs.take (j+1)).any p=true:=by
 obtain⟨x,hx,hp⟩:=List.any_eq_true.1 h;refine List.any_eq_true.2 ⟨x,?_,hp⟩;rw[List.take_add_one];exact cO.2 (.inl hx)
theorem n1h{α:Type}{p:α->Bool}{xs:List α}{x:α}(hx:xs[j]? =some x)(h:(xs.take j).any p=false):(xs.take (j+1)).any p=p x:=by
 rw[nz hx,List.any_append,h];simp
theorem nZk{α:Type}{p:α->Bool}{xs:List α}(h:¬j<xs.length):(xs.take j).any p=xs.any p:=by rw[iZ zM]
def gfA (p:Gp×Fa):Array Value:=dg p.1.last
noncomputable def jv (Z:Fx) (s:Sc) (lk:Lk):List (Gp×Fa):=if dw Z s 256 lk=true then Hs Z s lk else[]
theorem Ys(Z:Fx)(s:Sc)(lk:Lk):fA Z s lk=(jv Z s lk).map λp=>dk p.1.last:=by
 unfold fA jv;split<;>rfl

theorem nHf{e:Array Value}{a n:Nat}(h:cut cs a n=e)(hk:k+m<=n):cut cs (a+k) m=cut e k m:=by
 subst h;unfold cut;simp only[List.drop_take,Pm,List.take_take];rw[Nat.min_eq_left zM]
noncomputable def Yt (Z:Fx) (s:Sc) (x:Fo):List Gp:=(Cs Z s.cs x).map (·.2)
def PQ (lk:Lk) (d:Nat->Int) (g:Gp):Bool:=jl g.last d&&decide (g.epoch<=lk.exp)
noncomputable def qP (Z:Fx) (s:Sc) (lk:Lk) (d:Nat->Int) (x:Fo):Bool:=((fC s.pls lk.fo).any λy=>decide (y=x.id))&&(Yt Z s x).any (PQ lk d)
noncomputable def xB (Z:Fx) (lk:Lk) (d:Nat->Int) (f:Fa):Bool:=jl f.com d&&jl f.lnk (iL Z lk)
theorem HF{pls:List Pl}{f x:Int}(h:x∈iB pls f):x∈fC pls f:=by
 unfold iB at h;have h2:x∈bD pls f++[f]:=List.mem_mergeSort.1 (nIh h);rw[HC];rcases cO.1 h2 with h3|h3
 ·exact .inr h3
 exact .inl (qd.1 h3)
theorem nAl{p:Gp×Fa}(ha:dw Z s 256 lk=true)(hp:p∈jv Z s lk):s.fos.any (qP Z s lk p.1.last)=true/\s.fas.any (xB Z lk p.1.last)=true:=by
 unfold jv at hp;rw[if_pos ha]at hp;obtain⟨d,hd,hg,hf,hr,he⟩:=Hy hp;refine⟨?_,?_⟩
 ·unfold po at hg;cases hfo:s.fos.find? (λf=>decide (f.id=d))with
  |none=>rw[hfo]at hg;cases hg
  |some fo=>
   rw[hfo]at hg;have KY:fo.id=d:=by simpa using List.find?_some (p:=λf:Fo=>decide (f.id=d)) hfo
   refine List.any_eq_true.2 ⟨fo,List.mem_of_find?_eq_some hfo,?_⟩;unfold qP;rw[gb];exact⟨List.any_eq_true.2 ⟨d,HF hd,by simp[KY]⟩,List.any_eq_true.2 ⟨p.1,hg,by unfold PQ;rw[njl];simpa using he⟩⟩
 unfold kE at hr;simp only[gb]at hr;exact List.any_eq_true.2 ⟨p.2,hf,by unfold xB;rw[hr.1.1.1.1,hr.1.1.1.2];rfl⟩
theorem HG{α:Type}{q:α->Bool}{xs:List α}{m:Bool}(h:((xs.take j).any q||m)=true):((xs.take (j+1)).any q||m)=true:=by
 rw[Bool.or_eq_true]at h ⊢;exact h.imp nZl id
theorem nZm{α:Type}{q:α->Bool}{xs:List α}{x:α}{m:Bool}(hx:xs[j]? =some x)(h:((xs.take j).any q||m)=false):((xs.take (j+1)).any q||m)=q x:=by
 rw[Bool.or_eq_false_iff]at h;rw[n1h hx h.1,h.2,Bool.or_false]
theorem nan{d:Nat->Int}{x:Fo}{gs:List Gv}{n:Nat}(Nq:Yt Z s x=gs.map (·.g))(hx:s.fos[j]? =some x)(hn:n=0\/((fC s.pls lk.fo).any λy=>decide (y=x.id))=true)(he:¬n<gs.length\/((fC s.pls lk.fo).any λy=>decide (y=x.id))=false):((gs.take n).any (λg=>PQ lk d g.g)||(s.fos.take j).any (qP Z s lk d))=(s.fos.take (j+1)).any (qP Z s lk d):=by
 rw[nz hx,List.any_append,Bool.or_comm];congr 1;simp only[List.any_cons,List.any_nil,Bool.or_false];unfold qP;rw[Nq,List.any_map];rcases he with he|he
 ·rw[iZ zM];rcases hn with rfl|hn
  ·rw[ja (show gs.length=0 by omega)];simp
  rw[hn];rfl
 rcases hn with rfl|hn
 ·rw[he];simp
 rw[hn]at he;cases he
theorem nap(hZ:FxOk Z)(s:Sc)(hin:uT s)(N:Nat)(w:World)(hN:N<=w.heap.size)(hs:dP N w s)(lk:Lk)(hlk:cT lk)(hg:Glb w)(hf:qO s=false):Calls prog 3 #[.agg (rdA s),.slice s.pa s.pls.length s.pc,.agg (lkC lk)] w (av w (.bool true)):=by
 have eC:=hg.lt;refine zUi ?_;refine yV ?_;intro b3 w3 aC ay cS bV cL;refine yX ?_;intro b5 w5 eg eP mv gQ gR;refine B 6 ?_;refine zQg ?_;refine B 9 ?_;refine Yp ?_;refine B 1 ?_;refine call (v:=.bool false) call7 rfl rfl rfl (λW hS=>by have h9:=nsj s (λc hc=>(hin.cm c hc).lim) N W (aS hN (hS.links w A2).size) (hs.up (ao _) (hS.same A2 hN zU trivial));rwa[hf]at h9) ?_;refine B 11 ?_;refine ax results3 rfl A2 ?_;rfl
theorem nyo(hZ:FxOk Z)(s:Sc)(hin:uT s)(N:Nat)(w:World)(hN:N<=w.heap.size)(hs:dP N w s)(lk:Lk)(hlk:cT lk)(hg:Glb w)(hf:qO s=true)(dc:jv Z s lk=[]):Calls prog 3 #[.agg (rdA s),.slice s.pa s.pls.length s.pc,.agg (lkC lk)] w (av w (.bool true)):=by
 have eC:=hg.lt;have ho:=hin.ok hf;have Yu:(jv Z s lk).length=0:=by rw[dc];rfl
 refine zUi ?_;refine yV ?_;intro b3 w3 aC ay cS bV cL;refine yX ?_;intro b5 w5 eg eP mv gQ gR;refine zLi ?_;rintro Wq ⟨a7,c7⟩ wq Pa SB ⟨jF,sO,VY⟩;have hzq:=SB.size;have aeS:=(Pa.links w A2).size;have lE:(fA Z s lk).length=(jv Z s lk).length:=by rw[Ys,fl]
 have rp:ah gfA 32 wq.heap.size wq a7 (jv Z s lk):=by rw[Ys]at jF;exact jF.unmap
 refine B 8 ?_;refine Iu ?_;refine B 15 ?_;refine zif ?_;rintro Wc8 ⟨a8,c8⟩ w8 aeT aeU UD;try dsimp only at UD
 refine B 10 ?_;refine zHf ?_;rintro i hi;refine B 6 ?_;refine tW ?_;refine B 14 ?_;refine ax results3 rfl A4 ?_;rfl
theorem nNo(hZ:FxOk Z)(s:Sc)(hin:uT s)(N:Nat)(w:World)(hN:N<=w.heap.size)(hs:dP N w s)(lk:Lk)(hlk:cT lk)(hg:Glb w)(hf:qO s=true)(ha:dw Z s 256 lk=true)(dc:0<(jv Z s lk).length):Calls prog 3 #[.agg (rdA s),.slice s.pa s.pls.length s.pc,.agg (lkC lk)] w (av w (.bool true)):=by
 have eC:=hg.lt;have ho:=hin.ok hf;have ts:=ho.fo;have cb:=ho.xl;have lG:=ho.cl;refine zUi ?_;refine yV ?_;intro b3 w3 aC ay cS bV cL;refine yX ?_;intro b5 w5 eg eP mv gQ gR;refine zLi ?_;rintro Wq ⟨a7,c7⟩ wq Pa SB ⟨jF,sO,VY⟩;have hzq:=SB.size;have aeS:=(Pa.links w A2).size;have lE:(fA Z s lk).length=(jv Z s lk).length:=by rw[Ys,fl]
 have rp:ah gfA 32 wq.heap.size wq a7 (jv Z s lk):=by rw[Ys]at jF;exact jF.unmap
 refine B 8 ?_;refine OF ?_;refine B 1 ?_;refine rr (.agg (rdA s)) (af isAgg31 sizeOf31 rfl A2 aC ay trivial rfl) ?_;refine B 1 ?_;refine rr (.agg (lkC lk)) (af isAgg38 sizeOf38 rfl A1 eg eP trivial rfl) ?_;refine call (v:=.bool true) call9 rfl rfl rfl (λW hS=>by have h9:=nqi hZ s ho N W (aS hN (hS.links w A3).size) (hs.up (ao _) (hS.same A3 hN zU trivial)) lk hlk (hg.old hS A3 zU trivial);rwa[ha]at h9) ?_;refine B 10 ?_;refine zif ?_;rintro Wc8 ⟨a8,c8⟩ w8 aeT aeU UD;try dsimp only at UD
 refine B 10 ?_;refine zHf ?_;rintro i hi;refine B 9 ?_;refine aK ?_ ?_
 ·intro aj;refine B 5 ?_;obtain⟨bo,oo,cs0,to,fp,rfl,ft,hcs,ar⟩:=rp.get zM;obtain⟨p,hp⟩:=nk (jv Z s lk) i zM;obtain⟨aeV,aeW⟩:=nAl ha (cC hp);refine B 12 ?_;refine CJ.loop (α:=Nat) (λj=>[(1,.slice s.pa s.pls.length s.pc),(3,ptr b3 0),(5,ptr b5 0),(7,.slice (some ⟨bo,oo,none⟩) (fA Z s lk).length c7),(8,.slice a8 (fC s.pls lk.fo).length c8),(9,.int .i64 (i:Int)),(10,.bool ((s.fos.take j).any (qP Z s lk p.1.last))),(11,.bool false),(12,.int .i64 (j:Int))]) (λj=>[]) (λj=>[w8,wq,w5,w3,w]) (λj=>Gh.no) (λj=>j<=s.fos.length) (λj=>s.fos.length-j) 0 (cZ _) zR rfl rfl z1 ?_;rintro j hj;refine B 5 ?_;refine rr (.slice s.fa s.fos.length s.fc) (aa isAgg22 rfl A3 aC ay trivial rfl) ?_;refine B 4 ?_;refine aK ?_ ?_
  ·intro aN;refine B 5 ?_;obtain⟨bf,of,csf,tf,frf,jC,hbf,Cy,sR⟩:=hs.fo.get zM;obtain⟨x,hx⟩:=nk s.fos j zM;refine ng (E':=[(1,_),(3,_),(5,_),(7,_),(8,_),(9,_),(10,_),(11,_),(12,_),(46,_),(47,_),(48,_),(49,_),(50,_)]) zR ?_;refine KW 12 [7,8,9,10,11] [([],some _),([0],some (.slice (some ⟨bf,of,none⟩) s.fos.length s.fc)),([],some _),([1,2],some _),([3],some (.agg (pg x))),([],some _),([5],some (.slice s.la s.cs.length s.lc)),([4,6],none),([7],none),([8],none),([8],none),([9],none)] [[],[0],[0,1],[0,1],[0,1,2]] (λcv L' H'=>match cv with| [none,none,none,none,none]=>L'=[w8,wq,w5,w3,w]/\H'=[]| [some v7,none,none,none,none]=>∃(a1:Option Addr) (c1:Nat) (a2:Option Addr) (c2:Nat) (ds:List Cd) (wg:World),v7= .tuple #[.slice a1 ds.length c1,.slice a2 ds.length c2]/\L'=[wg,w8,wq,w5,w3,w]/\H'=[]/\jU Z s.cs x (ds.map ll)/\ds.length<=s.cs.length/\ah (λx=>(iA x).toArray) 36 wg.heap.size wg a2 (ds.map λd=>d.x)| [some v7,some v8,none,none,none]=>∃(a1:Option Addr) (c1:Nat) (a2:Option Addr) (c2:Nat) (ds:List Cd) (wg:World),v7= .tuple #[.slice a1 ds.length c1,.slice a2 ds.length c2]/\v8= .tuple #[.slice a1 ds.length c1,.slice a2 ds.length c2]/\L'=[wg,w8,wq,w5,w3,w]/\H'=[]/\jU Z s.cs x (ds.map ll)/\ds.length<=s.cs.length/\ah (λx=>(iA x).toArray) 36 wg.heap.size wg a2 (ds.map λd=>d.x)| [some v7,some v8,none,some v10,none]=>∃(a1:Option Addr) (c1:Nat) (a2:Option Addr) (c2:Nat) (ds:List Cd) (wg:World),v7= .tuple #[.slice a1 ds.length c1,.slice a2 ds.length c2]/\v8= .tuple #[.slice a1 ds.length c1,.slice a2 ds.length c2]/\v10= .slice a2 ds.length c2/\L'=[wg,w8,wq,w5,w3,w]/\H'=[]/\jU Z s.cs x (ds.map ll)/\ds.length<=s.cs.length/\ah (λx=>(iA x).toArray) 36 wg.heap.size wg a2 (ds.map λd=>d.x)| [some v7,some v8,some v9,none,none]=>∃(a1:Option Addr) (c1:Nat) (a2:Option Addr) (c2:Nat) (ds:List Cd) (wg:World),v7= .tuple #[.slice a1 ds.length c1,.slice a2 ds.length c2]/\v8= .tuple #[.slice a1 ds.length c1,.slice a2 ds.length c2]/\v9= .slice a1 ds.length c1/\L'=[wg,w8,wq,w5,w3,w]/\H'=[]/\jU Z s.cs x (ds.map ll)/\ds.length<=s.cs.length/\ah (λx=>(iA x).toArray) 36 wg.heap.size wg a2 (ds.map λd=>d.x)| [some v7,some v8,some v9,none,some v11]=>∃(a1:Option Addr) (c1:Nat) (a2:Option Addr) (c2:Nat) (ds:List Cd) (wg:World),v7= .tuple #[.slice a1 ds.length c1,.slice a2 ds.length c2]/\v8= .tuple #[.slice a1 ds.length c1,.slice a2 ds.length c2]/\v9= .slice a1 ds.length c1/\v11= .slice a1 ds.length c1/\L'=[wg,w8,wq,w5,w3,w]/\H'=[]/\jU Z s.cs x (ds.map ll)/\ds.length<=s.cs.length/\ah (λx=>(iA x).toArray) 36 wg.heap.size wg a2 (ds.map λd=>d.x)| [some v7,some v8,some v9,some v10,none]=>∃(a1:Option Addr) (c1:Nat) (a2:Option Addr) (c2:Nat) (ds:List Cd) (wg:World),v7= .tuple #[.slice a1 ds.length c1,.slice a2 ds.length c2]/\v8= .tuple #[.slice a1 ds.length c1,.slice a2 ds.length c2]/\v9= .slice a1 ds.length c1/\v10= .slice a2 ds.length c2/\L'=[wg,w8,wq,w5,w3,w]/\H'=[]/\jU Z s.cs x (ds.map ll)/\ds.length<=s.cs.length/\ah (λx=>(iA x).toArray) 36 wg.heap.size wg a2 (ds.map λd=>d.x)| [some v7,some v8,some v9,some v10,some v11]=>∃(a1:Option Addr) (c1:Nat) (a2:Option Addr) (c2:Nat) (ds:List Cd) (wg:World),v7= .tuple #[.slice a1 ds.length c1,.slice a2 ds.length c2]/\v8= .tuple #[.slice a1 ds.length c1,.slice a2 ds.length c2]/\v9= .slice a1 ds.length c1/\v10= .slice a2 ds.length c2/\v11= .slice a1 ds.length c1/\L'=[wg,w8,wq,w5,w3,w]/\H'=[]/\jU Z s.cs x (ds.map ll)/\ds.length<=s.cs.length/\ah (λx=>(iA x).toArray) 36 wg.heap.size wg a2 (ds.map λd=>d.x)|_=>False) zT ⟨rfl,rfl⟩ zT zT zT zT zT zT rfl (qc (by exact λcv L' H' _ _ hP=>X.val rfl rfl (ak underlying31 rfl sizeOf22 rfl) R2) (qc zcK (qc XQ (qc zxe (qc zcK (qc (by exact λcv L' H' _ _ hP=>X.val rfl rfl (ak underlying31 rfl sizeOf24 rfl) R2) (qc zcK (qk (qk (qk (qk (qk (qn))))))))))))) ?_ ?_
   ·refine nc rfl rfl rfl rfl ?_ ?_
    ·intro cv L' H' hl hr hP F Q' hk;obtain⟨x7,x8,x9,eW,ir,rfl⟩:=eZ hl;rcases x7 with _|v7<;>rcases x8 with _|v8<;>rcases x9 with _|v9<;>rcases eW with _|v10<;>rcases ir with _|v11<;>try exact False.elim hP
     ·obtain⟨rfl,rfl⟩:=hP;refine nu (α:=((Option Addr×Nat)×(Option Addr×Nat))×List Cd) (v:=λq=>.tuple #[.slice q.1.1.1 q.2.length q.1.1.2,.slice q.1.2.1 q.2.length q.1.2.2]) (Φ:=λWc q w1=>(jU Z s.cs x (q.2.map ll)/\q.2.length<=s.cs.length)/\ah (λx=>(ai x).toArray) 1 w1.heap.size w1 q.1.1.1 (q.2.map λd:Cd=>d.at_)/\ah (λx=>(iA x).toArray) 36 w1.heap.size w1 q.1.2.1 (q.2.map λd:Cd=>d.x)/\(∀p,q.1.1.1=some p->Wc.heap.size<=p.block)/\(∀p,q.1.2.1=some p->Wc.heap.size<=p.block)/\∀d∈q.2,aL w1.heap.size w1 d.x/\aW Wc.heap.size d.x) call11 rfl rfl rfl (λW hS=>nGf hZ s.cs ho.cl ho.cg N s.la s.lc W (aS hN (hS.links w A4).size) (hs.cs.up (ao _) (hS.same A4 hN zU trivial)) (λc hc=>(hs.cm c hc).up (ao _) (hS.same A4 hN zU trivial)) x (hg.old hS A4 zU trivial)) ?_;rintro Wc ⟨⟨⟨a1,c1⟩,⟨a2,c2⟩⟩,ds⟩ wg vB DS ⟨⟨eN,eQ⟩,_,du,_,_,_⟩;try dsimp only at eN eQ du
      exact OJ.done (hk _ _ _ ⟨a1,c1,a2,c2,ds,wg,rfl,rfl,rfl,eN,eQ,du⟩)
     ·exact ec
     ·exact ec
     ·exact ec
     ·exact ec
     ·exact ec
     ·exact ec
     exact ec
    refine nc rfl rfl rfl rfl ?_ ?_
    ·intro cv L' H' hl hr hP F Q' hk;obtain⟨x7,x8,x9,eW,ir,rfl⟩:=eZ hl;rcases x7 with _|v7<;>rcases x8 with _|v8<;>rcases x9 with _|v9<;>rcases eW with _|v10<;>rcases ir with _|v11<;>try exact False.elim hP
     ·exact ec
     ·obtain⟨a1,c1,a2,c2,ds,wg,rfl,rfl,rfl,eN,eQ,du⟩:=hP;refine B 1 ?_;exact OJ.done (hk _ _ _ ⟨a1,c1,a2,c2,ds,wg,rfl,rfl,rfl,rfl,eN,eQ,du⟩)
     ·exact ec
     ·exact ec
     ·exact ec
     ·exact ec
     ·exact ec
     exact ec
    refine nc rfl rfl rfl rfl ?_ ?_
    ·intro cv L' H' hl hr hP F Q' hk;obtain⟨x7,x8,x9,eW,ir,rfl⟩:=eZ hl;rcases x7 with _|v7<;>rcases x8 with _|v8<;>rcases x9 with _|v9<;>rcases eW with _|v10<;>rcases ir with _|v11<;>try exact False.elim hP
     ·exact ec
     ·exact ec
     ·exact zbk
     ·exact zBj
     ·exact ec
     ·exact ec
     ·exact ec
     exact ec
    refine nc rfl rfl rfl rfl ?_ ?_
    ·intro cv L' H' hl hr hP F Q' hk;obtain⟨x7,x8,x9,eW,ir,rfl⟩:=eZ hl;rcases x7 with _|v7<;>rcases x8 with _|v8<;>rcases x9 with _|v9<;>rcases eW with _|v10<;>rcases ir with _|v11<;>try exact False.elim hP
     ·exact ec
     ·exact ec
     ·exact zbk
     ·exact ec
     ·exact zBj
     ·exact z4j
     ·exact ec
     exact ec
    refine nc rfl rfl rfl rfl ?_ ?_
    ·intro cv L' H' hl hr hP F Q' hk;obtain⟨x7,x8,x9,eW,ir,rfl⟩:=eZ hl;rcases x7 with _|v7<;>rcases x8 with _|v8<;>rcases x9 with _|v9<;>rcases eW with _|v10<;>rcases ir with _|v11<;>try exact False.elim hP
     ·exact ec
     ·exact ec
     ·exact ec
     ·exact ec
     ·exact zBj
     ·exact ec
     ·exact z4j
     exact ec
    exact nn
   intro cv L' H' hl hr hP;obtain⟨x7,x8,x9,eW,ir,rfl⟩:=eZ hl;rcases x7 with _|v7<;>rcases x8 with _|v8<;>rcases x9 with _|v9<;>rcases eW with _|v10<;>rcases ir with _|v11
   ·exact aA
   ·exact aA
   ·exact aA
   ·exact aA
   ·exact aA
   ·exact aA
   ·exact aA
   ·exact aA
   ·exact aA
   ·exact aA
   ·exact aA
   ·exact aA
   ·exact aA
   ·exact aA
   ·exact aA
   ·exact aA
   ·exact aA
   ·exact aA
   ·exact aA
   ·exact aA
   ·exact aA
   ·exact aA
   ·exact aA
   ·exact aA
   ·exact aA
   ·exact aA
   ·exact aA
   ·exact aA
   ·exact aA
   ·exact aA
   ·exact aA
   obtain⟨a1,c1,a2,c2,ds,wg,rfl,rfl,rfl,rfl,rfl,rfl,rfl,eN,eQ,du⟩:=hP;obtain⟨gs,JL⟩:∃gs,gs=ds.map (λd=>d.x):=⟨_,rfl⟩;have Qv:ds.length=gs.length:=by rw[JL,fl]
   have Uv:gs.length<=1000:=by have:=ho.cl;omega
   replace du:ah aX 36 wg.heap.size wg a2 gs:=by rw[JL];exact du
   have Nq:Yt Z s x=gs.map (·.g):=by unfold Yt;rw[nin eN,JL,List.map_map,List.map_map];rfl
   refine B 9 ?_;refine CJ.loop (α:=Nat) (λn=>[(1,.slice s.pa s.pls.length s.pc),(3,ptr b3 0),(5,ptr b5 0),(7,.slice (some ⟨bo,oo,none⟩) (fA Z s lk).length c7),(8,.slice a8 (fC s.pls lk.fo).length c8),(9,.int .i64 (i:Int)),(10,.bool ((gs.take n).any (λg:Gv=>PQ lk p.1.last g.g)||(s.fos.take j).any (qP Z s lk p.1.last))),(11,.bool false),(12,.int .i64 (j:Int)),(14,.slice a2 ds.length c2),(15,.int .i64 (n:Int))]) (λn=>[]) (λn=>[wg,w8,wq,w5,w3,w]) (λn=>Gh.no) (λn=>n<=gs.length/\(n=0\/((fC s.pls lk.fo).any λy=>decide (y=x.id))=true)) (λn=>gs.length-n) 0 ⟨cZ _,.inl rfl⟩ zR rfl rfl z1 ?_;rintro n ⟨hn,Dl⟩;refine B 2 ?_;by_cases hlt:n<gs.length
   ·cases sS:((fC s.pls lk.fo).any λy=>decide (y=x.id))with
    |true=>
     refine B 4 ?_;refine DF ?_;refine B 3 ?_;refine zwh ?_;refine B 3 ?_;refine z5h ?_;refine call (v:=.bool true) call12 rfl rfl rfl (λW hS=>by have h9:=CB (fC s.pls lk.fo) (by have:=n0k s.pls lk.fo;have:=ho.pl;omega) x.id w8.heap.size a8 c8 W (hS.links w8 A1).size (UD.up (ao _) (hS.same A1 (ao _) zU trivial));rwa[sS]at h9) ?_;refine B 8 ?_;obtain⟨bo2,oo2,cs2,to2,qj,rfl,aep,Hq,xy⟩:=du.get zM;obtain⟨g,Yv⟩:=nk gs n zM;cases hb:((gs.take n).any (λg:Gv=>PQ lk p.1.last g.g)||(s.fos.take j).any (qP Z s lk p.1.last))with
     |true=>
      refine zpf ?_;refine nl 20 [.det [] _,.det [0] _,.det [1] undef,.det [1] undef,.det [1,2,3] undef,.det [1,4] undef,.det [1,5] undef,.det [1] undef,.det [1] undef,.det [1,7,8] undef,.det [1,9] undef,.det [1,6,10] undef,.det [1,11] undef,.det [12] undef,.det [12] undef,.det [12,13,14] undef,.det [12,15] undef,.det [12,16] undef,.det [12] undef,.det [12,18] undef] zT (xc zO (xc zO (xc zN (xc zN (xc zN (xc zN (xc zN (xc zN (xc zN (xc zN (xc zN (xc zN (xc zN (xc zN (xc zN (xc zN (xc zN (xc zN (xc zN (xc zN (xn))))))))))))))))))))) zT zT zT (λab=>?_);refine B 12 ?_;refine PJ.again (n+1) ⟨by omega,.inr (by first|rfl|exact sS)⟩ zM ⟨rfl,rfl,rfl,rfl,rfl,rfl,congrArg (λb=>some (Value.bool b)) (HG hb).symm,rfl,rfl,rfl,rfl,trivial⟩ rfl rfl z1
     |false=>
      cases heq:jl g.g.last p.1.last with
      |true=>
       refine zpf ?_;refine nl 20 [.det [] _,.det [0] _,.det [1] _,.det [1] _,.det [1,2,3] _,.det [1,4] _,.det [1,5] _,.det [1] _,.det [1] _,.det [1,7,8] _,.det [1,9] _,.det [1,6,10] _,.det [1,11] _,.det [12] _,.det [12] _,.det [12,13,14] _,.det [12,15] _,.det [12,16] _,.det [12] _,.det [12,18] _] zT (xc zO (xc zO (xc zO (xc zO (xc zHd (xc (by exact λab=>X.val rfl rfl (ak underlying57 rfl sizeOf34 rfl) (λ_ _=>rfl)) (xc zpd (xc zO (xc zO (xc Tv (xc zId (xc zZd (xc zO (xc zO (xc zO (xc zHd (xc yj (xc (by exact λab=>X.val rfl rfl (aa (v:=.int .i64 g.g.epoch) isAgg3 rfl A0 Hq zX trivial (vE xy Yv rfl 1 zQ)) (λ_ _=>rfl)) (xc rQ (xc (by exact λab=>X.val rfl rfl (RV.re (v':=.int .i64 lk.exp) (aa isAgg3 rfl A3 eg eP trivial rfl) (rfl)) (λ_ _=>rfl)) (xn))))))))))))))))))))) zT zT zT (λab=>?_);exact zQj
      |false=>
       refine zpf ?_;refine nl 20 [.det [] _,.det [0] _,.det [1] _,.det [1] _,.det [1,2,3] _,.det [1,4] _,.det [1,5] _,.det [1] _,.det [1] _,.det [1,7,8] _,.det [1,9] _,.det [1,6,10] _,.det [1,11] _,.det [12] undef,.det [12] undef,.det [12,13,14] undef,.det [12,15] undef,.det [12,16] undef,.det [12] undef,.det [12,18] undef] zT (xc zO (xc zO (xc zO (xc zO (xc zHd (xc (by exact λab=>X.val rfl rfl (ak underlying57 rfl sizeOf34 rfl) (λ_ _=>rfl)) (xc zpd (xc zO (xc zO (xc Tv (xc zId (xc zWd (xc zO (xc zN (xc zN (xc zN (xc zN (xc zN (xc zN (xc zN (xn))))))))))))))))))))) zT zT zT (λab=>?_);exact zQj
    |false=>
     refine B 4 ?_;refine DF ?_;refine B 3 ?_;refine zwh ?_;refine B 3 ?_;refine z5h ?_;refine call (v:=.bool false) call12 rfl rfl rfl (λW hS=>by have h9:=CB (fC s.pls lk.fo) (by have:=n0k s.pls lk.fo;have:=ho.pl;omega) x.id w8.heap.size a8 c8 W (hS.links w8 A1).size (UD.up (ao _) (hS.same A1 (ao _) zU trivial));rwa[sS]at h9) ?_;refine B 15 ?_;refine PJ.again (j+1) zM zM ⟨rfl,rfl,rfl,rfl,rfl,rfl,congrArg (λb=>some (Value.bool b)) (nan Nq hx Dl (.inr sS)),rfl,rfl,trivial⟩ rfl rfl z1
   refine B 4 ?_;refine tW ?_;refine B 24 ?_;refine PJ.again (j+1) zM zM ⟨rfl,rfl,rfl,rfl,rfl,rfl,congrArg (λb=>some (Value.bool b)) (nan Nq hx Dl (.inl hlt)),rfl,rfl,trivial⟩ rfl rfl z1
  intro aN;refine B 7 ?_;rw[show((s.fos.take j).any (qP Z s lk p.1.last))=true from(nZk zM).trans aeV];refine B 5 ?_;refine CJ.loop (α:=Nat) (λm=>[(1,.slice s.pa s.pls.length s.pc),(3,ptr b3 0),(5,ptr b5 0),(7,.slice (some ⟨bo,oo,none⟩) (fA Z s lk).length c7),(8,.slice a8 (fC s.pls lk.fo).length c8),(9,.int .i64 (i:Int)),(10,.bool true),(11,.bool ((s.fas.take m).any (xB Z lk p.1.last))),(16,.int .i64 (m:Int))]) (λm=>[]) (λm=>[w8,wq,w5,w3,w]) (λm=>Gh.no) (λm=>m<=s.fas.length) (λm=>s.fas.length-m) 0 (cZ _) zR rfl rfl z1 ?_;rintro m hm;refine B 5 ?_;refine rr (.slice s.xa s.fas.length s.xc) (aa isAgg28 rfl A3 aC ay trivial rfl) ?_;refine B 4 ?_;refine aK ?_ ?_
  ·intro cN;refine B 4 ?_;obtain⟨bx,ox,csx,tx,frx,Eh,TH,UE,HH⟩:=hs.fx.get zM;obtain⟨y,hy⟩:=nk s.fas m zM;cases hb:(s.fas.take m).any (xB Z lk p.1.last)with
   |true=>
    refine z9f ?_;refine nl 22 [.det [] _,.det [0] _,.det [1] undef,.det [1,2] undef,.det [1] undef,.det [1,3,4] undef,.det [1,5] undef,.det [1,6] undef,.det [1] undef,.det [1] undef,.det [1,8,9] undef,.det [1,10] undef,.det [1,7,11] undef,.det [1,12] undef,.det [13] undef,.det [13,14] undef,.det [13] undef,.det [13,15,16] undef,.det [13,17] undef,.det [13,18] undef,.det [13] undef,.det [13,20] undef] zT (xc zO (xc zO (xc zN (xc zN (xc zN (xc zN (xc zN (xc zN (xc zN (xc zN (xc zN (xc zN (xc zN (xc zN (xc zN (xc zN (xc zN (xc zN (xc zN (xc zN (xc zN (xc zN (xn))))))))))))))))))))))) zT zT zT (λab=>?_);refine B 12 ?_;refine PJ.again (m+1) zM zM ⟨rfl,rfl,rfl,rfl,rfl,rfl,rfl,congrArg (λb=>some (Value.bool b)) (nZl hb).symm,rfl,trivial⟩ rfl rfl z1
   |false=>
    cases heq:jl y.com p.1.last with
    |true=>
     refine z9f ?_;refine nl 22 [.det [] _,.det [0] _,.det [1] _,.det [1,2] _,.det [1] _,.det [1,3,4] _,.det [1,5] _,.det [1,6] _,.det [1] _,.det [1] _,.det [1,8,9] _,.det [1,10] _,.det [1,7,11] _,.det [1,12] _,.det [13] _,.det [13,14] _,.det [13] _,.det [13,15,16] _,.det [13,17] _,.det [13,18] _,.det [13] _,.det [13,20] (.agg (dg (iL Z lk)))] zT (xc zO (xc zO (xc Yn (xc zQb (xc zO (xc Yo (xc WB (xc ztd (xc zO (xc zO (xc Tv (xc zJd (xc zZd (xc zO (xc Yn (xc zQb (xc zO (xc Yo (xc WB (xc (by exact λab=>X.val rfl rfl (RV.re (v':=.agg (dg y.lnk)) (ag isAgg34 sizeOf34 rfl A4 UE zX trivial (show ox+((m:Int)).toNat*68+0+32<=csx.size by have h9:=ni HH hy rfl;omega)) (va ((nHf (np HH hy rfl) zQ).trans rfl))) (λ_ _=>rfl)) (xc (by exact λab=>X.val rfl rfl (RV.re (v':=.agg (lkC lk)) (af isAgg38 sizeOf38 rfl A2 eg eP trivial rfl) (rfl)) (λ_ _=>rfl)) (xc (by exact λab=>nf call13 rfl rfl (λW hS _=>Wo hZ lk hlk W (hg.old hS A4 zU trivial)) (λ_=>rfl)) (xn))))))))))))))))))))))) zT zT zT (λab=>?_);refine rr (.bool (jl y.lnk (iL Z lk))) (gZ ui zQ nQ rfl rfl rfl) ?_;refine B 11 ?_;exact zlk
    |false=>
     refine z9f ?_;refine nl 22 [.det [] _,.det [0] _,.det [1] _,.det [1,2] _,.det [1] _,.det [1,3,4] _,.det [1,5] _,.det [1,6] _,.det [1] _,.det [1] _,.det [1,8,9] _,.det [1,10] _,.det [1,7,11] _,.det [1,12] _,.det [13] undef,.det [13,14] undef,.det [13] undef,.det [13,15,16] undef,.det [13,17] undef,.det [13,18] undef,.det [13] undef,.det [13,20] undef] zT (xc zO (xc zO (xc Yn (xc zQb (xc zO (xc Yo (xc WB (xc ztd (xc zO (xc zO (xc Tv (xc zJd (xc zWd (xc zO (xc zN (xc zN (xc zN (xc zN (xc zN (xc zN (xc zN (xc zN (xn))))))))))))))))))))))) zT zT zT (λab=>?_);refine B 12 ?_;exact zlk
  intro cN;refine B 6 ?_;rw[show((s.fas.take m).any (xB Z lk p.1.last))=true from(nZk zM).trans aeW];refine B 18 ?_;refine PJ.again (i+1) zM zM zR rfl rfl z1
 intro aj;refine B 11 ?_;refine ax results3 rfl A4 ?_;rfl
theorem law40_LinksWithin(hZ:FxOk Z)(s:Sc)(hin:uT s)(N:Nat)(w:World)(hN:N<=w.heap.size)(hs:dP N w s)(lk:Lk)(hlk:cT lk)(hg:Glb w):Calls prog 3 #[.agg (rdA s),.slice s.pa s.pls.length s.pc,.agg (lkC lk)] w (av w (.bool true)):=by
 cases hf:qO s with
 |false=>exact nap hZ s hin N w hN hs lk hlk hg hf
 |true=>
  by_cases dc:jv Z s lk=[]
  ·exact nyo hZ s hin N w hN hs lk hlk hg hf dc
  have ha:dw Z s 256 lk=true:=by
   cases h:dw Z s 256 lk with
   |true=>rfl
   |false=>exact absurd (by unfold jv;rw[if_neg (by rw[h];decide)]) dc
  exact nNo hZ s hin N w hN hs lk hlk hg hf ha (List.length_pos_iff.2 dc)
end Px
