/- Contracts of functions of the program. No conditions. -/
import Derived.Test.YtjhfonpoebkgeaaGreatDoorKd
import Derived.Test.YtjhfonpoebkgeaaGreatDoorProg
set_option linter.unusedSimpArgs false
set_option linter.unusedVariables false
set_option linter.unusedSectionVars false
set_option maxRecDepth 20000
set_option maxHeartbeats 8000000
namespace Px
open Go Go.RowKit Go.Proofs Go.Proofs.Tryz
variable {c:Cm} {C:Cx} {E:Env} {fo:Fo} {kv:jL} {Z:Fx} {G:Gh} {g:Gp} {H:ae} {d f o:Int} {q:Int×Pl} {pre:List (Nat×Gp)} {ds:List (Nat×Gv)} {cs:List Cm} {D:List Deferred} {lks:List Lk} {ts:List Pl} {L:List World} {i j k n:Nat} {a:Option Addr} {p x:Pl} {W w:World}
theorem n7f(hF:gH kv)(f:Int)(mb J by_:Nat)(m:Mp)(hm:m.Ok kv)(W:World)(aW:W.heap[J]? =some (oC #[.map (some mb)] 184))(bV:W.heap[by_]? =some (oC #[ab f] 3))(kF:W.heap[mb]? =some (m.obj qB kv)):zj prog 161 [ptr J 0,ptr by_ 0] ak (zk (cA kv f)) (Is (cA kv f)) (λ_=>False) (λk=>k=J\/k=by_\/k=mb) W:=by
 intro l M I X0 hM hI hX hy h0;have bJ:¬(dI hM (λ_=>False) (hI [] _)).X J:=by rintro(h|h);exact(hM _ h).2.2 (.inl rfl);exact h.elim
 have bj:¬(dI hM (λ_=>False) (hI [] _)).X by_:=by rintro(h|h);exact(hM _ h).2.2 (.inr (.inl rfl));exact h.elim
 have Bz:¬(dI hM (λ_=>False) (hI [] _)).X mb:=by rintro(h|h);exact(hM _ h).2.2 (.inr (.inr rfl));exact h.elim
 have xZ:=(bO.1 kF).1;have aR:=(bO.1 aW).1;have vO:=(bO.1 bV).1;refine nP (dI hM (λ_=>False) (hI [] _)) [] (vs:=[_,_,_]) func161 rfl ntmps161 rfl (Nl hM (hI [] _) h0 zP (by simp[ky]) zP) ?_;refine B 4 ?_;refine rq (.tuple #[.agg (plA ((al kv f).getD S5)),.bool (al kv f).isSome]) (kU (ev:=qB) (k:=f) underlying184 underlying3 zeroValue199 hm (bL.old A0 kF Bz trivial) rfl rfl) (by cases al kv f<;>rfl) ?_;refine bX (.tuple #[.agg (plA ((al kv f).getD S5)),.bool (al kv f).isSome]) ?_;refine bD 3 ?_;intro b4 dL dP;refine B 5 ?_;refine CJ.loop (α:=((List Int×Int)×aJ)×Nat) (λp=>[(0,yv l),(1,ptr J 0),(2,ptr by_ 0),(4,ptr p.2 0),(5,.bool (al kv p.1.1.2).isSome)]) (λp=>[(p.2,oC (plA ((al kv p.1.1.2).getD S5)) 199)]) (λp=>[W]) (λp=>dI hM p.1.2 (hI p.1.1.1 p.1.2)) (λp=>p.1.1.1++cA kv p.1.1.2=cA kv f/\(∀k,p.1.2 k->W.heap.size<=k)/\W.heap.size<=p.2) (λp=>(cA kv p.1.1.2).length) ((([],f),λ_=>False),b4) ⟨rfl,λ_ h=>h.elim,by omega⟩ zR rfl rfl zP ?_;rintro⟨⟨⟨pre,g⟩,V⟩,bo⟩ ⟨tA,hV,gI⟩;dsimp only at tA hV gI ⊢;have bJ:¬(dI hM V (hI pre V)).X J:=by rintro(h|h);exact(hM _ h).2.2 (.inl rfl);have:=hV _ h;omega
 have bj:¬(dI hM V (hI pre V)).X by_:=by rintro(h|h);exact(hM _ h).2.2 (.inr (.inl rfl));have:=hV _ h;omega
 have Bz:¬(dI hM V (hI pre V)).X mb:=by rintro(h|h);exact(hM _ h).2.2 (.inr (.inr rfl));have:=hV _ h;omega
 refine B 2 ?_;rcases hq:al kv g with _|q
 ·dsimp only[Option.getD,Option.isSome];refine B 1 ?_;refine Yh ?_;exact zdk
 dsimp only[Option.getD,Option.isSome];by_cases Ng:0<=q.par
 ·refine aV 1 aK ?_;refine B 3 ?_;refine Bf ?_;refine CY (λV=>hI (pre++[q.par]) V) hX hV zP rfl rfl rfl rfl (λW1 vD mY=>hy (pre) (q.par) V W1 ⟨cA kv q.par,by rw[<-tA,L5 hF hq Ng,lP];rfl⟩ vD mY) ?_ ?_
  ·intro V hV;refine bD 15 ?_;intro b4 dL dP;refine B 3 ?_;have bJ:¬(dI hM V (hI (pre++[q.par]) V)).X J:=by rintro(h|h);exact(hM _ h).2.2 (.inl rfl);have:=hV _ h;omega
   have bj:¬(dI hM V (hI (pre++[q.par]) V)).X by_:=by rintro(h|h);exact(hM _ h).2.2 (.inr (.inl rfl));have:=hV _ h;omega
   have Bz:¬(dI hM V (hI (pre++[q.par]) V)).X mb:=by rintro(h|h);exact(hM _ h).2.2 (.inr (.inr rfl));have:=hV _ h;omega
   refine B 4 ?_;refine rq (.tuple #[.agg (plA ((al kv q.par).getD S5)),.bool (al kv q.par).isSome]) (kU (ev:=qB) (k:=q.par) underlying184 underlying3 zeroValue199 hm (bL.old A0 kF Bz zD) rfl rfl) (by cases al kv q.par<;>rfl) ?_;refine bX (.tuple #[.agg (plA ((al kv q.par).getD S5)),.bool (al kv q.par).isSome]) ?_;refine B 5 ?_;refine PJ.dropAt (i:=1) rfl zI ?_;refine PJ.again (((pre++[q.par],q.par),V),b4) ⟨by dsimp only;rw[<-tA,L5 hF hq Ng,lP];rfl,hV,by omega⟩ (by dsimp only;rw[L5 hF hq Ng,kb];omega) zR rfl rfl zP
  intro V hV;refine B 9 ?_;exact CZ (.inl rfl) results161 A0 hV z9b (λA hA=>.inr hA)
 refine aV 1 aK ?_;refine B 3 ?_;refine Je ?_;exact zdk
theorem GY{fn:Func}{R:Ending->World->Prop}{Dk t4 T4 b4 a6:Nat}{J:Array Value}{aq:Nat×Nat}{v4:Value}{e:Exit}(he:e= .ret\/e= .normal)(hr:fn.results=#[.cell t4 T4])(U8:fp C.P T4 false)(a8:look E t4=some (ptr b4 0))(hm:(Dk,.deferred (some []))∈H)(gI:(b4,.cells J a6 aq)∈H)(n4:b4≠Dk)(aR:J[0]? =some v4)(h:∀W H',St G L H' W->H'.map (·.1)=H.map (·.1)->R (.returned v4) W):PJ C (bodyPostM (FW none) 0 C.P fn R) e E [jo Dk] G L H:=
 Bu he hm λa W H' hF hS cB di=>by
  obtain⟨i,hi⟩:=iB.1 (cB _ gI n4);exact⟨_,(RS.w (C:=C) hi U8 a8 aR RS.n).res hr hF hS,h W H' hS di⟩
theorem CJ.st2{c:Code}{Q:bA}(h:∀W,St G L H W->CJ C c Q E D G L H):CJ C c Q E D G L H:=λa W hN hD hF hS=>h W hS a W hN hD hF hS
theorem L6(h:o∈cA kv f):true=eb kv f o:=by grind [eb]
theorem S6(h:∀y∈cA kv f,¬y=o):decide (f=o)=eb kv f o:=by
 grind [eb]
section
variable (hF:gH kv)(mb:Nat)(m:Mp)(hm:m.Ok kv)(f:Int)(o:Int)(w:World)(kF:w.heap[mb]? =some (m.obj qB kv))
include hF mb hm kF
theorem nMk:Calls prog 142 #[.map (some mb),ab f,ab o] w (db w (λb:Bool=>.bool b) (λb _=>b=eb kv f o)):=by
 have xZ:=(bO.1 kF).1;refine Im Gh.no [] (vs:=[_,_,_]) func142 rfl ntmps142 rfl (AX w) ?_;refine aU 2 ?_;intro b5 w5 gQ je pq fK gf;refine bD 1 ?_;intro b6 jb od;refine B 7 ?_;refine zpe ?_;rintro Wu q wn OS a6 ⟨oi,mr,bI,jR,kH⟩;have bR:=a6.size;have c4:=(bO.1 jR).1;have cy:=(bO.1 kH).1;have b0:=(OS.links w5 A0).size;have OT:=(OS.links w A1).size;have cx:=OS.lt (b6,_) A0;refine B 3 ?_;refine Xd (f:=161) (cap:=[ptr q.1 0,ptr q.2 0]) (α:=Int) (enc:=ak) (Pre:=zk (cA kv f)) (Fin:=Is (cA kv f)) (RO:=λk=>k=q.1\/k=q.2\/k=mb) (MI:=λ_=>False) rfl call161 (λW' W2 hS hB=>by have l1:=(hS.links wn A0).size;have l2:=(hS.links w A2).size;have l3:=hB.size;exact n7f hF f mb q.1 q.2 m hm W2 ZF ZG (by rw[hB.block mb aa];exact hS.old A2 kF zL zD)) (λ_ _ _ hk=>hk.elim) (λW' hS k hk=>by have l1:=(hS.links wn A0).size;have l2:=(hS.links w A2).size;simp only[jv,kS,ft,jc,or_false];rcases hk with rfl|rfl|rfl<;>exact⟨by omega,by omega,λh=>h⟩) (λ_=>rfl) (λpre G' Hc=>G'=Gh.no/\(∀y∈pre,¬y=o)/\Hc=[(b6,oC #[aO] 4)]) (λc G' Hc=>c= .ret/\G'=Gh.no/\o∈cA kv f/\Hc=[(b6,oC #[aK] 4)]) ⟨rfl,by simp,rfl⟩ zF ?_ ?_ ?_
 ·rintro pre x G' Hc l Dk rec W1 M V Wy pJ ui gX ⟨rfl,cN,rfl⟩ J jA Np vE cI Io;simp only[ah]at J vE;have bw:=gX.subset (dQ.2 (.inr A0));have je:=cI.z (k:=b5) aa zL zzc zL;refine UE ?_;refine av 8 ?_ ?_
  ·intro ai;refine B 7 ?_;refine nWe (G2:=Gh.no) (Hc2:=[(b6,oC #[aK] 4)]) (c:=.ret) cI jA ⟨λ_ h=>h,λ_ h=>.inl h,λ_ h=>.inl h,Wz,Wz⟩ (.inl ⟨rfl,rfl⟩) rfl ?_;exact⟨rfl,rfl,(by have hxo:x=o:=ew;rw[<-hxo];exact bw),rfl⟩
  intro ai;refine B 2 ?_;refine Jk (G2:=Gh.no) (Hc2:=[(b6,oC #[aO] 4)]) cI jA ⟨λ_ h=>h,λ_ h=>.inl h,λ_ h=>.inl h,(λp hp=>.inl (dO.2 ⟨p,hp,rfl⟩)),(λp hp=>.inl (dO.2 ⟨p,hp,rfl⟩))⟩ (Jl pJ ui) ?_;exact⟨rfl,λy hy=>(dQ.1 hy).elim (cN y) (λh=>by rw[xB.1 h];assumption),rfl⟩
 ·rintro lF l Dk rec G' Hc rfl J jA ⟨rfl,cN,rfl⟩;replace J:=yb J;refine YU λWd vf=>?_;have pj:=Vf vf;refine B 11 ?_;refine GY (b4:=b6) (.inl rfl) results142 isAgg4 rfl Cf A0 (pj _ A0).1 rfl (λW H' hS di=>⟨(decide (f=o)),rfl,?_,S6 cN⟩);exact zUj
 rintro l Dk rec c G' Hc J jA ⟨rfl,rfl,bg,rfl⟩;replace J:=yb J;refine CJ.st2 λWd vf=>?_;have pj:=Vf vf;refine B 3 ?_;refine GY (b4:=b6) (.inl rfl) results142 isAgg4 rfl Cf A0 (pj _ A0).1 rfl (λW H' hS di=>⟨true,rfl,?_,L6 bg⟩);exact zUj
theorem nVe:Calls prog 142 #[.map (some mb),ab f,ab o] w (ar w (.bool (eb kv f o))):=by
 refine(nMk hF mb m hm f o w kF).mono ?_;rintro e w' ⟨b,rfl,hB,rfl⟩;exact⟨rfl,hB⟩
end
def mg (kv:jL) (f:Int):Int:=if f<0 then 0 else 1+((cA kv f).length:Int)
theorem nUd(hF:gH kv)(mb:Nat)(m:Mp)(hm:m.Ok kv)(f:Int)(lf:kv.length<=100000)(w:World)(kF:w.heap[mb]? =some (m.obj qB kv)):Calls prog 159 #[.map (some mb),ab f] w (ar w (ab (mg kv f))):=by
 have xZ:=(bO.1 kF).1;refine eN func159 ntmps159 ?_;refine av 12 ?_ ?_
 ·intro ai;refine B 7 ?_;exact bH (.inl rfl) results159 (RS.t rfl RS.n) λW hS=>⟨congrArg (λn=>Ending.returned (ab n)) (if_pos aa).symm,hS.base A0 True.intro⟩
 intro ai;refine B 6 ?_;refine zpe ?_;rintro Wu q wn OS J ⟨oi,mr,aR,jR,kH⟩;have bw:=J.size;have bg:=(bO.1 jR).1;have bu:=(bO.1 kH).1;have OT:=(OS.links w A0).size;refine Y4 (enc:=ak) (m:=1) (t:=3) (Fin:=Is (cA kv f)) (v:=id) call111 rfl rfl rfl (λW hS=>by
  have l1:=(hS.links wn A0).size;have l2:=(hS.links w A1).size;exact n1f (cap:=[ptr q.1 0,ptr q.2 0]) (Pre:=zk (cA kv f)) (Fin:=Is (cA kv f)) (RO:=λk=>k=q.1\/k=q.2\/k=mb) call161 W (λk hk=>by rcases hk with rfl|rfl|rfl<;>omega) (λp hp=>dS hp.length_le (dS (yS hF f) lf)) (λW2 hB=>n7f hF f mb q.1 q.2 m hm W2 (zYBZ) (zYBa) (by rw[hB.block mb aa];exact hS.old A1 kF zL trivial))) ?_
 rintro xs r rfl aB af;have a6:=yS hF f;obtain⟨a9,c9,e9⟩:∃a9 c9,Rw.val (cA kv f).length r= .slice a9 (cA kv f).length c9:=by
  cases r with
  |nil=>exact⟨none,0,by rw[show cA kv f=[]from af];rfl⟩
  |row b cap sp=>exact⟨_,_,rfl⟩
 refine rx (lQ underlying96 (congrArg some e9)) ?_;refine B 5 ?_;exact bH (.inl rfl) results159 (RS.t rfl RS.n) λW hS=>⟨congrArg (λn=>Ending.returned (ab n)) (if_neg aa).symm,hS.base A1 (by rw[dG];exact Rw.over (Rw.ge_of aB A1))⟩
def rC (kv:jL):Prop:=(kv.map (·.1)).Nodup/\∀q∈kv,q.1=q.2.fol/\eL q.2
theorem ndg{β:Type}:∀{kv:List (Int×β)} {k:Int} {p:β},(kv.map (·.1)).Nodup->(k,p)∈kv->al kv k=some p
 | [],_,_,_,h=>by cases h
 |q::kv,k,p,hn,h=>by
  rw[nMe];simp only[jv,List.nodup_cons]at hn;rcases ft.1 h with rfl|h
  ·simp
  rw[if_neg (λe=>hn.1 cM)];exact ndg hn.2 h
def gT (l:List Int):Int:=l.foldl max 0
theorem nKl(l:List Int)(x:Int):gT (l++[x])=max (gT l) x:=by grind [gT]
theorem S7:∀(l:List Int) (a:Int),a<=l.foldl max a/\(∀x∈l,x<=l.foldl max a)/\(l.foldl max a=a\/l.foldl max a∈l)
 | [],a=>⟨Int.le_refl _,(λx h=>by cases h),.inl rfl⟩
 |y::l,a=>by
  obtain⟨h1,h2,h3⟩:=S7 l (max a y)
  (simp;grind)
theorem nik(l:List Int):0<=gT l:=(S7 l 0).1
theorem GZ{l J:List Int}(h:∀x,x∈l↔x∈J):gT l=gT J:=by
 have a:=S7 l 0;have b:=S7 J 0
 grind [gT]
theorem nYp{l:List Int}{b:Int}(hb:0<=b)(h:∀x∈l,x<=b):gT l<=b:=by
 rcases(S7 l 0).2.2 with e|e;all_goals grind [gT]
def CK:Nat->jL->Int->Int
 |0,_,_=>0
 |n+1,kv,f=>gT ((List.range kv.length).map λj=>match kv[j]? with|some q=>if q.2.par=f then CK n kv q.2.fol else 0|none=>0)+1
def mh (kv:jL) (f:Int):Int:=CK (kv.length+1) kv f
def qi (kv:jL) (f:Int) (j:Nat):Int:=match kv[j]? with|some q=>if q.2.par=f then mh kv q.2.fol else 0|none=>0
theorem G0(kv:jL):∀n f,0<=CK n kv f/\CK n kv f<=(n:Int)
 |0,f=>by simp[CK]
 |n+1,f=>by
  unfold CK;have h0:=nik ((List.range kv.length).map λj=>match kv[j]? with|some q=>if q.2.par=f then CK n kv q.2.fol else 0|none=>0);have h1:gT ((List.range kv.length).map λj=>match kv[j]? with|some q=>if q.2.par=f then CK n kv q.2.fol else 0|none=>0)<=(n:Int):=by
   refine nYp aa λx hx=>?_;obtain⟨j,_,rfl⟩:=dO.1 hx;split
   ·split
    ·exact(G0 kv n _).2
    omega
   omega
  omega
theorem nag(hF:gH kv)(hk:rC kv)(hq:kv[j]? =some q)(hp:q.2.par=f)(hf:0<=f):(cA kv q.2.fol).length=(cA kv f).length+1:=by
 have hm:=cF hq;have e:=(hk.2 q hm).1;have hg:al kv q.2.fol=some q.2:=by rw[<-e];exact ndg hk.1 hm
 grind [L5]
theorem nbq{kv:jL}(hF:gH kv)(hk:rC kv):∀n f,0<=f->kv.length<n+(cA kv f).length->CK (n+1) kv f=CK n kv f
 |0,f,hf,h=>absurd (yS hF f) aa
 |n+1,f,hf,h=>by
  rw[CK];congr 2;apply List.map_congr_left;intro j _;cases hq:kv[j]? with
  |none=>rfl
  |some q=>
   dsimp only;split
   ·rename_i hp;have h1:=nag hF hk hq hp hf;have h2:=(hk.2 q (cF hq)).2.2.2.1.1;exact nbq hF hk n _ h2 aa
   rfl
theorem nek(hF:gH kv)(hk:rC kv)(f:Int)(hf:0<=f):mh kv f=gT ((List.range kv.length).map (qi kv f))+1:=by
 unfold mh;rw[CK];congr 2;apply List.map_congr_left;intro j _;unfold qi;cases hq:kv[j]? with
 |none=>rfl
 |some q=>
  dsimp only;split
  ·rename_i hp;have h1:=nag hF hk hq hp hf;have h2:=(hk.2 q (cF hq)).2.2.2.1.1;exact(nbq hF hk kv.length _ h2 aa).symm
  rfl
theorem G3(kv:jL)(f:Int):0<=mh kv f/\mh kv f<=(kv.length:Int)+1:=by have:=G0 kv (kv.length+1) f;grind [mh]
theorem L7(hq:kv[j]? =some q)(hp:q.2.par=f)(js:List Nat):max (gT (js.map (qi kv f))) (mh kv q.2.fol)=gT ((js++[j]).map (qi kv f)):=by
 grind [nKl,qi]
theorem S9(hq:kv[j]? =some q)(hp:¬q.2.par=f)(js:List Nat):gT (js.map (qi kv f))=gT ((js++[j]).map (qi kv f)):=by
 rw[iM,jv,kS,nKl];have:qi kv f j=0:=by unfold qi;rw[hq];exact if_neg hp
 have:=nik (js.map (qi kv f));omega
theorem Ta(kv:jL)(f:Int)(js:List Nat):0<=gT (js.map (qi kv f))/\gT (js.map (qi kv f))<=(kv.length:Int)+1:=by
 refine⟨nik _,nYp aa λx hx=>?_⟩;obtain⟨j,_,rfl⟩:=dO.1 hx;unfold qi;split
 ·split
  ·exact(G3 kv _).2
  omega
 omega
theorem L8(hF:gH kv)(hk:rC kv)(hf:0<=f){js:List Nat}(hl:∀j∈js,j<kv.length)(cN:∀j,j<kv.length->j∈js):gT (js.map (qi kv f))+1=mh kv f:=by
 grind [nek,GZ]
theorem G4(hF:gH kv)(hk:rC kv)(lf:kv.length<=100000)(mb:Nat)(m:Mp)(hm:m.Ok kv)(b1 b2:Nat)(f:Int)(hf:0<=f)(w:World)(hw:(w.heap[b1]? =some (oC #[.map (some mb)] 184)/\w.heap[b2]? =some (oC #[.func (.func 222) #[] #[ptr b1 0,ptr b2 0]] 254)/\w.heap[mb]? =some (m.obj qB kv)))(ih:∀(g:Int) (W:World),0<=g->(cA kv g).length=(cA kv f).length+1->(W.heap[b1]? =some (oC #[.map (some mb)] 184)/\W.heap[b2]? =some (oC #[.func (.func 222) #[] #[ptr b1 0,ptr b2 0]] 254)/\W.heap[mb]? =some (m.obj qB kv))->Calls prog 222 #[ab g,ptr b1 0,ptr b2 0] W (ar W (ab (mh kv g)))):Calls prog 222 #[ab f,ptr b1 0,ptr b2 0] w (ar w (ab (mh kv f))):=by
 obtain⟨aW,bV,kF⟩:=hw;have bJ:¬Gh.no.X b1:=λh=>h;have bj:¬Gh.no.X b2:=λh=>h;have a6:=(bO.1 aW).1;have vO:=(bO.1 bV).1;have xZ:=(bO.1 kF).1;refine cH 14 func222 ntmps222 ?_;refine Y2 (ev:=qB) underlying184 (bL.old A0 kF zL trivial) rfl rfl rfl ?_;intro rb we Y3;replace we:=yb we;refine B 3 ?_;refine CJ.loop (α:=List Nat) (λp=>[(0,ab f),(1,ptr b1 0),(2,ptr b2 0),(5,ab (gT (p.map (qi kv f)))),(9,ptr rb 0)]) (λp=>[(rb,m.it mb p)]) (λp=>[w]) (λp=>Gh.no) (λp=>p.Nodup/\(∀j∈p,j<kv.length)) (λp=>kv.length-p.length) [] ⟨List.nodup_nil,by simp⟩ zR rfl rfl zP ?_;rintro js ⟨hnd,uD⟩;dsimp only at hnd uD ⊢;have Jj:=Ta kv f js;refine B 2 ?_;refine N6 (ev:=qB) (i:=0) rfl hm (bL.old A0 kF zL zD) uD rfl rfl rfl (λcN=>?_) (λJ pn uE uF=>?_)
 ·refine B 18 ?_;refine aS (.inl rfl) results222 aL A0 zH ?_;exact congrArg ab (L8 hF hk hf uD cN)
 refine B 10 ?_;refine rx (Em (ev:=qB) (i:=0) rfl hm (bL.old A0 kF zL zD) uE rfl) ?_;refine bX (.agg (plA pn.2)) ?_;refine bD 1 ?_;intro b7 ie lu;refine av 11 ?_ ?_
 ·intro ai;refine aV 2 (.func (.func 222) #[] #[ptr b1 0,ptr b2 0]) ?_;refine B 2 ?_;refine nU (v:=ab (mh kv pn.2.fol)) (f:=222) (cap:=[ptr b1 0,ptr b2 0]) rfl call222 rfl rfl rfl (λW hS=>ih pn.2.fol W (hk.2 pn (cF uE)).2.2.2.1.1 (nag hF hk uE ew hf) ⟨hS.old A0 aW zL zD,hS.old A0 bV zL zD,hS.old A0 kF zL zD⟩) ?_;refine rq (ab (gT ((js++[J]).map (qi kv f)))) (xT rfl rfl) (congrArg ab (L7 uE ew js)) ?_;refine B 3 ?_;refine lx ?_;refine PJ.again (js++[J]) ⟨(N5 hnd uD uE uF).1,(N5 hnd uD uE uF).2.1⟩ zDc zR rfl rfl zP
 intro ai;refine B 2 ?_;refine lx ?_;refine PJ.again (js++[J]) ⟨(N5 hnd uD uE uF).1,(N5 hnd uD uE uF).2.1⟩ zDc ⟨rfl,rfl,rfl,congrArg (λz=>some (ab z)) (S9 uE ew js),rfl,trivial⟩ rfl rfl zP
theorem wI{kv:jL}(hF:gH kv)(hk:rC kv)(J:kv.length<=100000)(mb:Nat)(m:Mp)(hm:m.Ok kv)(b1 b2:Nat):∀(n:Nat) (f:Int) (w:World),0<=f->kv.length<n+(cA kv f).length->(w.heap[b1]? =some (oC #[.map (some mb)] 184)/\w.heap[b2]? =some (oC #[.func (.func 222) #[] #[ptr b1 0,ptr b2 0]] 254)/\w.heap[mb]? =some (m.obj qB kv))->Calls prog 222 #[ab f,ptr b1 0,ptr b2 0] w (ar w (ab (mh kv f)))
 |0,f,w,hf,hn,_=>absurd (yS hF f) aa
 |n+1,f,w,hf,hn,hw=>G4 hF hk J mb m hm b1 b2 f hf w hw λg W hg hd hW=>wI hF hk J mb m hm b1 b2 n g W hg aa hW
theorem nxd(hF:gH kv)(hk:rC kv)(J:kv.length<=100000)(mb:Nat)(m:Mp)(hm:m.Ok kv)(f:Int)(hf:0<=f)(w:World)(kF:w.heap[mb]? =some (m.obj qB kv)):Calls prog 160 #[.map (some mb),ab f] w (ar w (ab (mh kv f))):=by
 have xZ:=(bO.1 kF).1;refine eN func160 ntmps160 ?_;refine aU 2 ?_;intro b2 w2 bV bj dz cL cR;refine bD 6 ?_;intro b5 fK gf;refine aV 10 (.func (.func 222) #[] #[ptr b2 0,ptr b5 0]) ?_;refine B 1 ?_;refine nU (v:=ab (mh kv f)) (f:=222) (cap:=[ptr b2 0,ptr b5 0]) rfl call222 rfl rfl rfl (λW hS=>wI hF hk J mb m hm b2 b5 (kv.length+1) f W hf aa ⟨hS.old A0 bV zL zD,hS.own (b5,_) A0,hS.old A1 kF zL zD⟩) ?_;refine B 4 ?_;exact bH (.inl rfl) results160 aL λW hS=>⟨rfl,hS.base A1 uy⟩
theorem sl5{b t:Nat}{fr:Nat×Nat}{c1 c2 c3 c4 J:Int}(hb:w.heap[b]? =some (.cells #[ab c1,ab c2,ab c3,ab c4,ab J] t fr)):aj encI 1 w.heap.size w (aH b) [c1,c2,c3,c4,J]:=
 .inr ⟨b,0,_,t,fr,rfl,(bO.1 hb).1,hb,by
  intro i hi
  match i,hi with
  |0,_=>simp[cut,encI]
  |1,_=>simp[cut,encI]
  |2,_=>simp[cut,encI]
  |3,_=>simp[cut,encI]
  |4,_=>simp[cut,encI]⟩
theorem nAh(x y:Pl)(w:World):Calls prog 158 #[.agg (plA x),.agg (plA y)] w (ar w (ab (plC x y))):=by
 refine eN func158 ntmps158 ?_;refine aU 2 ?_;intro b2 w2 bV bj dz cL cR;refine yX ?_;intro b3 w3 bQ aZ dK cP dt;refine B 4 ?_;refine eA 24 (pb:=by exact zU 4 (k:=by exact dh (X.cv call220 rfl (λW hS _=>Zr _ _ W)) (zU 4 (k:=by exact dh (X.cv call220 rfl (λW hS _=>Zr _ _ W)) (zU 4 (k:=by exact dh (X.cv call220 rfl (λW hS _=>Zr _ _ W)) (zU 4 (k:=by exact dh (X.cv call220 rfl (λW hS _=>Zr _ _ W)) zT)))))))) (k:=?_);refine cl call221 rfl (λW hS=>L3 _ _ W) ?_;refine Jp ?_;refine yV ?_;intro J bg aq aR a8 a6 bu;refine cl call219 rfl (λW hS=>S4 [cj x.time y.time,cj x.dev y.dev,cj x.fol y.fol,cj x.par y.par,Go.Lib.compareBytes x.nm.data.toList y.nm.data.toList] zP W.heap.size (aH J) 5 W (aC _) (sl5 (hS.old A0 aq zL trivial))) ?_;refine B 4 ?_;refine ao results158 rfl A3 ?_;rfl
def vB:List Pl->Nat->List Pl
 |l,0=>l
 |l,j+1=>match l[j+1]?,l[j]? with
  |some x,some y=>if plC x y<0 then vB ((l.set (j+1) y).set j x) j else l
  |_,_=>l
def mS:List Pl->Nat->Nat->List Pl
 |l,0,_=>l
 |l,k+1,i=>mS (vB l i) k (i+1)
def rD (xs:List Pl):List Pl:=mS xs (xs.length-1) 1
theorem nMp{l:List Pl}{y:Pl}(hx:l[j+1]? =some x)(hy:l[j]? =some y)(h:plC x y<0):vB l (j+1)=vB ((l.set (j+1) y).set j x) j:=by grind [vB]
theorem noj{l:List Pl}{y:Pl}(hx:l[j+1]? =some x)(hy:l[j]? =some y)(h:¬plC x y<0):vB l (j+1)=l:=by grind [vB]
theorem n2m:∀(j:Nat) (l:List Pl),(vB l j).length=l.length
 |0,l=>by rw[vB]
 |j+1,l=>by
  unfold vB;split
  ·split
   ·rw[n2m j,OU,OU]
   rfl
  rfl
theorem ndn{cur:List Pl}(h:i<n):mS cur (n-i) i=mS (vB cur i) (n-(i+1)) (i+1):=by
 rw[show n-i=(n-(i+1))+1 by omega,mS]
theorem nTm:∀(j:Nat) (l:List Pl) (z:Pl),z∈vB l j->z∈l
 |0,l,z,h=>by grind [vB]
 |j+1,l,z,h=>by
  unfold vB at h;split at h
  ·split at h
   ·have h1:=nTm j _ z h
    grind
   exact h
  exact h
theorem n3p:∀(k i:Nat) (l:List Pl) (z:Pl),z∈mS l k i->z∈l
 |0,i,l,z,h=>by grind [mS]
 |k+1,i,l,z,h=>by exact nTm i l z (n3p k (i+1) _ z h)
theorem n2p:∀(k i:Nat) (l:List Pl),(mS l k i).length=l.length
 |0,i,l=>by rw[mS]
 |k+1,i,l=>by rw[mS,n2p k,n2m]
theorem nmj(xs:List Pl):(rD xs).length=xs.length:=n2p _ _ _
theorem G5{xs:List Pl}{z:Pl}(h:z∈rD xs):z∈xs:=n3p _ _ _ _ h
section
variable (xs:List Pl)(de:xs.length<=12)(b cp:Nat)(sp:List Value)(w:World)(hb:w.heap[b]? =some (cT fu 199 xs sp))
include xs de b cp sp hb
theorem nks:Calls prog 267 #[.slice (aH b) xs.length cp,ab 0,ab (xs.length:Int),.func (.func 158) #[] #[]] w (λe w'=>e= .returned (.tuple #[])/\aQ (· =b) w w'/\w'.heap[b]? =some (cT fu 199 (rD xs) sp)):=by
 have J:=(bO.1 hb).1;refine nP (Gh.lent (· =b)) [(b,cT fu 199 xs sp)] (vs:=[_,_,_,_]) func267 rfl ntmps267 rfl (Dm hb) ?_;refine B 8 ?_;refine CJ.lp (α:=Nat×List Pl) [0,1,2,3] (λp=>[(8,ab (p.1:Int))]) (λp=>[(b,cT fu 199 p.2 sp)]) (λp=>1<=p.1/\p.1<=xs.length+1/\p.2.length=xs.length/\mS p.2 (xs.length-p.1) p.1=rD xs) (λp=>xs.length+1-p.1) (1,xs) ⟨aC _,by dsimp only;omega,rfl,rfl⟩ ?_;rintro⟨i,cur⟩ ⟨Af,N2,qx,hcr⟩;dsimp only at Af N2 qx hcr ⊢;refine av 8 ?_ ?_
 ·intro ai;refine B 11 ?_;refine CJ.lp (α:=Nat×List Pl) [0,1,2,3,8] (λp=>[(9,ab (p.1:Int))]) (λp=>[(b,cT fu 199 p.2 sp)]) (λp=>p.1<=i/\p.2.length=xs.length/\vB p.2 p.1=vB cur i) (λp=>p.1) (i,cur) ⟨aC _,qx,rfl⟩ ?_;rintro⟨j,yT⟩ ⟨hj,Tb,hsk⟩;dsimp only at hj Tb hsk ⊢;refine B 2 ?_;rcases j with _|j1
  ·refine eA 14 (sp:=(_::_::(some aO)::_)) (k:=?_);refine B 17 ?_;exact zKj
  obtain⟨x,hx⟩:=ng yT (j1+1) aa;obtain⟨y,hy⟩:=ng yT j1 aa;by_cases jz:plC x y<0
  ·refine eA 14 (pb:=zYI) (sp:=[_,_,some aK,_,_,_,_,_,_,_,_,some (ab ((j1:Nat):Int)),_,_]) (k:=?_);refine nU (v:=ab (plC x y)) (f:=158) (cap:=[]) rfl call158 rfl rfl rfl (λW hS=>nAh x y W) ?_;refine bX aK ?_;refine B 8 ?_;refine nE (E':=[(0,_),(1,_),(2,_),(3,_),(8,_),(9,_),(18,_),(19,_),(20,_),(21,_),(22,_),(23,_),(24,_),(25,_),(26,_),(27,_),(28,_),(29,_),(30,_),(31,_),(32,_),(33,_),(34,_)]) zR ?_;refine CJ.chn 16 [13,15] [_,_,_,_,_,_,_,_,_,_,_,_,_,none,_,none] (λcv L' H'=>match cv with| []=>L'=[w]/\H'=[(b,cT fu 199 yT sp)]| [v1]=>v1= .agg (plA x)/\L'=[w]/\H'=[(b,cT fu 199 yT sp)]| [v1,v2]=>v1= .agg (plA x)/\v2= .tuple #[]/\L'=[w]/\H'=[(b,cT fu 199 (yT.set (j1+1) y) sp)]|_=>False) (pc zX (pc zX (pc zX (pc zX (pc zIc (pc zX (pc zX (pc zIc (pc zec (pc zcy (pc zX (pc zX (pc zec (pk (pc zec (pk (pn))))))))))))))))) ?_ ?_
   ·refine ss rfl ?_ ?_
    ·intro cv L' H' hl hP F Q' hk;obtain rfl:=oJ hl;obtain⟨rfl,rfl⟩:=hP;refine rq (.agg (plA x)) (eh (i:=0) rfl isAgg199 sizeOf199 rfl (CF (j:=j1+1) nq aa)) (va (CE (j:=j1+1) (sp:=sp) nq hx)) ?_;exact OJ.done (hk _ _ _ ⟨rfl,rfl,rfl⟩)
    refine ss rfl ?_ ?_
    ·intro cv L' H' hl hP F Q' hk;obtain⟨v1,rfl⟩:=gh hl;obtain⟨rfl,rfl,rfl⟩:=hP;refine E6 (enc:=fu) (m:=5) (i:=0) (j:=j1+1) (z:=y) rfl nq GW sizeOf199 rfl rfl rfl zP aa rfl rfl ?_;exact OJ.done (hk (.tuple #[]) _ _ ⟨rfl,rfl,rfl,rfl⟩)
    exact nn
   intro cv L' H' hl hP;obtain⟨v1,v2,rfl⟩:=kY hl;obtain⟨rfl,rfl,rfl,rfl⟩:=hP;refine B 1 ?_;refine E6 (enc:=fu) (m:=5) (i:=0) (j:=j1) (z:=x) rfl nq GW sizeOf199 rfl rfl rfl zP (by simp only[OU];omega) rfl rfl ?_;refine aV 5 (ab ((j1:Nat):Int)) ?_;refine B 2 ?_;refine ag (j1,(yT.set (j1+1) y).set j1 x) ⟨by dsimp only;omega,by dsimp only;rw[OU,OU];exact Tb,by dsimp only;rw[<-hsk,nMp hx hy jz]⟩
  refine eA 14 (pb:=zYI) (sp:=[_,_,some aK,_,_,_,_,_,_,_,_,some (ab ((j1:Nat):Int)),_,_]) (k:=?_);refine nU (v:=ab (plC x y)) (f:=158) (cap:=[]) rfl call158 rfl rfl rfl (λW hS=>nAh x y W) ?_;refine XO ?_;exact zKj
 intro ai;refine B 4 ?_;exact bH (.inr rfl) (rs:=[]) results267 aL λW hS=>⟨rfl,hS.baseX A0 IF,by have h9:=hS.own (b,_) A0;rw[show xs.length-i=0 by omega,mS]at hcr;rw[<-hcr];exact h9⟩
theorem Tc(lim:Int):Calls prog 218 #[.slice (aH b) xs.length cp,ab 0,ab (xs.length:Int),ab lim,.func (.func 158) #[] #[]] w (λe w'=>e= .returned (.tuple #[])/\aQ (· =b) w w'/\w'.heap[b]? =some (cT fu 199 (rD xs) sp)):=by
 have J:=(bO.1 hb).1;refine nP (Gh.lent (· =b)) [(b,cT fu 199 xs sp)] (vs:=[_,_,_,_,_]) func218 rfl ntmps218 rfl (Dm hb) ?_;refine B 11 ?_;refine CJ.lp (α:=Unit) [0,1,2,3,4,10,11] (λp=>[]) (λp=>[(b,cT fu 199 xs sp)]) (λp=>True) (λp=>0) () trivial ?_;rintro⟨⟩ _;refine aV 5 (ab (xs.length:Int)) ?_;refine aV 7 aK ?_;refine B 9 ?_;refine ntg (γ:=Unit) (i:=0) (b:=b) (o:=cT fu 199 xs sp) (v:=λ_=>.tuple #[]) (ob:=λ_=>cT fu 199 (rD xs) sp) (Φ:=λ_=>True) (first:=[]) (cap:=[]) rfl rfl call267 rfl rfl rfl (λW hS h=>(nks xs de b cp sp W h).mono λe w2 h=>⟨(),h.1,h.2.1,trivial,h.2.2⟩) ?_;rintro⟨⟩ -;refine B 7 ?_;exact bH (.inl rfl) (rs:=[]) results218 aL λW hS=>⟨rfl,hS.baseX A0 IF,hS.own (b,_) A0⟩
theorem G6:Calls prog 157 #[.slice (aH b) xs.length cp,.func (.func 158) #[] #[]] w (λe w'=>e= .returned (.tuple #[])/\aQ (· =b) w w'/\w'.heap[b]? =some (cT fu 199 (rD xs) sp)):=by
 have J:=(bO.1 hb).1;refine nP (Gh.lent (· =b)) [(b,cT fu 199 xs sp)] (vs:=[_,_]) func157 rfl ntmps157 rfl (Dm hb) ?_;refine B 12 ?_;refine cl call144 rfl (λW hS=>nze _ aa aa W) ?_;refine B 1 ?_;refine ntg (γ:=Unit) (i:=0) (b:=b) (o:=cT fu 199 xs sp) (v:=λ_=>.tuple #[]) (ob:=λ_=>cT fu 199 (rD xs) sp) (Φ:=λ_=>True) (first:=[]) (cap:=[]) rfl rfl call218 rfl rfl rfl (λW hS h=>(Tc xs de b cp sp W h _).mono λe w2 h=>⟨(),h.1,h.2.1,trivial,h.2.2⟩) ?_;rintro⟨⟩ -;refine B 1 ?_;exact bH (.inr rfl) (rs:=[]) results157 aL λW hS=>⟨rfl,hS.baseX A0 IF,hS.own (b,_) A0⟩
end
theorem G7{β:Type}{l:List (Int×β)}{k:Int}{v:β}{q:Int×β}(h:q∈cJ l k v):q=(k,v)\/q∈l:=by
 grind [cJ]
theorem gH.nil:gH []:=⟨λ_=>0,λk p h=>by simp[al,eK]at h⟩
theorem rC.nil:rC []:=⟨List.nodup_nil,λq h=>by cases h⟩
theorem nCp(h:eb kv f o=false):¬f=o/\o∉cA kv f:=by
 grind [eb]
theorem gH.put(h:gH kv)(hp:0<=p.par->eb kv p.par p.fol=false):gH (cJ kv p.fol p):=by
 by_cases h0:0<=p.par
 ·obtain⟨kq,iL⟩:=nCp (hp h0);refine⟨λx=>if x=p.fol\/p.fol∈cA kv x then(cA kv x).length+(cA kv p.par).length+1 else(cA kv x).length,λk q hk h1=>?_⟩
  grind [nS,L5]
 refine⟨λx=>(cA kv x).length,λk q hk h1=>?_⟩;rw[nS]at hk;by_cases e:k=p.fol
 ·grind
 rw[if_neg e]at hk;exact h.rank k q hk h1
theorem rC.put(h:rC kv)(hp:eL p):rC (cJ kv p.fol p):=by
 refine⟨QT h.1,λq hq=>?_⟩;rcases G7 hq with rfl|hq
 ·grind
 exact h.2 q hq
def L9 (kv:jL) (p:Pl):Prop:=(0<=p.par/\((al kv p.par).isSome=false\/eb kv p.par p.fol=true))\/8<mg kv p.par+mh kv p.fol
instance (kv:jL) (p:Pl):Decidable (L9 kv p):=by unfold L9;infer_instance
def BZ (kv:jL) (p:Pl):jL:=if L9 kv p then kv else cJ kv p.fol p
def dV (l:List Pl):List Pl:=rD (l.filter λx=> !!decide (eL x))
def gN (ys:List Pl) (j:Nat):jL:=(ys.take j).foldl BZ []
def nC (l:List Pl):jL:=gN (dV l) (dV l).length
theorem nwg{l:List Pl}(h:p∈dV l):eL p:=by
 have:=(vy.1 (G5 h)).2
 grind
theorem nsn(l:List Pl):(dV l).length<=l.length:=by grind [dV,nmj]
theorem G8{ys:List Pl}(h:ys[j]? =some p):gN ys (j+1)=BZ (gN ys j) p:=by simp_all[gN,nk]
theorem OV(h:L9 kv p):BZ kv p=kv:=if_pos h
theorem WA(h:¬L9 kv p):BZ kv p=cJ kv p.fol p:=if_neg h
theorem nBn{ys:List Pl}(hy:∀p∈ys,eL p):∀j,j<=ys.length->gH (gN ys j)/\rC (gN ys j)/\(gN ys j).length<=j
 |0,_=>⟨gH.nil,rC.nil,aC _⟩
 |j+1,h=>by
  obtain⟨p,hp⟩:=ng ys j aa;obtain⟨h1,h2,h3⟩:=nBn hy j aa;rw[G8 hp];by_cases hb:L9 (gN ys j) p
  ·grind [OV]
  rw[WA hb];refine⟨h1.put λh0=>?_,h2.put (hy p (cF hp)),dS (Vi _ _ _) aa⟩;cases hw:eb (gN ys j) p.par p.fol with
  |false=>rfl
  |true=>exact absurd (.inl ⟨h0,.inr hw⟩) hb
theorem Ma(h:gH kv)(f:Int):0<=mg kv f/\mg kv f<=(kv.length:Int)+1:=by
 grind [yS,mg]
theorem nid{c:Code}{Q:bA}{H0 H1:ae}{α:Type}{enc:α->List Value}{m t:Nat}{xs:List α}{r:Rw}(hH:H=H0++(r.hp enc t xs++H1))(hm:∀x,(enc x).length=m)(cQ:r.Fit m xs)(sk:r.Fr G L)(k:∀W a cp,r.val xs.length= .slice a xs.length cp->aj (λx=>(enc x).toArray) m W.heap.size W a xs->(∀w∈L,w.heap.size<=W.heap.size)->(∀p∈H0++H1,W.heap[p.1]? =some p.2)->CJ C c Q E D G (W::L) (H0++H1)):CJ C c Q E D G L H:=λa W hN hD hF hS=>by
 have hA:r.At enc t xs W:=by
  cases r with
  |nil=>trivial
  |row b cap sp=>exact hS.own (b,_) (by grind [Rw.hp])
 obtain⟨a9,c9,e9,h9⟩:=r.sl hm cQ hA (aC _);have J:St G L (H0++H1) W:=by
  cases r with
  |nil=>grind [Rw.hp]
  |row b cap sp=>
   have:=hS.dropAtF (i:=H0.length) (b:=b) (o:=cT enc t xs sp) (by grind [Rw.hp]) sk
   grind [Rw.hp]
 exact k W a9 c9 e9 h9 (λw hw=>(hS.links w hw).size) (λp hp=>J.own p hp) a W hN hD hF J.snap
theorem nGi(f:Nat)(cap:List Value)(aF:fh prog f)(w:World):Calls prog 153 #[bS,.func (.func f) #[] cap.toArray] w (ar w (bS)):=by
 refine cH 9 func153 ntmps153 ?_;refine ny (α:=Int) (v:=λi:Int=>ab i) (Φ:=λ_ i _=>eE (λ_:Pl=>false) [] i) call216 rfl rfl rfl (λW hS=>nQh (λ_=>false) f cap aF [] zP W.heap.size none 0 W (aC _) (.inl rfl) (λj x hx=>by simp at hx)) ?_;intro Wi i wi yw J hi;have Af:i= -1:=by rcases hi with⟨h,_⟩|⟨k,x,_,hx,_⟩;(exact h);simp at hx
 subst Af;refine B 7 ?_;refine Cl ?_;refine ao results153 rfl A1 ?_;rfl
theorem nwm(w:World):Calls prog 267 #[bS,ab 0,ab 0,.func (.func 158) #[] #[]] w (ar w (.tuple #[])):=by
 refine cH 8 func267 ntmps267 ?_;refine zre ?_;rintro j _;refine B 5 ?_;refine xf ?_;exact aS (.inr rfl) results267 aL A0 trivial rfl
theorem n7q(l:Int)(w:World):Calls prog 218 #[bS,ab 0,ab 0,ab l,.func (.func 158) #[] #[]] w (ar w (.tuple #[])):=by
 refine cH 11 func218 ntmps218 ?_;refine zse ?_;rintro j _;refine X2 ?_;refine B 9 ?_;refine cl call267 rfl (λW hS=>nwm W) ?_;refine B 7 ?_;exact aS (.inl rfl) results218 aL A0 trivial rfl
theorem nZo(w:World):Calls prog 157 #[bS,.func (.func 158) #[] #[]] w (ar w (.tuple #[])):=by
 refine eN func157 ntmps157 ?_;refine zri ?_;refine cl call218 rfl (λW hS=>n7q _ W) ?_;refine B 1 ?_;exact aS (.inr rfl) results157 aL A0 trivial rfl
def rE (a:Option Addr) (l c m:Nat):Option Addr:=a.map λq=>⟨q.block,if c=l then q.off else q.off+l*m,none⟩
theorem AF{T:Nat}{x:Operand}{c e m l h:Nat}{lo hi:Option Operand}(hU:C.P.underlying T=some (.slice e))(hZ:nV C.P e m)(hx:ev E x=some (.slice a n c))(ha:∀q,a=some q->q.spot=none)(hl:BE E lo 0 l)(hh:BE E hi n h)(h1:l<=h)(h2:h<=c):RV C G L H E (.slice T x lo hi none) (.slice (rE a l c m) (h-l) (c-l)):=by
 cases a with
 |some q=>obtain⟨b,off,s⟩:=q;obtain rfl:s=none:=ha _ rfl;exact hQ hU hZ hx hl hh h1 h2 rfl
 |none=>
  intro d ty pos aD g ac W hF _;have:=nck (P:=C.P) (W:=W) hF true hl hh h1 h2;simp[execOp,hF.ev hx,Instr.sliceAt,Instr.slice,run_underlying hU,this,hZ W,rE]
theorem Td{T:Nat}{x:Operand}{c e m h:Nat}{hi:Option Operand}(hU:C.P.underlying T=some (.slice e))(hZ:nV C.P e m)(hx:ev E x=some (.slice a n c))(ha:∀q,a=some q->q.spot=none)(hh:BE E hi n h)(h2:h<=c):RV C G L H E (.slice T x none hi none) (.slice a h c):=by
 have h9:=AF (G:=G) (L:=L) (H:=H) (lo:=none) (l:=0) hU hZ hx ha rfl hh (cd _) h2;have e:rE a 0 c m=a:=by
  cases a with
  |none=>rfl
  |some q=>obtain⟨b,off,s⟩:=q;grind [rE]
 grind
section
variable {α:Type}{enc:α->Array Value}{N:Nat}{xs:List α}(h:aj enc n N w a xs)
include N xs h
theorem aj.tk(k:Nat):aj enc n N w a (xs.take k):=by
 grind [aj]
theorem aj.drp(l c:Nat)(hc:xs.length<=c):aj enc n N w (rE a l c n) (xs.drop l):=by
 rcases h with h|⟨b,off,cs,t,fr,h1,h2,h3,h4⟩
 ·grind [aj,rE]
 by_cases hl:l<xs.length
 ·refine .inr ⟨b,off+l*n,cs,t,fr,by grind [rE],h2,h3,λi hi=>?_⟩
  grind
 grind [aj,rE,cut]
end
theorem Rw.val_cap{α:Type}{r:Rw}{m cp:Nat}{xs:List α}(J:r.Fit m xs)(e:r.val xs.length= .slice a xs.length cp):xs.length<=cp/\∀q,a=some q->q.spot=none:=by
 cases r with
 |nil=>
  grind [Rw.val]
 |row b cap sp=>
  grind [Rw.val,Rw.Fit]
theorem Rw.Fr_sub{r:Rw}{L':List World}(h:r.Fr G L)(hs:∀w∈L',w∈L):r.Fr G L':=by
 cases r with
 |nil=>trivial
 |row b cap sp=>exact h.imp id λh=>h.sub hs
noncomputable def fm (Z:Fx) (cs:List Cm) (g:Gp) (j:Nat):List Int:=(qA Z cs g j).map λn=>((n:Nat):Int)
theorem nKp{le:Nat->Nat->Bool}{i:Nat}:∀{a:Nat} {l:List Nat},a<=l.length->(∀t n,t<a->l[t]? =some n->le i n=false)->(∀n,l[a]? =some n->le i n=true)->uV le l i=l.take a++[i]++l.drop a
 |0,[],_,_,_=>rfl
 |0,b::l,_,_,h=>by grind [uV]
 |a+1,[],h,_,_=>by rfl
 |a+1,b::l,h0,h1,h2=>by
  unfold uV;rw[if_neg (by rw[h1 0 b aa rfl];decide),nKp (a:=a) cM (λt n J hn=>h1 (t+1) n aa cM) (λn hn=>h2 n cM)];rfl
theorem nJo:∀{j n:Nat},n∈qA Z cs g j->n<j
 |0,n,h=>by simp[qA]at h
 |j+1,n,h=>by
  (induction j<;>grind [qA,nPe])
theorem n9p{Z:Fx}{cs:List Cm}{g:Gp}:∀j,(qA Z cs g j).length<=j
 |0=>aC _
 |j+1=>by
  have ih:=n9p (Z:=Z) (cs:=cs) (g:=g) j;unfold qA;split
  ·omega
  split
  ·rw[(nPe _ _ _).length_eq,eU,VV];omega
  omega
theorem nll(j:Nat):(fm Z cs g j).length<=j:=by grind [fm,n9p]
theorem Te(hc:cs[i]? =some c)(h:¬(eH Z g c=0/\rm Z cs i c=false)):fm Z cs g (i+1)=fm Z cs g i:=by
 grind [fm,qA]
theorem nZp{a:Nat}(hc:cs[i]? =some c)(h:eH Z g c=0/\rm Z cs i c=false)(ha:a<=(fm Z cs g i).length)(h1:∀t n,t<a->(qA Z cs g i)[t]? =some n->rR Z cs g i n=false)(h2:∀n,(qA Z cs g i)[a]? =some n->rR Z cs g i n=true):fm Z cs g (i+1)=(fm Z cs g i).take a++[(i:Int)]++(fm Z cs g i).drop a:=by
 unfold fm at *;rw[jg]at ha;simp[qA,hc];rw[if_pos h,nKp ha h1 h2];simp
theorem G9{a:Cm}(hn:cs[n]? =some a)(hc:cs[i]? =some c):rR Z cs g i n= !(sQ Z g a c):=by
 have:=CO.ky3.anti (OQ Z g a) (OQ Z g c)
 grind [Ay,OQ,rR,sQ]
noncomputable def qj (Z:Fx) (cs:List Cm) (e:Int) (c:Cm) (k:Nat):Bool:=decide (e≠0)||(cs.take k).any λx=>gV (aE Z x) (aE Z c)
theorem abF(Z:Fx)(cs:List Cm)(e:Int)(c:Cm):decide (e≠0)=qj Z cs e c 0:=by unfold qj;simp
theorem Ha{e:Int}{y:Cm}(hy:cs[k]? =some y)(h:qj Z cs e c k=false):gV (aE Z y) (aE Z c)=qj Z cs e c (k+1):=by
 grind [qj,Sz]
theorem Tf{e:Int}(h:qj Z cs e c k=true)(hk:k<=i):¬(e=0/\rm Z cs i c=false):=by
 (induction i<;>grind [rm,qj])
theorem Tg{e:Int}(h:qj Z cs e c i=false):e=0/\rm Z cs i c=false:=by
 grind [qj,rm]
theorem nSk(hZ:FxOk Z)(G:Gv)(qq:NB G.g.ns)(cs:List Cm)(hcs:cs.length<=1000)(cZ:∀c∈cs,ck c)(N:Nat)(la:Option Addr)(lc:Nat)(w:World)(hN:N<=w.heap.size)(hG:aM N w G)(aA:aj cW 73 N w la cs)(hC:∀c∈cs,dc N w c):Calls prog 164 #[.agg (aY G),.slice la cs.length lc] w (nv w ak 1 3 (fm Z cs G.g cs.length) id):=by
 refine eN func164 ntmps164 ?_;refine aU 2 ?_;intro b2 w2 bV bj dz cL cR;refine B 15 ?_;refine CJ.loop (α:=Rw×Nat) (λp=>[(1,.slice la cs.length lc),(2,ptr b2 0),(5,p.1.val (fm Z cs G.g p.2).length),(6,ab (p.2:Int))]) (λp=>p.1.hp ak 3 (fm Z cs G.g p.2)++[]) (λp=>[w2,w]) (λp=>Gh.no) (λp=>p.2<=cs.length/\p.1.Fr Gh.no [w2,w]/\p.1.Fit 1 (fm Z cs G.g p.2)) (λp=>cs.length-p.2) (.nil,0) ⟨cd _,True.intro,rfl⟩ zR rfl rfl zP ?_;rintro⟨r,i⟩ ⟨hj,aB,af⟩;dsimp only at hj aB af ⊢;have bW:r.ge w2.heap.size:=Rw.ge_of aB A0;refine av 9 ?_ ?_
 ·intro ai;refine B 5 ?_;obtain⟨bo,oo,cs0,to,dR,rfl,dW,fY,ay⟩:=aA.get aa;obtain⟨c,hc⟩:=ng cs i aa;have hcm:=cF hc;obtain⟨e,he⟩:∃e,eH Z G.g c=e:=⟨_,rfl⟩;have tO:=nll (Z:=Z) (cs:=cs) (g:=G.g) i;refine tS 11 [5,6,7,8,9,10] [[],[0],[0,1],[0,1],[],[0,1,2,4]] (λcv L' H'=>∃(J:Gv) (b7:Nat),cv=[some (.tuple #[.agg (aY J),ab e]),some (.tuple #[.agg (aY J),ab e]),some (.agg (aY J)),some (ab e),some (ptr b7 0),some (.tuple #[])]/\L'=[w2,w]/\H'=[(b7,oC (aY J) 86)]++(r.hp ak 3 (fm Z cs G.g i)++[])/\w2.heap.size<=b7) (sp:=[some (.agg (aY G)),some (.slice (some ⟨bo,oo,none⟩) cs.length lc),_,_,some (.agg (cW c)),_,_,_,none,_,_]) (t:=?_) (k:=?_)
  ·repeat' first|exact tZ|(refine tU rfl ?_)|(refine tR rfl ?_ ?_)|(refine tN jI ?_)|(exact tE jI vA ⟨J,b7,rfl,rfl,rfl,ie⟩)|(intro _ _ hk;(first|(refine B 1 ?_;refine OJ.done (hk _ _ _ ?_))|(have:=gK 5 hk;refine B 1 ?_;refine OJ.done (hk (.tuple #[]) _ _ ?_))|(have:=gK 4 hk;refine B 1 ?_;intro b7 ha ho;have ie:w2.heap.size<=b7:=(ha.mem w2 zP);refine OJ.done (hk _ _ _ ?_))|(refine ny (α:=Gv) (v:=λJ=>.tuple #[.agg (aY J),ab e]) (Φ:=λ_ _ _=>True) call119 rfl rfl rfl (λW hS=>by rw[<-he];exact(nnh hZ G qq c (cZ c hcm) N W aT (hG.us (hS.same A1 hN zO zQ)) ((hC c hcm).us (hS.same A1 hN zO zQ))).mono (λe9 w9 h9=>by obtain⟨J,g1,g2,_⟩:=h9;exact⟨J,g1,g2,trivial⟩)) ?_;rintro W9 J w9- - -;refine OJ.fewL (L':=[w2,w]) (λw h=>.tail _ h) ?_;refine OJ.done (hk _ _ _ ?_))))
  rintro _ _ _ ⟨J,b7,rfl,rfl,rfl,ie⟩;refine B 4 ?_;refine CJ.dropAt (i:=0) rfl zI ?_;refine B 2 ?_;refine rq (.bool (decide (e≠0))) (aN rfl rfl) zP ?_;refine B 10 ?_;refine CJ.loop (α:=Nat) (λk=>[(1,.slice (some ⟨bo,oo,none⟩) cs.length lc),(2,ptr b2 0),(5,r.val (fm Z cs G.g i).length),(6,ab (i:Int)),(9,.bool (qj Z cs e c k)),(10,ab (k:Int))]) (λk=>r.hp ak 3 (fm Z cs G.g i)++[]) (λk=>[w2,w]) (λk=>Gh.no) (λk=>k<=i) (λk=>i-k) 0 (cd _) ⟨rfl,rfl,rfl,rfl,congrArg (λz=>some (Value.bool z)) (abF Z cs e c),rfl,trivial⟩ rfl rfl zP ?_;rintro k lf;refine B 2 ?_;by_cases bw:¬k<i
  ·refine UX ?_;refine B 14 ?_;by_cases hm:qj Z cs e c k=true
   ·refine B 1 ?_;exact z6k
   have bu:k=i:=by omega
   have aR:=Tg (bu▸Bool.eq_false_iff.2 hm);refine zui ?_;refine B 12 ?_;refine CJ.loop (α:=Nat) (λa=>[(1,.slice (some ⟨bo,oo,none⟩) cs.length lc),(2,ptr b2 0),(5,r.val (fm Z cs G.g i).length),(6,ab (i:Int)),(11,ab (a:Int))]) (λa=>r.hp ak 3 (fm Z cs G.g i)++[]) (λa=>[w2,w]) (λa=>Gh.no) (λa=>a<=(fm Z cs G.g i).length/\∀t n,t<a->(qA Z cs G.g i)[t]? =some n->rR Z cs G.g i n=false) (λa=>(fm Z cs G.g i).length-a) 0 ⟨cd _,λt n h=>absurd h aa⟩ zR rfl rfl zP ?_;rintro a ⟨a6,hlt⟩;refine B 2 ?_;by_cases dC:¬a<(fm Z cs G.g i).length
   ·refine eA 17 (pb:=by exact zU 2 (k:=by exact qv (iN underlying96 af rfl) zT)) (sp:=(_::_::_::(some aO)::_)) (k:=?_);refine B 10 ?_;have B0:=nZp hc (show eH Z G.g c=0/\rm Z cs i c=false by rw[he];exact aR) a6 hlt (λn2 uk=>by have:=aG uk;unfold fm at dC;rw[jg]at dC;omega);exact zCi
   obtain⟨b9,c9,s9,rfl⟩:=Rw.row_of af aa;have yQ:w2.heap.size<=b9:=bW;obtain⟨n,hn⟩:=ng (qA Z cs G.g i) a (by unfold fm at dC;rw[jg]at dC;omega);have Cy:=nJo (cF hn);obtain⟨cn,vw⟩:=ng cs n aa;have yU:=cF vw;have hnO:(fm Z cs G.g i)[a]? =some ((n:Nat):Int):=by unfold fm;rw[alt,hn];rfl
   by_cases hb:sQ Z G.g cn c=true
   ·refine eA 17 (pb:=zYX) (sp:=[_,_,_,some aK,_,some (.agg (aY G)),some (.slice (some ⟨bo,oo,none⟩) cs.length lc),some (.slice (aH b9) (fm Z cs G.g i).length c9),_,_,_,_,some (.agg (cW cn)),some (.slice (some ⟨bo,oo,none⟩) cs.length lc),_,_,some (.agg (cW c))]) (k:=?_);refine cl call225 rfl (λW hS=>by have h9:=nDk hZ G cn c (cZ cn yU) (cZ c hcm) N W aT (hG.us (hS.same A1 hN zO zQ)) ((hC cn yU).us (hS.same A1 hN zO zQ)) ((hC c hcm).us (hS.same A1 hN zO zQ));rw[hb]at h9;exact h9) (v:=.bool true) ?_;refine B 13 ?_;refine ag (a+1) ⟨by omega,λt n2 ht uk=>by by_cases e2:t=a;(subst e2;rw[hn]at uk;cases uk;rw[G9 vw hc,hb];rfl);exact hlt t n2 aa uk⟩
   refine eA 17 (pb:=zYX) (sp:=[_,_,_,some aK,_,some (.agg (aY G)),some (.slice (some ⟨bo,oo,none⟩) cs.length lc),some (.slice (aH b9) (fm Z cs G.g i).length c9),_,_,_,_,some (.agg (cW cn)),some (.slice (some ⟨bo,oo,none⟩) cs.length lc),_,_,some (.agg (cW c))]) (k:=?_);refine cl call225 rfl (λW hS=>by have h9:=nDk hZ G cn c (cZ cn yU) (cZ c hcm) N W aT (hG.us (hS.same A1 hN zO zQ)) ((hC cn yU).us (hS.same A1 hN zO zQ)) ((hC c hcm).us (hS.same A1 hN zO zQ));rw[Bool.eq_false_iff.2 hb]at h9;exact h9) (v:=.bool false) ?_;refine B 9 ?_;have B0:=nZp hc (show eH Z G.g c=0/\rm Z cs i c=false by rw[he];exact aR) a6 hlt (λn2 uk=>by rw[hn]at uk;cases uk;rw[G9 vw hc,Bool.eq_false_iff.2 hb];rfl);exact zCi
  by_cases hm:qj Z cs e c k=true
  ·refine NG ?_;refine B 1 ?_;refine zOf ?_;refine B 13 ?_;exact z6k
  refine NG ?_;refine zui ?_;refine B 9 ?_;obtain⟨y,hy⟩:=ng cs k aa;have rO:=cF hy;refine eA 9 (pb:=by exact zU 4 (k:=by exact dh (X.cv call163 rfl (λW hS _=>Wv hZ y (cZ y rO) N W aT ((hC y rO).us (hS.same A1 hN zO zQ)))) zT)) (sp:=[_,_,_,some (.agg (cW y)),some (.agg (dg (aE Z y))),_,_,_,some (.agg (cW c))]) (k:=?_);refine cl call163 rfl (λW hS=>Wv hZ c (cZ c hcm) N W aT ((hC c hcm).us (hS.same A1 hN zO zQ))) (v:=.agg (dg (aE Z c))) ?_;refine rr (.bool (gV (aE Z y) (aE Z c))) (lR wZ zF nT rfl rfl rfl) ?_;refine B 9 ?_;refine PJ.again (k+1) aa aa ⟨rfl,rfl,rfl,rfl,congrArg (λz=>some (Value.bool z)) (Ha hy (Bool.eq_false_iff.2 hm)),rfl,trivial⟩ rfl rfl zP
 intro ai;refine B 12 ?_;obtain rfl:i=cs.length:=by omega
 exact nB (H0:=[]) (H1:=[]) (r:=r) (.inl rfl) results164 aL A1 zS rfl af (Rw.ge_of aB A1) zP
noncomputable def rU (Z:Fx) (cs:List Cm) (g:Gp) (k:Nat):List Nat:=(iH (iI cs) (qA Z cs g cs.length) k).1
noncomputable def jh (Z:Fx) (cs:List Cm) (g:Gp) (k:Nat):List Int:=(rU Z cs g k).map λn=>((n:Nat):Int)
def I3 (cs:List Cm) (l:List Nat) (c:Cm) (j:Nat):Bool:=(l.take j).any λx=>decide ((iI cs x).author≠c.author)&&(iI cs x).chs.any (lY c.author)
theorem nMn(h:n∈rU Z cs g k):n<cs.length:=nJo ((VX _ _ k).1 n h)
theorem nup(k:Nat):(jh Z cs g k).length<=k:=by grind [jh,rU,n7k]
theorem CL(h:cs[n]? =some c):iI cs n=c:=by grind [iI]
theorem abH(h:(qA Z cs g cs.length)[k]? =some n)(hc:cs[n]? =some c)(hs:I3 cs (rU Z cs g k) c (rU Z cs g k).length=true):jh Z cs g (k+1)=jh Z cs g k:=by
 grind [jh,rU,VY,rk,CL,I3]
theorem Th(h:(qA Z cs g cs.length)[k]? =some n)(hc:cs[n]? =some c)(hs:I3 cs (rU Z cs g k) c (rU Z cs g k).length=false):jh Z cs g (k+1)=jh Z cs g k++[(n:Int)]:=by
 unfold jh rU;rw[Az h,iM];rfl
 grind [rk,CL,I3,rU]
theorem nAi{l:List Nat}{a:Cm}{m:Nat}(hm:l[j]? =some m)(ha:cs[m]? =some a):I3 cs l c (j+1)=(I3 cs l c j||(decide (a.author≠c.author)&&a.chs.any (lY c.author))):=by
 grind [I3,Sz,CL]
theorem OW(hZ:FxOk Z):rS Z cs g=(rU Z cs g (fm Z cs g cs.length).length).foldl (oX (iI cs)) none:=by
 grind [rS,fm,rU,Sy,LI]
theorem nqp{cf:Nat->Cm}{l:List Nat}{x b:Nat}(hx:l[i]? =some x)(hb:(l.take i).foldl (oX cf) none=some b):(l.take (i+1)).foldl (oX cf) none=some (if qZ (cf b).chs<qZ (cf x).chs then x else b):=by
 rw[nk hx,List.foldl_append];grind [oX]
theorem nHj(hZ:FxOk Z)(G:Gv)(qq:NB G.g.ns)(cs:List Cm)(hcs:cs.length<=1000)(cZ:∀c∈cs,ck c)(N:Nat)(la:Option Addr)(lc:Nat)(w:World)(hN:N<=w.heap.size)(hG:aM N w G)(aA:aj cW 73 N w la cs)(hC:∀c∈cs,dc N w c):Calls prog 118 #[.agg (aY G),.slice la cs.length lc] w (ar w (.tuple #[ab (((rS Z cs G.g).getD 0:Nat):Int),.bool (rS Z cs G.g).isSome])):=by
 refine eN func118 ntmps118 ?_;refine aU 2 ?_;intro b2 w2 bV bj dz cL cR;refine B 6 ?_;refine Rg ?_;refine nN (enc:=ak) (m:=1) (t:=3) (xs:=(fm Z cs G.g cs.length)) (v:=id) (first:=[]) (cap:=[]) rfl call164 rfl rfl rfl nh (λW hS=>nSk hZ G qq cs hcs cZ N la lc W aT (hG.us hS.sm) (aA.us hS.sm) (λc hc=>(hC c hc).us hS.sm)) ?_;intro e0 dv GN J GO SQ SR gq;have gC:=(GO.links w A1).size;have eY:=SQ.size;have GP:=GO.under;replace GP:=yg GP;refine B 15 ?_;refine CJ.loop (α:=Rw×Nat) (λp=>[(1,.slice la cs.length lc),(6,.slice dv (fm Z cs G.g cs.length).length GN),(7,p.1.val (jh Z cs G.g p.2).length),(8,ab (p.2:Int))]) (λp=>p.1.hp ak 3 (jh Z cs G.g p.2)++[]) (λp=>[J,w2,w]) (λp=>Gh.no) (λp=>p.2<=(fm Z cs G.g cs.length).length/\p.1.Fr Gh.no [J,w2,w]/\p.1.Fit 1 (jh Z cs G.g p.2)) (λp=>(fm Z cs G.g cs.length).length-p.2) (.nil,0) ⟨cd _,True.intro,rfl⟩ zR rfl rfl zP ?_;rintro⟨r,i⟩ ⟨hj,aB,af⟩;dsimp only at hj aB af ⊢;have bW:r.ge J.heap.size:=Rw.ge_of aB A0;refine av 9 ?_ ?_
 ·intro ai;refine B 5 ?_;have tO:=nll (Z:=Z) (cs:=cs) (g:=G.g) cs.length;have c4:=nup (Z:=Z) (cs:=cs) (g:=G.g) i;obtain⟨n,hn⟩:=ng (qA Z cs G.g cs.length) i (by unfold fm at *;rw[jg]at *;omega);have Cy:=nJo (cF hn);obtain⟨bo,oo,cs0,to,dR,rfl,dW,fY,ay⟩:=aA.get aa;obtain⟨cb,bg⟩:=ng cs n aa;have fi:=cF bg;have hnO:(fm Z cs G.g cs.length)[i]? =some ((n:Nat):Int):=by unfold fm;rw[alt,hn];rfl
  obtain⟨bu,bw,e4,e5,eT,rfl,gi,bx,amr⟩:=SR.get aa;refine B 11 ?_;refine CJ.loop (α:=Nat) (λk=>[(1,.slice (some ⟨bo,oo,none⟩) cs.length lc),(6,.slice (some ⟨bu,bw,none⟩) (fm Z cs G.g cs.length).length GN),(7,r.val (jh Z cs G.g i).length),(8,ab (i:Int)),(9,.bool (I3 cs (rU Z cs G.g i) cb k)),(10,ab (k:Int))]) (λk=>r.hp ak 3 (jh Z cs G.g i)++[]) (λk=>[J,w2,w]) (λk=>Gh.no) (λk=>k<=(jh Z cs G.g i).length) (λk=>(jh Z cs G.g i).length-k) 0 (cd _) zR rfl rfl zP ?_;rintro k D9;refine B 5 ?_;refine zTf ?_;refine av 3 ?_ ?_
  ·intro ax;refine B 5 ?_;obtain⟨b9,c9,s9,rfl⟩:=Rw.row_of af aa;have yQ:J.heap.size<=b9:=bW;obtain⟨m,hm⟩:=ng (rU Z cs G.g i) k (zYBH);have ml:=nMn (cF hm);obtain⟨ca,a6⟩:=ng cs m aa;have Mc:=cF a6;have mO:(jh Z cs G.g i)[k]? =some ((m:Nat):Int):=by unfold jh;rw[alt,hm];rfl
   refine tS 17 [14,15,16] [[],[],[0,1]] (λcv L' H'=>∃(jk:Nat) (jw:Nat),cv=[some (ptr jk 0),some (ptr jw 0),some (.tuple #[])]/\L'=[J,w2,w]/\H'=[(jw,oC (cW default) 100),(jk,oC (cW ca) 100)]++((Rw.row b9 c9 s9).hp ak 3 (jh Z cs G.g i)++[])/\(J.heap.size<=jk/\w2.heap.size<=jk/\w.heap.size<=jk)/\(J.heap.size<=jw/\w2.heap.size<=jw/\w.heap.size<=jw)) (pb:=by exact zU 4 (k:=by exact qv (RV.re (me (enc:=ak) (t:=3) (xs:=(jh Z cs G.g i)) (sp:=s9) (f:=0) nh qw isAgg3 rfl zP mO rfl) rfl) (zU 6 (k:=by exact qv (RV.re (ad (v:=ab (n:Int)) isAgg3 rfl A0 bx zL zKb zqd) rfl) zT)))) (sp:=[some (.slice (some ⟨bo,oo,none⟩) cs.length lc),some (.slice (aH b9) (jh Z cs G.g i).length c9),_,_,some (ab (m:Int)),_,some (.agg (cW ca)),some (.slice (some ⟨bo,oo,none⟩) cs.length lc),some (.slice (some ⟨bu,bw,none⟩) (fm Z cs G.g cs.length).length GN),_,_,some (ab (n:Int)),_,some (.agg (cW cb)),_,_,_]) (t:=?_) (k:=?_)
   ·repeat' first|exact tZ|(refine tU rfl ?_)|(refine tR rfl ?_ ?_)|(refine tN jI ?_)|(exact tE jI vA ⟨jk,jw,rfl,rfl,rfl,lN,qM⟩)|(intro _ _ hk;(first|(have:=gK 2 hk;refine B 1 ?_;refine OJ.done (hk (.tuple #[]) _ _ ?_))|(have:=gK 0 hk;refine B 1 ?_;intro jk ha ho;refine OJ.perm (H':=[(jw,oC (cW default) 100),(jk,oC (cW default) 100)]++((Rw.row b9 c9 s9).hp ak 3 (jh Z cs G.g i)++[])) (List.Perm.swap _ _ _) ?_;have lN:(J.heap.size<=jk/\w2.heap.size<=jk/\w.heap.size<=jk):=⟨ha.mem J zP,ha.mem w2 zP,ha.mem w zP⟩;refine OJ.done (hk _ _ _ ?_))|(have:=gK 1 hk;refine B 1 ?_;intro jw ha ho;have qM:(J.heap.size<=jw/\w2.heap.size<=jw/\w.heap.size<=jw):=⟨ha.mem J zP,ha.mem w2 zP,ha.mem w zP⟩;refine OJ.done (hk _ _ _ ?_))|(have:=gK 0 hk;refine B 1 ?_;intro jk ha ho;have lN:(J.heap.size<=jk/\w2.heap.size<=jk/\w.heap.size<=jk):=⟨ha.mem J zP,ha.mem w2 zP,ha.mem w zP⟩;refine OJ.done (hk _ _ _ ?_))))
   rintro _ _ _ ⟨jk,jw,rfl,rfl,rfl,lN,qM⟩;refine B 3 ?_;by_cases hs:(I3 cs (rU Z cs G.g i) cb k)=true
   ·refine B 2 ?_;refine rq aK (dp rfl) (vb (hs)) ?_;refine B 21 ?_;refine vo ?_;refine PJ.again (k+1) aa aa ⟨rfl,rfl,rfl,rfl,congrArg (λz=>some (Value.bool z)) (Eq.symm (by rw[nAi hm a6,hs,Bool.true_or])),rfl,trivial⟩ rfl rfl zP
   by_cases hu:¬ca.author≠cb.author
   ·refine B 2 ?_;refine zof ?_;refine aV 1 (ab ca.author) ?_;refine aV 1 (ab cb.author) ?_;refine rq aO (aN rfl rfl) (vb (by simpa using hu)) ?_;refine B 16 ?_;refine vo ?_;refine PJ.again (k+1) aa aa ⟨rfl,rfl,rfl,rfl,congrArg (λz=>some (Value.bool z)) (Eq.symm (by rw[nAi hm a6,Bool.eq_false_iff.2 hs,decide_eq_false hu];rfl)),rfl,trivial⟩ rfl rfl zP
   by_cases hr:ca.chs.any (lY cb.author)=true
   ·refine zUh ?_;refine cl call165 rfl (λW hS=>by have h9:=nQi ca (by have:=(cZ ca Mc).few.chs;omega) N W aT ((hC ca Mc).chs.up (aC _) (hS.same A2 hN zO zQ)) cb.author;rw[hr]at h9;exact h9) (v:=.bool true) ?_;refine B 11 ?_;refine vo ?_;refine PJ.again (k+1) aa aa ⟨rfl,rfl,rfl,rfl,congrArg (λz=>some (Value.bool z)) (Eq.symm (by rw[nAi hm a6,Bool.eq_false_iff.2 hs,hr,decide_eq_true (Classical.not_not.1 hu)];rfl)),rfl,trivial⟩ rfl rfl zP
   refine zUh ?_;refine cl call165 rfl (λW hS=>by have h9:=nQi ca (by have:=(cZ ca Mc).few.chs;omega) N W aT ((hC ca Mc).chs.up (aC _) (hS.same A2 hN zO zQ)) cb.author;rw[Bool.eq_false_iff.2 hr]at h9;exact h9) (v:=.bool false) ?_;refine B 11 ?_;refine vo ?_;refine PJ.again (k+1) aa aa ⟨rfl,rfl,rfl,rfl,congrArg (λz=>some (Value.bool z)) (Eq.symm (by rw[nAi hm a6,Bool.eq_false_iff.2 hs,Bool.eq_false_iff.2 hr,Bool.and_false];rfl)),rfl,trivial⟩ rfl rfl zP
  intro ax;refine B 6 ?_;have lf:k=(rU Z cs G.g i).length:=by unfold jh at *;rw[jg]at *;omega
  by_cases a8:(I3 cs (rU Z cs G.g i) cb k)=true
  ·refine B 1 ?_;refine rq aK (dp rfl) (vb (a8)) ?_;refine B 12 ?_;have p8:=abH hn bg (lf▸a8);exact zfj
  refine B 1 ?_;refine rq aO (dp rfl) (vb (Bool.eq_false_iff.2 a8)) ?_;refine aV 6 (.slice (some ⟨bu,bw,none⟩) (fm Z cs G.g cs.length).length GN) ?_;refine B 2 ?_;refine rx (ad (v:=ab (n:Int)) isAgg3 rfl A0 bx zL zD zqd) ?_;refine uC ?_;refine yW ?_;intro dd gk e8;refine jf (r:=r) (xs:=(jh Z cs G.g i)) (zs:=[(n:Int)]) (enc:=ak) (m:=1) (H0:=[(dd,oC #[ab (n:Int)] 3)]) (H1:=[]) pP vY nh rfl rfl rfl rfl (bN.one (z:=(n:Int)) nh v7 underlying96 (bL.own (i:=0) rfl)) af aB zP vn ?_;intro cQ c6 ea ei Tj;refine Sk ?_;have p8:=Th hn bg (lf▸Bool.eq_false_iff.2 a8);refine PJ.again (Rw.row cQ c6 ea,i+1) ⟨by dsimp only;omega,ei.elim (λh=>Rw.Fr_at aB h) (λh=>.inr h),by dsimp only;rw[p8];exact Tj⟩ zZ ⟨rfl,rfl,zYBj,rfl,trivial⟩ (zYBj) rfl zP
 intro ai;refine B 7 ?_;have tO:=nll (Z:=Z) (cs:=cs) (g:=G.g) cs.length;have c4:=nup (Z:=Z) (cs:=cs) (g:=G.g) i;by_cases h0:(jh Z cs G.g i).length=0
 ·refine B 2 ?_;refine zTf ?_;refine Cl ?_;have aR:=OW hZ (cs:=cs) (g:=G.g);obtain rfl:i=(fm Z cs G.g cs.length).length:=by omega
  have ed:(rU Z cs G.g (fm Z cs G.g cs.length).length)=[]:=oJ (by unfold jh at h0;rw[jg]at h0;exact h0);rw[ed]at aR;refine aS (.inl rfl) results118 aL A2 zQ ?_;rw[aR];rfl
 refine B 2 ?_;refine zTf ?_;refine pN ?_;obtain⟨b9,c9,s9,rfl⟩:=Rw.row_of af aa;have yQ:J.heap.size<=b9:=bW;obtain⟨m0,qo⟩:=ng (rU Z cs G.g i) 0 (zYBH);have en:=nMn (cF qo);obtain⟨c0,cO⟩:=ng cs m0 aa;have e3:=cF cO;have c5:(jh Z cs G.g i)[0]? =some ((m0:Nat):Int):=by unfold jh;rw[alt,qo];rfl
 refine B 3 ?_;refine rx (me (enc:=ak) (t:=3) (xs:=(jh Z cs G.g i)) (sp:=s9) (f:=0) nh qw isAgg3 rfl zP c5 rfl) ?_;refine B 10 ?_;refine CJ.loop (α:=Nat×Nat) (λp=>[(1,.slice la cs.length lc),(7,.slice (aH b9) (jh Z cs G.g i).length c9),(13,ab (p.1:Int)),(14,ab ((p.2:Int)+1))]) (λp=>(Rw.row b9 c9 s9).hp ak 3 (jh Z cs G.g i)++[]) (λp=>[J,w2,w]) (λp=>Gh.no) (λp=>p.2+1<=(jh Z cs G.g i).length/\((rU Z cs G.g i).take (p.2+1)).foldl (oX (iI cs)) none=some p.1/\p.1<cs.length) (λp=>(jh Z cs G.g i).length-p.2) (m0,0) ⟨by dsimp only;omega,by dsimp only;rw[nk qo];rfl,en⟩ zR rfl rfl zP ?_;rintro⟨bb,j⟩ ⟨dt,KF,kx⟩;dsimp only at dt KF kx ⊢;refine B 5 ?_;refine zTf ?_;refine av 3 ?_ ?_
 ·intro bY;refine B 5 ?_;obtain⟨bo,oo,cs0,to,dR,rfl,dW,fY,ay⟩:=aA.get aa;obtain⟨cy,B0⟩:=ng cs bb aa;have b0:=cF B0;obtain⟨x,hx⟩:=ng (rU Z cs G.g i) (j+1) (zYBH);have xl:=nMn (cF hx);obtain⟨cx,p8⟩:=ng cs x aa;have bR:=cF p8;have xO:(jh Z cs G.g i)[(j+1)]? =some ((x:Nat):Int):=by unfold jh;rw[alt,hx];rfl
  refine eA 12 (pb:=by exact zU 4 (k:=by exact qv (me (enc:=ak) (t:=3) (xs:=(jh Z cs G.g i)) (sp:=s9) (f:=0) nh qw isAgg3 rfl zP xO rfl) (zU 2 (k:=by exact dh (X.cv call166 rfl (λW hS _=>n2h cx (by have:=(cZ cx bR).few.chs;omega) N W aT ((hC cx bR).chs.up (aC _) (hS.same A2 hN zO zQ)))) zT)))) (sp:=[some (.slice (some ⟨bo,oo,none⟩) cs.length lc),some (.slice (aH b9) (jh Z cs G.g i).length c9),_,_,_,_,some (.agg (cW cx)),some (ab (qZ cx.chs:Int)),some (.slice (some ⟨bo,oo,none⟩) cs.length lc),_,_,some (.agg (cW cy))]) (k:=?_);refine cl call166 rfl (λW hS=>n2h cy (by have:=(cZ cy b0).few.chs;omega) N W aT ((hC cy b0).chs.up (aC _) (hS.same A2 hN zO zQ))) (v:=ab (qZ cy.chs:Int)) ?_;refine av 3 ?_ ?_
  ·intro ez;refine aV 1 (.slice (aH b9) (jh Z cs G.g i).length c9) ?_;refine B 2 ?_;refine rx (me (enc:=ak) (t:=3) (xs:=(jh Z cs G.g i)) (sp:=s9) (f:=0) nh qw isAgg3 rfl zP xO rfl) ?_;refine B 9 ?_;refine ag (x,j+1) ⟨by dsimp only;omega,by dsimp only;rw[nqp hx KF,CL p8,CL B0,if_pos aa],xl⟩
  intro ez;refine B 8 ?_;refine ag (bb,j+1) ⟨by dsimp only;omega,by dsimp only;rw[nqp hx KF,CL p8,CL B0,if_neg aa],kx⟩
 intro bY;refine B 13 ?_;have aR:=OW hZ (cs:=cs) (g:=G.g);obtain rfl:i=(fm Z cs G.g cs.length).length:=by omega
 rw[show(rU Z cs G.g (fm Z cs G.g cs.length).length).foldl (oX (iI cs)) none=some bb by rw[<-KF,lE];unfold jh at *;rw[jg]at *;omega]at aR;refine aS (.inl rfl) results118 aL A2 zQ ?_;rw[aR];rfl
def WB (ts:List Pl) (f:Int):Option Pl:=ts.find? λq=>decide (q.fol=f)
theorem nzp(h:cE (λq:Pl=>decide (q.fol=f)) ts j)(hx:ts[j]? =some x)(hk:x.fol=f):WB ts f=some x:=VO h hx cM
theorem Tk(h:cE (λq:Pl=>decide (q.fol=f)) ts j)(hj:¬j<ts.length):WB ts f=none:=Z6 h hj
def sR (p:Pl):Int:=if eL p then 0 else 270
theorem nbd(h:¬eL p):ab 270=ab (sR p):=by grind [sR]
theorem nmc(h:eL p):ab 0=ab (sR p):=by grind [sR]
theorem ngs(p:Pl)(w:World):Calls prog 180 #[.agg (plA p)] w (ar w (ab (sR p))):=by
 refine eN func180 ntmps180 ?_;refine aU 2 ?_;intro b1 w1 aW bJ eO dC fg;refine B 10 ?_;refine nf (t:=6) rfl (λai=>?_) (λai=>?_)
 ·replace ai:=ya ai;refine B 56 ?_;exact Hd
 replace ai:=ya ai;refine B 5 ?_;refine nf (t:=11) rfl (λax=>?_) (λax=>?_)
 ·replace ax:=ya ax;refine B 51 ?_;exact Hd
 replace ax:=ya ax;refine B 5 ?_;refine nf (t:=16) rfl (λbY=>?_) (λbY=>?_)
 ·replace bY:=ya bY;refine B 46 ?_;exact Hd
 replace bY:=ya bY;refine B 5 ?_;refine nf (t:=21) rfl (λJ=>?_) (λJ=>?_)
 ·replace J:=ya J;refine B 41 ?_;exact Hd
 replace J:=ya J;refine B 5 ?_;refine nf (t:=26) rfl (λeB=>?_) (λeB=>?_)
 ·replace eB:=ya eB;refine B 36 ?_;exact Hd
 replace eB:=ya eB;refine B 5 ?_;refine nf (t:=31) rfl (λgq=>?_) (λgq=>?_)
 ·replace gq:=ya gq;refine B 31 ?_;exact Hd
 replace gq:=ya gq;refine B 5 ?_;refine nf (t:=36) rfl (λfw=>?_) (λfw=>?_)
 ·replace fw:=ya fw;refine B 26 ?_;exact Hd
 replace fw:=ya fw;refine B 5 ?_;refine nf (t:=41) rfl (λja=>?_) (λja=>?_)
 ·replace ja:=ya ja;refine B 21 ?_;exact Hd
 replace ja:=ya ja;refine B 2 ?_;refine zBg ?_;refine B 3 ?_;refine nf (t:=47) rfl (λjz=>?_) (λjz=>?_)
 ·replace jz:=ya jz;refine B 15 ?_;exact Hd
 replace jz:=ya jz;refine B 2 ?_;refine zBg ?_;refine av 4 ?_ ?_
 ·intro ji;refine B 7 ?_;exact Hd
 intro ji;refine B 8 ?_;exact Hd
theorem nai(ts:List Pl)(OY:ts.length<=1000000)(N:Nat)(a:Option Addr)(cp:Nat)(w:World)(hN:N<=w.heap.size)(aA:aj plA 5 N w a ts)(f:Int):Calls prog 125 #[.slice a ts.length cp,ab f] w (ar w (.tuple #[.agg (plA ((WB ts f).getD default)),.bool (WB ts f).isSome])):=by
 refine eN func125 ntmps125 ?_;refine bD 3 ?_;intro b4 dL dP;refine B 10 ?_;refine CJ.lp (α:=Nat) [0,1,4] (λj=>[(6,ab (j:Int))]) (λj=>[(b4,oC (plA default) 199)]) (λj=>j<=ts.length/\cE (λq:Pl=>decide (q.fol=f)) ts j) (λj=>ts.length-j) 0 ⟨cd _,λi x hi=>absurd hi aa⟩ ?_;rintro j ⟨hj,bT⟩;refine av 9 ?_ ?_
 ·intro ai;refine B 5 ?_;obtain⟨bo,oo,cs0,to,dR,rfl,dW,hcs,ay⟩:=aA.get aa;obtain⟨x,hx⟩:=ng ts j aa;refine B 5 ?_;refine rx (ad (v:=ab x.fol) isAgg3 rfl A0 hcs zL zD (nu ay hx rfl 2 zF)) ?_;refine av 4 ?_ ?_
  ·intro ax;refine aV 5 (.agg (plA x)) ?_;refine B 10 ?_;exact zGk
  exact OC
 intro ai;refine B 13 ?_;exact zGk
theorem nZk(xs:List Int)(de:xs.length<=1000000)(N:Nat)(a:Option Addr)(cp:Nat)(w:World)(hN:N<=w.heap.size)(aA:aj encI 1 N w a xs)(n:Int):Calls prog 40 #[.slice a xs.length cp,ab n] w (ar w (.bool (xs.any λx=>decide (x=n)))):=by
 refine cH 12 func40 ntmps40 ?_;refine CJ.lp (α:=Nat) [0,1] (λj=>[(5,ab (j:Int))]) (λj=>[]) (λj=>j<=xs.length/\cE (λx:Int=>decide (x=n)) xs j) (λj=>xs.length-j) 0 ⟨cd _,λi x hi=>absurd hi aa⟩ ?_;rintro j ⟨hj,bT⟩;refine av 9 ?_ ?_
 ·intro ai;refine B 5 ?_;obtain⟨bo,oo,cs0,to,dR,rfl,dW,hcs,ay⟩:=aA.get aa;obtain⟨x,hx⟩:=ng xs j aa;refine B 4 ?_;refine rx (ad (v:=ab x) isAgg3 rfl A0 hcs zL trivial zod) ?_;refine av 4 ?_ ?_
  ·intro ax;exact zSj
  exact OC
 intro ai;exact zSj
theorem n1p(s:ByteArray):s.toList=s.data.toList:=by
 have key:∀(n i:Nat) (r:List UInt8),s.size-i=n->ByteArray.toList.loop s i r=r.reverse++s.data.toList.drop i:=by
  intro n;induction n with
  |zero=>
   intro i r h;unfold ByteArray.toList.loop;rw[if_neg aa,List.drop_eq_nil_of_le (by(simp;grind)),dG]
  |succ n ih=>
   intro i r h;unfold ByteArray.toList.loop;have hi:i<s.size:=by omega
   have hl:i<s.data.toList.length:=by have:s.data.toList.length=s.size:=P5;omega
   rw[if_pos hi,ih (i+1) _ aa,aet hl];have e:s.get! i=s.data.toList[i]:=by
    show s.data[i]! =_;have h2:i<s.data.size:=hi;rw[getElem!_pos s.data i h2];exact(Array.getElem_toList _).symm
   rw[e];simp
 grind [ByteArray.toList]
theorem OZ:∀a b:List UInt8,Op.bytesLess a b=decide (Go.Lib.compareBytes a b<0)
 | [],[]=>rfl
 | [],_::_=>rfl
 |_::_,[]=>rfl
 |x::a,y::b=>by
  unfold Op.bytesLess;rcases nAj x y with h|rfl|h
  ·grind [VS]
  ·rw[nug,OZ a b];simp
  grind [R6]
theorem Tl{T U:Nat}{x y:Operand}{s t:ByteArray}(hx:ev E x=some (.string s))(hy:ev E y=some (.string t)):RV C G L H E (.binOp .lss T x y U) (.bool (decide (Go.Lib.compareBytes s.data.toList t.data.toList<0))):=λd ty pos aD g a W hF _=>by
 rw[<-OZ,<-n1p,<-n1p];simp[execOp,eqGuard,binOp,Op.stringOp,hF.ev hx,hF.ev hy]
def CM (a b:Pl):Bool:=decide (plC a b<0)
theorem He(x:Int)(l:List Int):I0 (x::l)=if x=0 then I0 l else x:=by
 grind [I0]
theorem O0(a b:Int):cj a b=0↔a=b:=by grind [cj]
theorem nvk(a b:Int):cj a b<0↔a<b:=by grind [cj]
theorem nVj{a b:Pl}(h:¬a.time=b.time):decide (a.time<b.time)=CM a b:=by
 grind [CM,plC,S3,He,O0,nvk]
section
variable {a b:Pl}(h1:a.time=b.time)
include b h1
theorem nyj(h:¬a.dev=b.dev):decide (a.dev<b.dev)=CM a b:=by
 grind [CM,plC,S3,He,O0,nvk]
theorem npk(h2:a.dev=b.dev)(h:¬a.fol=b.fol):decide (a.fol<b.fol)=CM a b:=by
 grind [CM,plC,S3,He,O0,nvk]
theorem njk(h2:a.dev=b.dev)(h3:a.fol=b.fol)(h:¬a.par=b.par):decide (a.par<b.par)=CM a b:=by
 grind [CM,plC,S3,He,O0,nvk]
theorem nEj(h2:a.dev=b.dev)(h3:a.fol=b.fol)(h4:a.par=b.par):decide (Go.Lib.compareBytes a.nm.data.toList b.nm.data.toList<0)=CM a b:=by
 unfold CM plC S3;rw[He,if_pos ((O0 _ _).2 h1),He,if_pos ((O0 _ _).2 h2),He,if_pos ((O0 _ _).2 h3),He,if_pos ((O0 _ _).2 h4),He];split
 ·rename_i e;rw[e];rfl
 rfl
end
theorem nmn(a b:Pl)(w:World):Calls prog 181 #[.agg (plA a),.agg (plA b)] w (ar w (.bool (CM a b))):=by
 refine eN func181 ntmps181 ?_;refine aU 2 ?_;intro b2 w2 bV bj dz cL cR;refine yX ?_;intro b3 w3 bQ aZ dK cP dt;refine aV 7 (ab a.time) ?_;refine aV 1 (ab b.time) ?_;refine av 3 ?_ ?_
 ·intro ai;refine aV 3 (ab a.time) ?_;refine aV 1 (ab b.time) ?_;refine zQh ?_;exact zSi
 intro ai;refine aV 6 (ab a.dev) ?_;refine aV 1 (ab b.dev) ?_;refine av 3 ?_ ?_
 ·intro ax;refine aV 3 (ab a.dev) ?_;refine aV 1 (ab b.dev) ?_;refine zQh ?_;exact zSi
 intro ax;refine aV 6 (ab a.fol) ?_;refine aV 1 (ab b.fol) ?_;refine av 3 ?_ ?_
 ·intro bY;refine aV 3 (ab a.fol) ?_;refine aV 1 (ab b.fol) ?_;refine zQh ?_;exact zSi
 intro bY;refine aV 6 (ab a.par) ?_;refine aV 1 (ab b.par) ?_;refine av 3 ?_ ?_
 ·intro J;refine aV 3 (ab a.par) ?_;refine aV 1 (ab b.par) ?_;refine zQh ?_;exact zSi
 intro J;refine aV 5 (.string a.nm) ?_;refine aV 1 (.string b.nm) ?_;refine rx (Tl rfl rfl) ?_;refine B 4 ?_;refine ao results181 rfl A2 ?_;exact zSi
theorem nXn(l:List Pl)(de:l.length<=12)(N:Nat)(a:Option Addr)(cp:Nat)(w:World)(hN:N<=w.heap.size)(aA:aj plA 5 N w a l):Calls prog 112 #[.slice a l.length cp] w (Aj w qB (nC l) id):=by
 refine cH 7 func112 ntmps112 ?_;refine Kq qB rfl rfl ?_;refine yW ?_;intro b9 oF xJ;refine B 6 ?_;refine IB (enc:=fu) (m:=5) (t:=199) (xs:=l) (v:=id) (first:=[]) (cap:=[]) rfl call154 rfl rfl rfl (λW hS=>GX l aa N a cp W aT (aA.us (hS.same A0 hN zO uy))) ?_;intro r aB af;have bW:=Rw.ge_of aB A0;refine ID (r:=r) (enc:=fu) (m:=5) (t:=199) (xs:=l) (ys:=(l.filter λx=> !!decide (eL x))) (H0:=[]) (H1:=[(b9,(Mp.mk [] 0).obj qB [])]) (v:=λr=>r.val (l.filter λx=> !!decide (eL x)).length) rfl call153 rfl rfl rfl (λhr W hS=>?_) (λb cap sp hr W hS h=>?_) ?_
 ·subst hr;have h0:l=[]:=af;subst h0;exact(nGi 155 [] call155 W).mono λe w2 h=>⟨h.1,rfl,h.2⟩
 ·subst hr;exact nGm (λx=> !decide (eL x)) 155 [] call155 l aa b cap sp W h af (λj x hx W2 hK Z0=>S0 x W2)
 intro r2 dE uz pT pr;have ei:=uz aB;have eX:=pT _ bW;refine B 6 ?_;refine ID (r:=r2) (enc:=fu) (m:=5) (t:=199) (xs:=(l.filter λx=> !!decide (eL x))) (ys:=(dV l)) (H0:=[]) (H1:=[(b9,(Mp.mk [] 0).obj qB [])]) (v:=λ_=>.tuple #[]) rfl call157 rfl rfl rfl (λhr W hS=>?_) (λb cap sp hr W hS h=>?_) ?_
 ·subst hr;have h0:(l.filter λx=> !!decide (eL x))=[]:=dE;unfold dV;rw[h0];exact(nZo W).mono λe w2 h=>⟨h.1,rfl,h.2⟩
 ·subst hr;exact(G6 (l.filter λx=> !!decide (eL x)) (dS (RI _ _) aa) b cap sp W h).mono λe w2 h=>⟨sp,h.1,h.2.1,by simp only[Rw.Fit]at dE ⊢;unfold dV;rw[nmj];exact dE,h.2.2⟩
 intro r3 pv Ee Ef Ah;have Eg:=Ee ei;have Ai:=Ef _ eX;refine B 4 ?_;refine nid (enc:=fu) (m:=5) (t:=199) (xs:=(dV l)) (r:=r3) (H0:=[]) (H1:=[(b9,(Mp.mk [] 0).obj qB [])]) rfl nq pv Eg ?_;intro Wr a9 c9 e9 oP a6 aq;have a8:aj plA 5 Wr.heap.size Wr a9 (dV l):=oP;have Qh:=nsn l;have J:=aq (b9,(Mp.mk [] 0).obj qB []) A0;dsimp only at J;have cq:=(bO.1 J).1;have rN:(l.filter λx=> !!decide (eL x)).length=(dV l).length:=by unfold dV;rw[nmj]
 have zB:=a6 w A0;refine B 1 ?_;refine rq (.slice a9 (dV l).length c9) (dp rfl) (((congrArg (λn=>r2.val n) rN).trans ((Ah _).symm.trans e9))) ?_;refine B 5 ?_;refine CJ.lp (α:=Nat×Mp) [3,15,16] (λp=>[(17,ab (p.1:Int))]) (λp=>[(b9,p.2.obj qB (gN (dV l) p.1))]) (λp=>p.1<=(dV l).length/\p.2.Ok (gN (dV l) p.1)) (λp=>(dV l).length-p.1) (0,⟨[],0⟩) ⟨cd _,Mp.nil⟩ ?_;rintro⟨j,m⟩ ⟨hj,hm⟩;dsimp only at hj hm ⊢;have hinv:=nBn (λp hp=>nwg hp) j hj;have UK:=hinv.2.2;refine av 6 ?_ ?_
 ·intro ai;refine B 5 ?_;obtain⟨bo,oo,cs0,to,dR,rfl,dW,hcs,ay⟩:=a8.get aa;obtain⟨x,hx⟩:=ng (dV l) j aa;have hxk:=nwg (cF hx);have kq:bo≠b9:=λe=>by subst e;rw[hcs]at J;cases J
  refine aV 2 (.agg (plA x)) ?_;refine bD 1 ?_;intro b6 jb od;refine B 8 ?_;refine rq (.tuple #[.agg (plA ((al (gN (dV l) j) x.par).getD S5)),.bool (al (gN (dV l) j) x.par).isSome]) (kU (ev:=qB) (k:=x.par) underlying184 underlying3 zeroValue199 hm (bL.own (i:=1) rfl) rfl rfl) (by cases al (gN (dV l) j) x.par<;>rfl) ?_;refine bX (.tuple #[.agg (plA ((al (gN (dV l) j) x.par).getD S5)),.bool (al (gN (dV l) j) x.par).isSome]) ?_;refine bD 3 ?_;intro b7 ie lu;refine B 6 ?_;have cz:=Ma hinv.1 x.par;have cy:=G3 (gN (dV l) j) x.fol;by_cases h1:0<=x.par
  ·rcases hq:al (gN (dV l) j) x.par with _|q
   ·refine eA 23 (pb:=by exact zU 4 (k:=by exact qv (RV.re (v':=aO) (dp rfl) (by first|rfl|(rw[hq];rfl))) zT)) (sp:=(_::_::(some aK)::_)) (k:=?_);refine B 15 ?_;refine vo ?_;refine PJ.again (j+1,m) ⟨by dsimp only;omega,by dsimp only;rw[G8 hx,OV (.inl ⟨h1,.inl (by rw[hq];rfl)⟩)];exact hm⟩ zZ zR (by rw[G8 hx,OV (.inl ⟨h1,.inl (by rw[hq];rfl)⟩)];rfl) rfl zP
   rcases Tm:eb (gN (dV l) j) x.par x.fol with _|_
   ·by_cases h8:8<mg (gN (dV l) j) x.par+mh (gN (dV l) j) x.fol
    ·refine eA 23 (pb:=zYF) (sp:=[_,_,some aK,_,_,_,_,_,_,_,_,_,some (aO),_,_,_,_,_,_,some (ab (mg (gN (dV l) j) x.par)),_,_,_]) (k:=?_);exact zCj
    refine eA 23 (pb:=zYF) (sp:=[_,_,some aK,_,_,_,_,_,_,_,_,_,some (aO),_,_,_,_,_,_,some (ab (mg (gN (dV l) j) x.par)),_,_,_]) (k:=?_);refine z1d ?_;refine B 1 ?_;refine U1 ?_;refine zah ?_;intro m2 bj;refine RU ?_;refine PJ.again (j+1,m2) ⟨by dsimp only;omega,by dsimp only;rw[G8 hx,WA (λh=>h.elim (λh=>h.2.elim (λh=>by rw[hq]at h;cases h) (λh=>by rw[Tm]at h;cases h)) h8)];exact bj⟩ zZ zR (by rw[G8 hx,WA (λh=>h.elim (λh=>h.2.elim (λh=>by rw[hq]at h;cases h) (λh=>by rw[Tm]at h;cases h)) h8)];rfl) rfl zP
   refine eA 23 (pb:=by exact zU 4 (k:=by exact qv (RV.re (v':=aK) (dp rfl) (by first|rfl|(rw[hq];rfl))) (zU 7 (k:=by exact dh (ne call142 rfl rfl (λW hS _=>by have h9:=nVe hinv.1 b9 m hm x.par x.fol W (hS.own (b9,_) A2);rwa[Tm]at h9) (λ_=>rfl)) zT)))) (sp:=[_,_,some aK,_,_,_,_,_,_,_,_,_,some (aK),_,_,_,_,_,_,_,_,_,_]) (k:=?_);refine B 15 ?_;refine vo ?_;refine PJ.again (j+1,m) ⟨by dsimp only;omega,by dsimp only;rw[G8 hx,OV (.inl ⟨h1,.inr Tm⟩)];exact hm⟩ zZ zR (by rw[G8 hx,OV (.inl ⟨h1,.inr Tm⟩)];rfl) rfl zP
  by_cases h8:8<mg (gN (dV l) j) x.par+mh (gN (dV l) j) x.fol
  ·refine eA 23 (pb:=by exact zU 19 (k:=zYL)) (sp:=[_,_,some aO,_,_,_,_,_,_,_,_,_,_,_,_,_,_,_,_,some (ab (mg (gN (dV l) j) x.par)),_,_,_]) (k:=?_);exact zCj
  refine eA 23 (pb:=by exact zU 19 (k:=zYL)) (sp:=[_,_,some aO,_,_,_,_,_,_,_,_,_,_,_,_,_,_,_,_,some (ab (mg (gN (dV l) j) x.par)),_,_,_]) (k:=?_);refine z1d ?_;refine B 1 ?_;refine U1 ?_;refine zah ?_;intro m2 bj;refine RU ?_;refine PJ.again (j+1,m2) ⟨by dsimp only;omega,by dsimp only;rw[G8 hx,WA (λh=>h.elim (λh=>h1 h.1) h8)];exact bj⟩ zZ zR (by rw[G8 hx,WA (λh=>h.elim (λh=>h1 h.1) h8)];rfl) rfl zP
 intro ai;refine B 12 ?_;have aR:j=(dV l).length:=by omega
 subst aR;exact N4 (i:=0) (.inl rfl) results112 aL A1 vF rfl hm rfl
theorem Tn(l:List Pl):gH (nC l)/\rC (nC l)/\(nC l).length<=l.length:=by
 grind [nBn,dV,nwg,nsn,gH,nC,rC]
theorem nzh(l:List Pl)(de:l.length<=12)(N:Nat)(a:Option Addr)(cp:Nat)(w:World)(hN:N<=w.heap.size)(aA:aj plA 5 N w a l)(f:Int):Calls prog 75 #[.slice a l.length cp,ab f] w (nv w ak 1 3 (cA (nC l) f) id):=by
 refine cH 8 func75 ntmps75 ?_;refine nGk (ev:=qB) (kv:=(nC l)) (v:=id) call112 rfl rfl rfl (λW hS=>nXn l de N a cp W aT (aA.us hS.sm)) ?_;intro bf m Ep YS hm;replace Ep:=yb Ep;obtain⟨hF,hk,lf⟩:=Tn l;refine B 1 ?_;refine ny (α:=Nat×Nat) (v:=λq=>.func (.func 161) #[] #[ptr q.1 0,ptr q.2 0]) (Φ:=λW q w1=>W.heap.size<=q.1/\W.heap.size<=q.2/\q.1≠q.2/\w1.heap[q.1]? =some (oC #[.map (some bf)] 184)/\w1.heap[q.2]? =some (oC #[ab f] 3)) call113 rfl rfl rfl (λW hS=>nRh (some bf) f W) ?_;rintro Wu q wn OS J ⟨oi,mr,a8,jR,kH⟩;have bx:=J.size;have bu:=(bO.1 jR).1;have bw:=(bO.1 kH).1;have OT:=(OS.links w A0).size;have bg:=OS.lt (bf,_) A0;refine Y4 (enc:=ak) (m:=1) (t:=3) (Fin:=Is (cA (nC l) f)) (v:=id) call111 rfl rfl rfl (λW hS=>by
  have l1:=(hS.links wn A0).size;have l2:=hS.lt (bf,_) A0;exact n1f (cap:=[ptr q.1 0,ptr q.2 0]) (Pre:=zk (cA (nC l) f)) (Fin:=Is (cA (nC l) f)) (RO:=λk=>k=q.1\/k=q.2\/k=bf) call161 W (λk hk=>by rcases hk with rfl|rfl|rfl<;>first|omega|exact l2) (λp hp=>dS hp.length_le (dS (yS hF f) aa)) (λW2 hB=>n7f hF f bf q.1 q.2 m hm W2 ZF ZG (by rw[hB.block bf l2];exact hS.own (bf,_) A0))) ?_
 rintro xs r rfl aB af;refine B 4 ?_;exact nB (H0:=[]) (H1:=[(bf,m.obj qB (nC l))]) (r:=r) (.inl rfl) results75 aL A1 (by rw[nl];exact⟨Rw.over (Rw.ge_of aB A1),by simp only[Over,and_true];omega⟩) rfl af (Rw.ge_of aB A1) zP

section
variable (xs:List Int)(de:xs.length<=100000)(N:Nat)(a:Option Addr)(cp:Nat)(w:World)(hN:N<=w.heap.size)(aA:aj encI 1 N w a xs)(v:Int)
include xs de N cp hN aA v
theorem Me:Calls prog 110 #[.slice a xs.length cp,ab v] w (db w (λi:Int=>ab i) (λi _=>eE (λx=>decide (v=x)) xs i)):=by
 refine cH 14 func110 ntmps110 ?_;refine CJ.lp (α:=Nat) [0,1,7] (λj=>[(8,ab (j:Int))]) (λj=>[]) (λj=>j<=xs.length/\cE (λx=>decide (v=x)) xs j) (λj=>xs.length-j) 0 ⟨cd _,λi x hi=>absurd hi aa⟩ ?_;rintro j ⟨hj,bT⟩;refine av 6 ?_ ?_
 ·intro ai;refine B 11 ?_;obtain⟨bo,oo,cs0,to,dR,rfl,dW,hcs,ay⟩:=aA.get aa;obtain⟨x,hx⟩:=ng xs j aa;refine B 5 ?_;refine rx (ad (v:=ab x) isAgg3 rfl A0 hcs zL trivial (nI ay hx rfl zF)) ?_;refine av 3 ?_ ?_
  ·intro ax;refine B 12 ?_;refine pe (j:Int) results110 rfl A0 rfl ?_;exact λW hS=>.inr ⟨j,x,rfl,hx,by simp_all,bT⟩
  exact Rb
 intro ai;refine B 11 ?_;refine pe (-1:Int) results110 rfl A0 rfl ?_;exact Rc
theorem nXg:Calls prog 74 #[.slice a xs.length cp,ab v] w (ar w (.bool (xs.any λx=>decide (v=x)))):=by
 refine cH 9 func74 ntmps74 ?_;refine ny (α:=Int) (v:=λi:Int=>ab i) (Φ:=λ_ i _=>eE (λx=>decide (v=x)) xs i) call110 rfl rfl rfl (λW hS=>Me xs de N a cp W aT (aA.us hS.sm) v) ?_;intro Wi i wi yw J hi;refine B 5 ?_;refine ao results74 rfl A1 ?_;exact vb hi.any
end
theorem nal(x y:Pl):plC x y=ki (λx y=>cj x.time y.time) (ki (λx y=>cj x.dev y.dev) (ki (λx y=>cj x.fol y.fol) (ki (λx y=>cj x.par y.par) λx y=>Go.Lib.compareBytes x.nm.data.toList y.nm.data.toList))) x y:=by
 unfold plC S3 ki;rw[He];split
 ·(simp[He,I0,cj,Pl.dev,Pl.fol,Pl.par,Pl.nm];grind)
 rfl
theorem CO.plC:CO plC:=by
 have h:CO (ki (λx y:Pl=>cj x.time y.time) (ki (λx y=>cj x.dev y.dev) (ki (λx y=>cj x.fol y.fol) (ki (λx y=>cj x.par y.par) λx y=>Go.Lib.compareBytes x.nm.data.toList y.nm.data.toList)))):=
  (CO.int.key (λx:Pl=>x.time)).lex ((CO.int.key (λx:Pl=>x.dev)).lex ((CO.int.key (λx:Pl=>x.fol)).lex ((CO.int.key (λx:Pl=>x.par)).lex (CO.bytes.key (λx:Pl=>x.nm.data.toList)))))
 exact⟨λx y=>by rw[nal,nal];exact h.anti x y,λx y z h1 h2=>by rw[nal]at *;exact h.trans x y z h1 h2⟩
theorem Hf{J:jL}(h:gH kv)(h':gH J)(e:∀k,al kv k=al J k)(f:Int):cA kv f=cA J f:=by
 obtain⟨n,hn⟩:∃n,(cA kv f).length=n:=⟨_,rfl⟩;induction n using Nat.strongRecOn generalizing f<;>grind [L4,al]
theorem Hg(h:gH kv)(J:gH (cJ kv p.fol p))(f:Int)(h1:¬f=p.fol)(h2:p.fol∉cA kv f):cA (cJ kv p.fol p) f=cA kv f:=by
 obtain⟨n,hn⟩:∃n,(cA kv f).length=n:=⟨_,rfl⟩;induction n using Nat.strongRecOn generalizing f<;>grind [L4,nS,al,L5]
theorem To(h:gH kv)(hp:0<=p.par->eb kv p.par p.fol=false):1+((cA (cJ kv p.fol p) p.fol).length:Int)=1+mg kv p.par:=by
 have J:=h.put hp
 grind [L4,nS,mg,nCp,Hg]
inductive B1 (kv:jL) (o:Int):Int->Nat->Prop where
 |here:B1 kv o o 0
 |up {f:Int} {q:Pl} {n:Nat}:al kv f=some q->0<=q.par->B1 kv o q.par n->B1 kv o f (n+1)
theorem Mf(h:gH kv)(hd:B1 kv o f n):(f=o/\n=0)\/o∈cA kv f:=by
 induction hd<;>grind [L5]
theorem Hh(h:gH kv)(f:Int)(hm:o∈cA kv f):∃n,B1 kv o f (n+1):=by
 obtain⟨n,hn⟩:∃n,(cA kv f).length=n:=⟨_,rfl⟩;induction n using Nat.strongRecOn generalizing f with
 |ind n ih=>
  rw[L4 h f]at hm;cases q:al kv f with
  |none=>grind
  |some x=>
   rw[q]at hm;simp only at hm;by_cases h0:0<=x.par
   ·rw[if_pos h0]at hm;rcases ft.1 hm with e|hm
    ·exact⟨0,.up q h0 (e▸ .here)⟩
    obtain⟨m,hm⟩:=ih _ (by rw[<-hn];exact h.rank _ _ q h0) x.par hm rfl;exact⟨m+1,.up q h0 hm⟩
   grind
theorem nEq(h:gH kv)(hp:0<=p.par->eb kv p.par p.fol=false)(hd:B1 kv p.fol f n)(hn:f=p.fol->n=0):(cA (cJ kv p.fol p) f).length=n+(cA (cJ kv p.fol p) p.fol).length:=by
 have J:=h.put hp;induction hd with
 |here=>omega
 |@up f q n h1 h2 h3 ih=>
  have hf:¬f=p.fol:=λe=>by omega
  rw[L4 J f,nS,if_neg hf,h1];simp only;rw[if_pos h2,kb,ih λe=>?_]
  ·omega
  rcases Mf h h3 with⟨_,h4⟩|h4
  ·exact h4
  rw[e]at h4;have h5:(cA kv p.fol).length<(cA kv p.fol).length:=by
   obtain⟨m,hm⟩:=Hh h _ h4;have key:∀(f:Int) (m:Nat),B1 kv p.fol f m->(cA kv f).length=m+(cA kv p.fol).length:=by
    intro f m hd;induction hd with
    |here=>omega
    |up a1 a2 _ a3=>grind [L5]
   have:=key _ _ hm;omega
  omega
theorem Hj(h:gH kv)(hk:rC kv){q:Pl}(hq:al kv f=some q)(h0:0<=q.par):mh kv f+1<=mh kv q.par:=by
 obtain⟨j,hj⟩:=iB.1 (nXf hq);have h1:=hk.2 _ (nXf hq);have h2:=(S7 ((List.range kv.length).map (qi kv q.par)) 0).2.1 (qi kv q.par j) (dO.2 ⟨j,xe.2 (aG hj),rfl⟩)
 grind [nek,gT,qi]
theorem O1(h:gH kv)(hk:rC kv)(ho:0<=o)(hd:B1 kv o f n)(hf:0<=f):mh kv f+(n:Int)<=mh kv o:=by
 induction hd with
 |here=>simp
 |up h1 h2 h3 ih=>have:=Hj h hk h1 h2;omega
theorem nJj(h:gH kv)(hk:rC kv)(hf:0<=f):1<=mh kv f:=by
 rw[nek h hk f hf];have:=nik ((List.range kv.length).map (qi kv f));omega
theorem Mg{g:Int}{m:Nat}(h1:B1 kv g f n)(h2:B1 kv o g m):B1 kv o f (n+m):=by
 induction h1 with
 |here=>grind
 |@up f q n a b c ih=>rw[show n+1+m=n+m+1 by omega];exact .up a b ih
theorem abO(h:gH kv)(hk:rC kv):∀(m:Nat) (o:Int),0<=o->mh kv o=m->∃f n,B1 kv o f n/\mh kv o=(n:Int)+1/\(n=0->f=o)/\(0<n->∃q,al kv f=some q):=by
 intro m;induction m using Nat.strongRecOn with
 |ind m ih=>
  intro o ho hm;by_cases h1:mh kv o=1
  ·exact⟨o,0,.here,by omega,λ_=>rfl,λh=>by omega⟩
  have h2:=nJj h hk ho;have h3:=nek h hk o ho;have h4:gT ((List.range kv.length).map (qi kv o))∈(List.range kv.length).map (qi kv o):=by
   rcases(S7 ((List.range kv.length).map (qi kv o)) 0).2.2 with h5|h5
   ·grind [gT]
   exact h5
  obtain⟨j,hj,he⟩:=dO.1 h4;obtain⟨q,hq⟩:∃q,kv[j]? =some q:=⟨_,kC (xe.1 hj)⟩;have J:qi kv o j=if q.2.par=o then mh kv q.2.fol else 0:=by unfold qi;rw[hq]
  rw[J]at he;have mr:=hk.2 q (cF hq);by_cases hp:q.2.par=o
  ·have hg:al kv q.2.fol=some q.2:=by rw[<-mr.1];exact ndg hk.1 (cF hq)
   have hfo:0<=q.2.fol:=by have:=mr.2;unfold eL at this;omega
   obtain⟨f,n,a1,a2,a3,a4⟩:=ih (mh kv q.2.fol).toNat aa q.2.fol hfo cM;refine⟨f,n+1,Mg a1 (.up hg aa (hp▸ .here)),by omega,λh=>by omega,λ_=>?_⟩
   grind
  grind
def Tp (kv:jL):Prop:=∀k q,al kv k=some q->1+(cA kv k).length<=8
theorem Hk(h:gH kv)(hk:rC kv)(hl:Tp kv)(ho:eL p)(hp:0<=p.par->eb kv p.par p.fol=false):Tp (cJ kv p.fol p)↔¬8<mg kv p.par+mh kv p.fol:=by
 have h':=h.put hp;have hf:0<=p.fol:=by unfold eL at ho;omega
 have ht:=To h hp;have a6:∀n,B1 kv p.fol p.fol n->n=0:=λn hd=>by
  have:=O1 h hk hf hd hf;omega
 constructor
 ·intro hL;obtain⟨f,n,a1,a2,a3,a4⟩:=abO h hk (mh kv p.fol).toNat p.fol hf (by have:=nJj h hk hf;omega);have h3:=nEq h hp a1 (λe=>by grind);have h4:∃q,al (cJ kv p.fol p) f=some q:=by
   rw[nS];by_cases e:f=p.fol
   ·simp_all
   grind
  obtain⟨q,hq⟩:=h4;have:=hL f q hq;omega
 intro hL k q hq;rw[nS]at hq;by_cases e:k=p.fol
 ·rw[e];have:=nJj h hk hf;omega
 rw[if_neg e]at hq;by_cases hm:p.fol∈cA kv k
 ·obtain⟨n,hd⟩:=Hh h k hm;have h3:=nEq h hp hd (λe2=>absurd e2 e);have J:0<=k:=by have:=hk.2 _ (nXf hq);simp only at this;have h9:=this.2;unfold eL at h9;omega
  have h4:=O1 h hk hf hd J;have h5:=nJj h hk J;omega
 rw[Hg h h' k e hm];exact hl k q hq
noncomputable def ow:List Pl->Pl->List Pl
 | [],x=>[x]
 |a::l,x=>if plC x a<0 then x::a::l else a::ow l x
abbrev Hl (l:List Pl):Prop:=l.Pairwise λa b=>plC a b<=0
theorem nVr{z:Pl}:∀{l:List Pl},z∈ow l x↔z=x\/z∈l
 | []=>by simp[ow]
 |a::l=>by(induction l<;>grind [ow])
theorem ncm{x:Pl}:∀{l:List Pl},Hl l->Hl (ow l x)
 | [],_=>List.pairwise_singleton _ _
 |a::l,h=>by
  obtain⟨h1,h2⟩:=List.pairwise_cons.1 h;unfold ow;split
  ·refine List.pairwise_cons.2 ⟨λb hb=>?_,h⟩;rcases ft.1 hb with rfl|hb
   ·omega
   exact CO.plC.trans _ _ _ aa (h1 b hb)
  refine List.pairwise_cons.2 ⟨λb hb=>?_,ncm h2⟩;rcases nVr.1 hb with rfl|hb
  ·have:=CO.plC.anti a b;omega
  grind
theorem ncs{y:Pl}(h:plC x y<0):∀l:List Pl,ow (l++[y]) x=ow l x++[y]
 | []=>by simp[ow,h]
 |a::l=>by
  (induction l<;>grind [ow,plC])
theorem nrs:∀{l:List Pl},(∀a∈l,¬plC x a<0)->ow l x=l++[x]
 | [],_=>rfl
 |a::l,h=>by(induction l<;>grind [ow,plC])
theorem Hm(n:Nat):∀(pre J:List Pl) (x:Pl),pre.length=n->Hl pre->vB (pre++x::J) pre.length=ow pre x++J:=by
 induction n with
 |zero=>simp_all[Hl,vB,ow]
 |succ n ih=>
  intro pre J x h hs;rcases List.eq_nil_or_concat pre with rfl|⟨p,y,rfl⟩
  ·rfl
  rw[List.concat_eq_append]at *;have e1:(p++[y]++x::J)[p.length+1]? =some x:=by simp
  have e2:(p++[y]++x::J)[p.length]? =some y:=by simp
  rw[eU,VV];obtain⟨s1,_,s3⟩:=List.pairwise_append.1 hs;by_cases hc:plC x y<0
  ·simp_all[nMp,ncs]
  rw[noj e1 e2 hc,nrs λa ha hlt=>?_]
  ·simp
  rcases dQ.1 ha with ha|ha
  ·have h1:=s3 a ha y zP;have h2:=CO.plC.anti x a;have h3:=CO.plC.anti x y
   have h4:=CO.plC.trans a y x h1 aa
   grind
  grind
theorem Ho:∀(k i:Nat) (pre J:List Pl),pre.length=i->J.length=k->Hl pre->mS (pre++J) k i=J.foldl ow pre:=by
 intro k;induction k with
 |zero=>grind [mS]
 |succ k ih=>
  intro i pre J hi hk hs;cases J with
  |nil=>simp at hk
  |cons x J=>
   have hl:(ow pre x).length=i+1:=by
    have:∀l:List Pl,(ow l x).length=l.length+1:=by
     intro l;induction l with
     |nil=>rfl
     |cons a l ih=>grind [ow]
    rw[this,hi]
   rw[List.foldl_cons,<-ih (i+1) (ow pre x) J hl cM (ncm hs),<-Hm i pre J x hi hs,hi];rfl
theorem nfn(xs:List Pl):rD xs=xs.foldl ow []:=by
 unfold rD;cases xs with
 |nil=>rfl
 |cons x xs=>
  have:=Ho xs.length 1 [x] xs rfl rfl (List.pairwise_singleton _ _);exact this
def gb (ts:List Pl):jL:=ts.map λp=>(p.fol,p)
abbrev uY (ts:List Pl):Prop:=ts.Pairwise λa b=>a.fol<b.fol
def dq:List Pl->Pl->List Pl
 | [],p=>[p]
 |x::l,p=>if p.fol<=x.fol then p::(x::l).filter (λy=> !decide (y.fol=p.fol))else x::dq l p
theorem WC(h:uY ts){k:Int}{q:Pl}:al (gb ts) k=some q↔q∈ts/\q.fol=k:=by
 induction ts<;>grind [gb,al,eK,List.pairwise_cons,nMe]
theorem ncj{p:Pl}:∀{ts:List Pl},uY ts->∀{q:Pl},q∈dq ts p↔q=p\/(q∈ts/\¬q.fol=p.fol)
 | [],_,q=>by simp[dq]
 |x::l,h,q=>by
  obtain⟨h1,h2⟩:=List.pairwise_cons.1 h;unfold dq;split
  ·simp
  rw[ft,ncj h2]
  grind
theorem WD{p:Pl}:∀{ts:List Pl},uY ts->uY (dq ts p)
 | [],_=>List.pairwise_singleton _ _
 |x::l,h=>by
  obtain⟨h1,h2⟩:=List.pairwise_cons.1 h;unfold dq;split
  ·(simp[List.pairwise_cons];grind)
  refine List.pairwise_cons.2 ⟨λb hb=>?_,WD h2⟩
  grind [ncj]
theorem ncq{α:Type}{x y:Option α}(h:∀q,x=some q↔y=some q):x=y:=by
 cases x with
 |none=>
  cases y<;>simp_all
 |some q=>grind
theorem WE(h:uY ts)(k:Int):al (gb (dq ts p)) k=if k=p.fol then some p else al (gb ts) k:=by
 refine ncq λq=>?_
 grind [WC,WD,ncj]
noncomputable def mT (ts:List Pl) (p:Pl):Bool:=(decide (0<=p.par)&&(!(al (gb ts) p.par).isSome||eb (gb ts) p.par p.fol))||(dq ts p).any λq=>decide (8<1+((cA (gb (dq ts p)) q.fol).length:Int))
noncomputable def lj (ts:List Pl) (p:Pl):List Pl:=if mT ts p=true then ts else dq ts p
structure yY (ts:List Pl) (kv:jL):Prop where
 s:uY ts
 g:∀k,al (gb ts) k=al kv k
 f:gH kv
 y:rC kv
 l:Tp kv
theorem yY.fok(h:yY ts kv):gH (gb ts):=by
 obtain⟨r,hr⟩:=h.f;exact⟨r,λk p hp=>hr k p (by rw[<-h.g];exact hp)⟩
theorem yY.an(h:yY ts kv)(f:Int):cA (gb ts) f=cA kv f:=Hf h.fok h.f h.g f
theorem Mh(h:yY ts kv)(ho:eL p):yY (lj ts p) (BZ kv p):=by
 have hw:eb (gb ts) p.par p.fol=eb kv p.par p.fol:=by unfold eb;rw[h.an]
 have key:∀hp:0<=p.par->eb kv p.par p.fol=false,(dq ts p).any (λq=>decide (8<1+((cA (gb (dq ts p)) q.fol).length:Int)))=true↔8<mg kv p.par+mh kv p.fol:=by
  intro hp;have hF:gH (gb (dq ts p)):=by
   obtain⟨r,hr⟩:=h.f.put hp;exact⟨r,λk q hq=>hr k q (by rw[nS];rw[WE h.s,h.g]at hq;exact hq)⟩
  have ha:∀f,cA (gb (dq ts p)) f=cA (cJ kv p.fol p) f:=λf=>Hf hF (h.f.put hp) (λk=>by rw[WE h.s,nS,h.g]) f;have hi:=Hk h.f h.y h.l ho hp;rw[List.any_eq_true];constructor
  ·rintro⟨q,hq,h3⟩;apply Classical.byContradiction;intro h4;have h5:=hi.2 h4 q.fol q (by
    rw[nS,<-h.g,<-WE h.s];exact(WC (WD h.s)).2 ⟨hq,rfl⟩)
   grind
  intro h3;apply Classical.byContradiction;intro h4;refine hi.1 (λk q hq=>?_) h3;rw[nS,<-h.g,<-WE h.s,WC (WD h.s)]at hq
  grind
 have hb:mT ts p=true↔L9 kv p:=by
  unfold mT L9;rw[hw,h.g];by_cases h1:0<=p.par/\((al kv p.par).isSome=false\/eb kv p.par p.fol=true)
  ·grind
  grind
 unfold lj;by_cases J:L9 kv p
 ·grind [OV]
 rw[if_neg (λe=>J (hb.1 e)),WA J];have hp:0<=p.par->eb kv p.par p.fol=false:=λh0=>by
  cases e:eb kv p.par p.fol with
  |false=>rfl
  |true=>exact absurd (.inl ⟨h0,.inr e⟩) J
 exact⟨WD h.s,λk=>by rw[WE h.s,nS,h.g],h.f.put hp,h.y.put ho,(Hk h.f h.y h.l ho hp).2 λe=>J (.inr e)⟩
noncomputable def kn (l:List Pl) (j:Nat):List Pl:=(((l.filter λx=> !!decide (eL x)).foldl ow []).take j).foldl lj []
theorem Hp{ys:List Pl}(hy:∀p∈ys,eL p):∀{ts:List Pl} {kv:jL},yY ts kv->yY (ys.foldl lj ts) (ys.foldl BZ kv):=by
 induction ys<;>grind [Mh]
theorem Hq:yY [] []:=⟨.nil,λ_=>rfl,gH.nil,rC.nil,λk q h=>by simp[al,eK]at h⟩
theorem Mi(l:List Pl):yY (kn l (dV l).length) (nC l):=by
 unfold kn nC gN
 grind [nfn,dV,Hp,nwg,Hq]
theorem n0i(h:uY ts)(f:Int):WB ts f=al (gb ts) f:=by
 refine ncq λq=>?_;rw[WC h];unfold WB;constructor
 ·grind
 cases e:ts.find? λq=>decide (q.fol=f)with
 |none=>grind
 |some q'=>
  have h3:=List.mem_of_find?_eq_some e;have h4:q'.fol=f:=by simpa using List.find?_some e
  have h5:=(WC h).2 ⟨h3,h4⟩
  grind [WC]
noncomputable def O2 (kv:jL) (o:Option Pl):List Int:=match o with|some p=>if 0<=p.par then p.par::cA kv p.par else[]|none=>[]
theorem n7p(h:gH kv)(f:Int):O2 kv (al kv f)=cA kv f:=(L4 h f).symm
theorem Mj(h:gH kv){o:Option Pl}(h1:o.isSome=true/\0<=(o.getD default).par):O2 kv o=(o.getD default).par::O2 kv (al kv (o.getD default).par):=by
 cases o with
 |none=>cases h1.1
 |some p=>rw[n7p h];simp_all[cA,O2,Pl.par,instInhabitedPl,gH]
theorem Tq{o:Option Pl}(h1:¬(o.isSome=true/\0<=(o.getD default).par)):O2 kv o=[]:=by
 (simp[cA,O2,Pl.par,instInhabitedPl];grind)
section
variable (ts:List Pl)(OY:ts.length<=1000)(N:Nat)(a:Option Addr)(cp:Nat)(w:World)(hN:N<=w.heap.size)(aA:aj plA 5 N w a ts)(hfs:uY ts)(hk:gH (gb ts))(f:Int)
include OY N cp hN aA hfs hk
theorem nAo:Calls prog 82 #[.slice a ts.length cp,ab f] w (nv w ak 1 3 (cA (gb ts) f) id):=by
 have bx:=yS hk f;have lf:(gb ts).length=ts.length:=jg ..;refine cH 7 func82 ntmps82 ?_;refine uC ?_;refine yW ?_;intro b8 lI r4;refine B 7 ?_;refine cl call125 rfl (λW hS=>by have h9:=nai ts aa N a cp W aT (aA.us hS.sm) f;rw[n0i hfs]at h9;exact h9) ?_;refine bD 4 ?_;intro b6 jb od;refine B 6 ?_;refine CJ.lp (α:=(Rw×List Int)×Option Pl) [0,6] (λp=>[(5,p.1.1.val p.1.2.length),(7,.bool p.2.isSome)]) (λp=>[(b6,oC (plA (p.2.getD default)) 199)]++(p.1.1.hp ak 3 p.1.2++[])) (λp=>p.1.1.Fr Gh.no [w]/\p.1.1.Fit 1 p.1.2/\p.1.2++O2 (gb ts) p.2=cA (gb ts) f) (λp=>(O2 (gb ts) p.2).length) ((.row b8 0 [],[]),al (gb ts) f) ⟨.inr lI,⟨aC 0,rfl⟩,n7p hk f⟩ ?_;rintro⟨⟨r,xs⟩,o⟩ ⟨aB,af,WG⟩;dsimp only at aB af WG ⊢;have bW:r.ge w.heap.size:=Rw.ge_of aB A0;refine B 2 ?_;by_cases h1:o.isSome=true/\0<=(o.getD default).par
 ·refine B 2 ?_;refine rq aK (dp rfl) (vb (h1.1)) ?_;refine aV 1 (ab (o.getD default).par) ?_;refine rq aK (pC rfl rfl) (vb (decide_eq_true h1.2)) ?_;refine B 8 ?_;have J:=Mj hk h1;have bz:xs.length+1<=(cA (gb ts) f).length:=by rw[<-WG,J,eU,kb];omega
  refine aV 3 (ab (o.getD default).par) ?_;refine uC ?_;refine yW ?_;intro Ki YZ Y0;refine jf (r:=r) (xs:=xs) (zs:=[(o.getD default).par]) (enc:=ak) (m:=1) (H0:=[(Ki,oC #[ab (o.getD default).par] 3),(b6,oC (plA (o.getD default)) 199)]) (H1:=[]) pP vY nh rfl rfl rfl rfl (bN.one (z:=(o.getD default).par) nh v7 underlying96 (bL.own (i:=0) rfl)) af aB zP vn ?_;intro xd sx sy pS lU;refine B 3 ?_;have bu:=bW;have aq:(Rw.row xd sx sy).Fr Gh.no [w]:=pS.elim (λh=>Rw.Fr_at aB h) (λh=>.inr h);replace bW:(Rw.row xd sx sy).ge w.heap.size:=Rw.ge_of aq A0;have bI:w.heap.size<=xd:=bW;refine aV 3 (ab (o.getD default).par) ?_;refine cl call125 rfl (λW hS=>by have h9:=nai ts aa N a cp W aT (aA.us (hS.same A0 hN zO zQ)) (o.getD default).par;rw[n0i hfs]at h9;exact h9) ?_;refine xY ?_;refine PJ.again ((Rw.row xd sx sy,xs++[(o.getD default).par]),al (gb ts) (o.getD default).par) ⟨aq,lU,by dsimp only;rw[<-WG,J,lP];rfl⟩ (by dsimp only;rw[J,kb];omega) zR rfl rfl zP
 by_cases h2:o.isSome=true
 ·refine B 2 ?_;refine rq aK (dp rfl) (vb (h2)) ?_;refine aV 1 (ab (o.getD default).par) ?_;refine rq aO (pC rfl rfl) (vb (decide_eq_false (λg=>h1 ⟨h2,g⟩))) ?_;refine B 16 ?_;exact zxj
 refine B 2 ?_;refine rq aO (dp rfl) (vb (Bool.eq_false_iff.2 h2)) ?_;refine B 19 ?_;exact zxj
theorem nwj(o:Int):Calls prog 182 #[.slice a ts.length cp,ab f,ab o] w (ar w (.bool (eb (gb ts) f o))):=by
 have a8:=yS hk f;have lf:(gb ts).length=ts.length:=jg ..;refine eN func182 ntmps182 ?_;refine av 13 ?_ ?_
 ·intro ai;refine B 7 ?_;refine ao results182 rfl A0 ?_;exact zQj
 intro ai;refine B 6 ?_;refine nN (enc:=ak) (m:=1) (t:=3) (xs:=(cA (gb ts) f)) (v:=id) (first:=[]) (cap:=[]) rfl call82 rfl rfl rfl nh (λW hS=>nAo ts OY N a cp W aT (aA.us hS.sm) hfs hk f) ?_;intro aR OD oZ OE J rp gv jP;have Gq:=(J.links w A0).size;have Gr:=rp.size;have kR:=J.under;replace kR:=yg kR;refine B 10 ?_;refine CJ.lp (α:=Nat) [2,7] (λj=>[(8,ab (j:Int))]) (λj=>[]) (λj=>j<=(cA (gb ts) f).length/\cE (λy:Int=>decide (y=o)) (cA (gb ts) f) j) (λj=>(cA (gb ts) f).length-j) 0 ⟨cd _,λi x hi=>absurd hi aa⟩ ?_;rintro j ⟨hj,bT⟩;refine av 9 ?_ ?_
 ·intro ax;refine B 5 ?_;obtain⟨bo,oo,cs0,to,dR,rfl,dW,fY,ay⟩:=gv.get aa;obtain⟨y,hy⟩:=ng (cA (gb ts) f) j aa;refine B 4 ?_;refine rx (ad (v:=ab y) isAgg3 rfl A0 fY zL trivial (by have:=nI (enc:=λx=>(ak x).toArray) (n:=1) ay hy rfl zF;simpa[ak]using this)) ?_;refine av 4 ?_ ?_
  ·intro bY;refine B 11 ?_;refine ao results182 rfl A1 ?_;exact zQj
  intro bY;refine B 8 ?_;refine ag (j+1) ⟨by omega,bT.next hy z2⟩
 intro ax;refine B 11 ?_;refine ao results182 rfl A1 ?_;exact zQj
end
theorem aj.fs'{α:Type}{enc:α->Array Value}{N K:Nat}{xs:List α}(h:aj enc n N w a xs)(hn:∀q,a=some q->xs=[]\/K<=q.block):∃F,(∀p∈F,K<=p.1/\w.heap[p.1]? =some p.2)/\CH enc n F a xs:=by
 by_cases h0:xs=[]
 ·exact⟨[],by simp,.inl h0⟩
 exact h.fs (λq e=>(hn q e).resolve_left h0)
theorem n7n{K:Int}:∀(ps:List (Int×Int)) (xs:List Nd),(∀p∈ps,p.1<K)->(∀n∈xs,n.at_<K)->∀n∈ps.foldl (λx p=>er x ⟨p.1,p.2⟩) xs,n.at_<K
 | [],xs,_,hx=>hx
 |p::ps,xs,hp,hx=>by
  refine n7n ps _ (λq hq=>hp q (.tail _ hq)) λn hn=>?_
  grind [nfg]
theorem Tr{ns:List Nd}(h:fX ns=0)(hd:bM d)(hm:(al (bh ns) (512+d)).isSome=true){l:List Int}(hl:0<l.length):NB (aP ns d l):=by
 rw[nqq h hd hm hl];refine n7n _ _ (λp hp=>?_) λn hn=>?_
 ·have h1:=List.of_mem_zip (a:=p.1) (b:=p.2) (aYt hp);have h2:=h1.1;rcases ft.1 h2 with h3|h3
  ·omega
  have:=ngl (d:=d) cM h3;omega
 have h1:=(vy.1 hn).1;obtain⟨i,hi⟩:=iB.1 h1;have:=(BB.1 h i n hi).2.1;omega
theorem nYn(h:eH Z g c=0):cY g=true/\ou c=0/\iw g c=true/\gy g c.author c.chs=true:=by
 grind [cY,OH,nRk,OI,AB,OK]
theorem O3(h:eH Z g c=0):NB (qy Z g c).ns:=by
 obtain⟨hv,kf,_,hp⟩:=nYn h;have hk:=CC.1 kf;obtain⟨h1,h2⟩:=nZi hv hk.au hk.ch hp;exact Tr h1 hk.au h2 (by have:=hk.pl;omega)
theorem O4(h:eH Z g c=0):c.epoch=g.epoch+1:=(Oj (nYn h).2.2.1).2.1
theorem ngr(hZ:FxOk Z)(cs:List Cm)(hcs:cs.length<=1000)(cZ:∀c∈cs,ck c)(N:Nat)(la:Option Addr)(lc:Nat)(w:World)(hN:N<=w.heap.size)(aA:aj cW 73 N w la cs)(hC:∀c∈cs,dc N w c)(fo:Fo):Calls prog 117 #[.agg (sM fo),.slice la cs.length lc] w (λe w'=>∃(q:Nat×Gv×Bool) (F':ae),e= .returned (.tuple #[ab (q.1:Int),.agg (aY q.2.1),.bool q.2.2])/\Below w.heap.size w w'/\(∀p∈F',w.heap.size<=p.1/\w'.heap[p.1]? =some p.2)/\((q.2.2=true/\qg Z cs fo=some q.1/\q.2.1.g=qy Z (g0 fo) (iI cs q.1)/\vz F' q.2.1)\/(q.2.2=false/\qg Z cs fo=none))):=by
 refine(nTr hZ cs hcs cZ N la lc w hN aA hC fo).mono ?_;rintro e w' ⟨q,rfl,hb,⟨h1,h2,h3,J,xG,uk⟩|⟨h1,h2⟩⟩
 ·obtain⟨F1,aR,Le⟩:=J.ms.fs' xG;obtain⟨F2,VT,aq⟩:=J.ns.fs' uk;exact⟨q,F1++F2,rfl,hb,λp hp=>(dQ.1 hp).elim (aR p) (VT p),.inl ⟨h1,h2,h3,Le.mono (λp hp=>dQ.2 (.inl hp)),aq.mono (λp hp=>dQ.2 (.inr hp)),J.mn,J.nn⟩⟩
 exact⟨q,[],rfl,hb,by simp,.inr ⟨h1,h2⟩⟩
theorem St.fzW{F F2:ae}{L':List World}(h:St (iu F) L H W)(hs:∀w∈L',w∈L)(hF:∀p∈F2,W.heap[p.1]? =some p.2)(ha:∀p∈F2,p.1∉H.map (·.1)):St (iu (F2++F)) L' H W:=by
 refine⟨λp hp=>?_,λk hk=>?_,λk hk=>hk.elim,λw hw=>h.links w (hs w hw),h.own,h.nodup,λp hp hv=>?_⟩
 ·rcases dQ.1 hp with hp|hp
  ·grind
  exact h.ghost p hp
 ·obtain⟨p,hp,rfl⟩:=dO.1 hk;rcases dQ.1 hp with hp|hp
  ·grind
  exact h.vlt p.1 (dO.2 ⟨p,hp,rfl⟩)
 obtain⟨q,hq,e⟩:=dO.1 hv;rcases dQ.1 hq with hq|hq
 ·grind
 exact h.apart p hp (dO.2 ⟨q,hq,e⟩)
theorem PJ.fzW{Q:bA}{e:Exit}{F F2:ae}{L':List World}{wx:World}(hx:wx∈L)(hs:∀w∈L',w∈L)(hF:∀p∈F2,wx.heap[p.1]? =some p.2)(ha:∀p∈F2,p.1∉H.map (·.1))(k:PJ C Q e E D (iu (F2++F)) L' H):PJ C Q e E D (iu F) L H:=
 λa W hN hD J hS=>k a W hN hD J (hS.fzW hs (λp hp=>((hS.links wx hx).block p.1 (bO.1 (hF p hp)).1 (λh=>h.elim zL (λh=>ha p hp h))).trans (hF p hp)) ha)
def I4 (Z:Fx) (cs:List Cm) (fo:Fo) (pre:List (Nat×Gp)) (o:Option (Nat×Gp)):Prop:=match o with|some p=>∀l,Ls Z cs p.2 l->pA Z cs fo (pre++p::l)|none=>pA Z cs fo pre
theorem I4.first(h:qg Z cs fo=some i)(hg:g=qy Z (g0 fo) (iI cs i)):I4 Z cs fo [] (some (i,g)):=λ_ hl=>⟨h,hg,hl⟩
theorem I4.stop{p:Nat×Gp}(h:I4 Z cs fo pre (some p))(hw:rS Z cs p.2=none):I4 Z cs fo (pre++[p]) none:=h [] hw
theorem I4.next{p q:Nat×Gp}(h:I4 Z cs fo pre (some p))(hw:rS Z cs p.2=some q.1)(hq:q.2=qy Z p.2 (iI cs q.1)):I4 Z cs fo (pre++[p]) (some q):=λl hl=>by
 rw[lP];exact h (q::l) ⟨hw,hq,hl⟩
structure Hr (Z:Fx) (cs:List Cm) (fo:Fo) (w:World) (F:ae) (ds:List (Nat×Gv)) (i:Nat) (X:Gv) (ok:Bool):Prop where
 k:I4 Z cs fo (ds.map λd=>(d.1,d.2.g)) (if ok=true then some (i,X.g)else none)
 xF:ok=true->vz F X/\NB X.g.ns/\1+ds.length+xr cs X.g.epoch<=cs.length
 len:ds.length<=cs.length
 dF:∀d∈ds,vz F d.2
 ge:∀q∈F,w.heap.size<=q.1
theorem Hr.first{J:ae}{X:Gv}(h1:qg Z cs fo=some i)(h2:X.g=qy Z (g0 fo) (iI cs i))(h3:vz J X)(hF:∀q∈J,w.heap.size<=q.1):Hr Z cs fo w (J++[]) [] i X true:=by
 have hx:eH Z (g0 fo) (iI cs i)=0/\i<cs.length:=by
  unfold qg at h1;rw[n6m]at h1;cases e:cs.findIdx? (λc=>gV (aE Z c) fo.first)with
  |none=>grind
  |some j=>
   grind [List.findIdx?_eq_some_iff_getElem]
 refine⟨by grind [I4.first],λ_=>⟨by grind,by rw[h2];exact O3 hx.1,?_⟩,cd _,by simp,by grind⟩;obtain⟨c,hc⟩:=ng cs i hx.2;have:=nen (c:=iI cs i) (cs:=cs) (by grind [CL]);simp_all[iI,xr,Gp.epoch,Gv.g,qg,qy,g0]
theorem Hs(hZ:FxOk Z)(h:rS Z cs g=some n):n<cs.length/\eH Z g (iI cs n)=0:=by
 have h1:=(VX _ _ _).2 n h;have h2:n∈vx Z cs g (bG Z cs cs.length).length:=(List.mergeSort_perm _ _).mem_iff.1 h1;obtain⟨c,hc,_⟩:=nkl h2;have h3:=(vy.1 h2).2
 grind [F8,CL]
theorem Hr.next(hZ:FxOk Z){F F2:ae}{X Y:Gv}(h:Hr Z cs fo w F ds i X true)(hw:rS Z cs X.g=some n)(hY:Y.g=ra Z X.g (iI cs n))(aq:vz F2 Y)(hF:∀q∈F2,w.heap.size<=q.1):Hr Z cs fo w (F2++F) (ds++[(i,X)]) n Y true:=by
 obtain⟨hl,hx⟩:=Hs hZ hw;rw[nTn hx]at hY;obtain⟨g1,g2,g3⟩:=h.xF rfl;obtain⟨c,hc⟩:=ng cs n hl;have J:=O4 hx;have aR:=nIh (e:=X.g.epoch) (c:=iI cs n) J (cs:=cs) (by grind [CL]);have e:Y.g.epoch=X.g.epoch+1:=by rw[hY];exact J
 have hk:=h.k;refine⟨by rw[iM];exact hk.next hw hY,λ_=>⟨aq.mono (λp hp=>dQ.2 (.inl hp)),by grind [O3],by grind⟩,by grind,λd hd=>?_,λq hq=>(dQ.1 hq).elim (hF q) (h.ge q)⟩;rcases dQ.1 hd with hd|hd
 ·exact(h.dF d hd).mono (λp hp=>dQ.2 (.inr hp))
 rw[xB.1 hd];exact g1.mono (λp hp=>dQ.2 (.inr hp))
theorem Hr.stop{F:ae}{X:Gv}(h:Hr Z cs fo w F ds i X true)(hw:rS Z cs X.g=none):Hr Z cs fo w F (ds++[(i,X)]) j X false:=by
 obtain⟨g1,g2,g3⟩:=h.xF rfl;have hk:=h.k;refine⟨by rw[iM];exact hk.stop hw,λh=>xn,by grind,λd hd=>?_,h.ge⟩;rcases dQ.1 hd with hd|hd
 ·exact h.dF d hd
 grind
theorem St.fzBase{F:ae}(h:St (iu F) L H W)(hw:w∈L)(ho:Over w.heap.size H):Below w.heap.size w W:=
 (h.links w hw).below λk hk hx=>hx.elim zL λhx=>by obtain⟨p,hp,rfl⟩:=dO.1 hx;have:=ho.mem p hp;omega
theorem Ts(hZ:FxOk Z){g':Gp}(hw:rS Z cs g=some n)(hY:g'=ra Z g (iI cs n)):xr cs g'.epoch<xr cs g.epoch:=by
 obtain⟨hl,hx⟩:=Hs hZ hw;rw[nTn hx]at hY;obtain⟨c,hc⟩:=ng cs n hl;have J:=O4 hx;have aR:=nIh (e:=g.epoch) (c:=iI cs n) J (cs:=cs) (by grind [CL]);simp_all[xr,Gp.epoch,rS,qy,iI,eH]
theorem nCs(hZ:FxOk Z)(cs:List Cm)(hcs:cs.length<=1000)(cZ:∀c∈cs,ck c)(N:Nat)(la:Option Addr)(lc:Nat)(w:World)(hN:N<=w.heap.size)(aA:aj cW 73 N w la cs)(hC:∀c∈cs,dc N w c)(fo:Fo):Calls prog 78 #[.agg (sM fo),.slice la cs.length lc] w (db w (λq:((Option Addr×Nat)×(Option Addr×Nat))×List (Nat×Gv)=>.tuple #[.slice q.1.1.1 q.2.length q.1.1.2,.slice q.1.2.1 q.2.length q.1.2.2]) (λq w1=>(pA Z cs fo (q.2.map λd=>(d.1,d.2.g))/\q.2.length<=cs.length)/\aj (λx=>(ak x).toArray) 1 w1.heap.size w1 q.1.1.1 (q.2.map λd=>((d.1:Nat):Int))/\aj (λx=>(kN x).toArray) 36 w1.heap.size w1 q.1.2.1 (q.2.map λd=>d.2)/\(∀p,q.1.1.1=some p->w.heap.size<=p.block)/\(∀p,q.1.2.1=some p->w.heap.size<=p.block)/\∀d∈q.2,aM w1.heap.size w1 d.2/\bU w.heap.size d.2)):=by
 refine nP (iu []) [] (vs:=[_,_]) func78 rfl ntmps78 rfl (Ap w) ?_;refine aU 2 ?_;intro b2 w2 bV bj dz cL cR;refine aV 6 (.agg (sM fo)) ?_;refine B 1 ?_;refine FK (γ:=Nat×Gv×Bool) (v:=λq=>.tuple #[ab (q.1:Int),.agg (aY q.2.1),.bool q.2.2]) (Φ:=λF q=>(q.2.2=true/\qg Z cs fo=some q.1/\q.2.1.g=qy Z (g0 fo) (iI cs q.1)/\vz F q.2.1)\/(q.2.2=false/\qg Z cs fo=none)) call117 rfl rfl rfl (λW hS=>ngr hZ cs hcs cZ N la lc W aT (aA.us hS.sm) (λc hc=>(hC c hc).us hS.sm) fo) ?_;rintro⟨i0,X0,cQ⟩ F0 Ng dv;dsimp only at Ng ⊢;refine bD 5 ?_;intro b7 ie lu;refine B 6 ?_;have c0:∀q∈F0,w.heap.size<=q.1:=λq hq=>(dv q hq).not zP;have dd:Hr Z cs fo w (F0++[]) [] i0 X0 cQ:=by
  rcases Ng with⟨rfl,h1,h2,h3⟩|⟨rfl,h1⟩
  ·exact Hr.first h1 h2 h3 c0
  exact⟨by rw[if_neg zF];exact h1,λh=>xn,cd _,by simp,by simpa using c0⟩
 refine B 11 ?_;refine CJ.loop (α:=((((Rw×Rw)×List (Nat×Gv))×ae)×(Nat×Gv))×Bool) (λp=>[(1,.slice la cs.length lc),(6,ab (p.1.2.1:Int)),(7,ptr b7 0),(8,.bool p.2),(9,p.1.1.1.1.1.val (p.1.1.1.2.map λd:Nat×Gv=>((d.1:Nat):Int)).length),(10,p.1.1.1.1.2.val (p.1.1.1.2.map λd:Nat×Gv=>d.2).length)]) (λp=>[(b7,oC (aY p.1.2.2) 86)]++(p.1.1.1.1.1.hp ak 3 (p.1.1.1.2.map λd:Nat×Gv=>((d.1:Nat):Int))++(p.1.1.1.1.2.hp kN 86 (p.1.1.1.2.map λd:Nat×Gv=>d.2)++[]))) (λp=>[w2,w]) (λp=>iu p.1.1.2) (λp=>p.1.1.1.1.1.Fr (iu p.1.1.2) [w2,w]/\p.1.1.1.1.1.Fit 1 (p.1.1.1.2.map λd:Nat×Gv=>((d.1:Nat):Int))/\p.1.1.1.1.2.Fr (iu p.1.1.2) [w2,w]/\p.1.1.1.1.2.Fit 36 (p.1.1.1.2.map λd:Nat×Gv=>d.2)/\Hr Z cs fo w p.1.1.2 p.1.1.1.2 p.1.2.1 p.1.2.2 p.2) (λp=>(if p.2=true then xr cs p.1.2.2.g.epoch+1 else 0)) (((((.nil,.nil),[]),F0++[]),(i0,X0)),cQ) ⟨True.intro,rfl,True.intro,rfl,dd⟩ zR rfl rfl zP ?_;rintro⟨⟨⟨⟨⟨r1,r2⟩,ds⟩,F⟩,⟨i,Xg⟩⟩,ok⟩ ⟨jH,kK,ei,dE,o3⟩;dsimp only at jH kK ei dE o3 ⊢;have cy:r1.ge w2.heap.size:=Rw.ge_fz jH A0;have pT:r2.ge w2.heap.size:=Rw.ge_fz ei A0;have PF:=o3.len;refine av 6 ?_ ?_
 ·intro ai;refine B 4 ?_;obtain rfl:ok=true:=by first|assumption|simp_all
  obtain⟨hXF,qq,gq⟩:=o3.xF rfl;refine B 3 ?_;refine uC ?_;refine yW ?_;intro qp gP fM;refine jf (r:=r1) (xs:=(ds.map λd:Nat×Gv=>((d.1:Nat):Int))) (zs:=[(i:Int)]) (enc:=ak) (m:=1) (H0:=[(qp,oC #[ab (i:Int)] 3),(b7,oC (aY Xg) 86)]) (H1:=r2.hp kN 86 (ds.map λd:Nat×Gv=>d.2)++[]) pP vY nh rfl rfl rfl rfl (bN.one (z:=(i:Int)) nh v7 underlying96 (bL.own (i:=0) rfl)) kK jH zP Cq ?_;intro iR sS sT ep Ht;refine KJ ?_;refine OJ.reH (H':=[(b7,oC (aY Xg) 86)]++((Rw.row iR sS sT).hp ak 3 ((ds.map λd:Nat×Gv=>((d.1:Nat):Int))++[(i:Int)])++(r2.hp kN 86 (ds.map λd:Nat×Gv=>d.2)++[]))) rfl ?_;refine aV 6 (.agg (aY Xg)) ?_;refine zcf ?_;refine yW ?_;intro xd e0 e4;refine jf (r:=r2) (xs:=(ds.map λd:Nat×Gv=>d.2)) (zs:=[Xg]) (enc:=kN) (m:=36) (H0:=[(xd,oC (aY Xg) 86),(b7,oC (aY Xg) 86)]++(Rw.row iR sS sT).hp ak 3 ((ds.map λd:Nat×Gv=>((d.1:Nat):Int))++[(i:Int)])) (H1:=[]) rfl Fu VQ rfl rfl rfl rfl (bN.one (z:=Xg) VQ nJq underlying106 (bL.own (i:=0) rfl)) dE ei zP Cq ?_;intro fO wJ wK Qc Hu;have Tt:(Rw.row iR sS sT).Fr (iu F) [w2,w]:=ep.elim (λh=>Rw.Fr_at jH h) (λh=>.inr h);have GS:(Rw.row fO wJ wK).Fr (iu F) [w2,w]:=Qc.elim (λh=>Rw.Fr_at ei h) (λh=>.inr h)
  have Tu:(Rw.row iR sS sT).ge w2.heap.size:=Rw.ge_fz Tt A0;have Tv:(Rw.row fO wJ wK).ge w2.heap.size:=Rw.ge_fz GS A0;have gk:w2.heap.size<=iR:=Tu;have fv:w2.heap.size<=fO:=Tv;refine KJ ?_;refine OJ.reH (H':=[(b7,oC (aY Xg) 86)]++((Rw.row iR sS sT).hp ak 3 ((ds.map λd:Nat×Gv=>((d.1:Nat):Int))++[(i:Int)])++((Rw.row fO wJ wK).hp kN 86 ((ds.map λd:Nat×Gv=>d.2)++[Xg])++[]))) rfl ?_;refine B 4 ?_;rcases IZ:rS Z cs Xg.g with _|n
  ·refine aV 1 (.agg (aY Xg)) ?_;refine B 1 ?_;refine zaf ?_;refine B 1 ?_;refine rq (ab ((0:Nat):Int)) (gr rfl rfl) (by rw[IZ];rfl) ?_;refine rq aO (gr rfl rfl) (by rw[IZ];rfl) ?_;refine B 12 ?_;refine PJ.again ((((((Rw.row iR sS sT),(Rw.row fO wJ wK)),ds++[(i,Xg)]),F),(0,Xg)),false) ⟨Tt,by dsimp only;rw[iM];exact Ht,GS,by dsimp only;rw[iM];exact Hu,o3.stop IZ⟩ (by dsimp only;rw[if_neg zF,if_pos rfl];omega) ⟨rfl,rfl,rfl,rfl,zYBC,zYBC,trivial⟩ (by dsimp only;rw[iM,iM];rfl) rfl zP
  refine aV 1 (.agg (aY Xg)) ?_;refine B 1 ?_;refine zaf ?_;refine B 1 ?_;refine rq (ab ((n:Nat):Int)) (gr rfl rfl) (by rw[IZ];rfl) ?_;refine rq aK (gr rfl rfl) (by rw[IZ];rfl) ?_;refine B 10 ?_;obtain⟨Cy,gn⟩:=Hs hZ IZ;obtain⟨bo,oo,cs0,to,dR,rfl,dW,fY,ay⟩:=aA.get aa;obtain⟨c,hc⟩:=ng cs n aa;have Sm:=CL hc;have yU:iI cs n∈cs:=by rw[Sm];exact cF hc
  refine tS 10 [0,5,6,7,8,9] [[],[0],[0,1],[0,1,2],[0,1,2],[0,1,2,3]] (λcv L' H'=>∃(Y:Gv) (F2:ae) (wx:World),cv=[some (.agg (aY Xg)),some (.tuple #[.agg (aY Y),ab (eH Z Xg.g (iI cs n))]),some (.tuple #[.agg (aY Y),ab (eH Z Xg.g (iI cs n))]),some (.agg (aY Y)),some (ab (eH Z Xg.g (iI cs n))),some (.tuple #[])]/\L'=[wx,w2,w]/\H'=[(b7,oC (aY Y) 86)]++((Rw.row iR sS sT).hp ak 3 ((ds.map λd:Nat×Gv=>((d.1:Nat):Int))++[(i:Int)])++((Rw.row fO wJ wK).hp kN 86 ((ds.map λd:Nat×Gv=>d.2)++[Xg])++[]))/\Y.g=ra Z Xg.g (iI cs n)/\vz F2 Y/\(∀p∈F2,wx.heap[p.1]? =some p.2)/\(∀p∈F2,w.heap.size<=p.1/\p.1≠b7/\p.1≠iR/\p.1≠fO)) (H0:=(Rw.row iR sS sT).hp ak 3 ((ds.map λd:Nat×Gv=>((d.1:Nat):Int))++[(i:Int)])++((Rw.row fO wJ wK).hp kN 86 ((ds.map λd:Nat×Gv=>d.2)++[Xg])++[])) (pb:=by exact zU 4 (k:=by exact qv (RV.re (v':=.agg (cW (iI cs n))) (eg isAgg100 sizeOf100 rfl A1 fY zL (by simp only[cu,eJ,gU,fP,dG,and_true];(repeat' apply And.intro);all_goals first|omega|exact True.intro|exact Rw.off_ge Tu aa|exact Rw.off_ge Tv aa) (AG ay hc rfl)) (va ((Hv ay hc rfl).trans (by rw[Sm])))) zT)) (sp:=[_,some (.slice (some ⟨bo,oo,none⟩) cs.length lc),_,_,some (.agg (cW (iI cs n))),_,_,_,none,_]) (t:=?_) (k:=?_)
  ·repeat' first|exact tZ|(refine tU rfl ?_)|(refine tR rfl ?_ ?_)|(refine tN jI ?_)|(exact tE jI vA ⟨Y,F2,wx,rfl,rfl,rfl,aq,bI,bz,bg⟩)|(intro _ _ hk;(first|(refine B 1 ?_;refine OJ.done (hk _ _ _ ?_))|(refine bX (.agg (aY Xg)) ?_;refine OJ.done (hk _ _ _ ?_))|(refine ny (α:=Gv) (v:=λY=>.tuple #[.agg (aY Y),ab (eH Z Xg.g (iI cs n))]) (Φ:=λW Y w1=>Y.g=ra Z Xg.g (iI cs n)/\aM w1.heap.size w1 Y/\(∀q,Y.ma=some q->W.heap.size<=q.block)/\(∀q,Y.na=some q->W.heap.size<=q.block)) call119 rfl rfl rfl (λW hS=>nnh hZ Xg qq (iI cs n) (cZ _ yU) W.heap.size W (aC _) (hXF.lies hS.fzLies) ((hC _ yU).up aT (hS.same A1 hN zO z5))) ?_;rintro W9 Y wx jS uK ⟨aq,J,cI,cq⟩;(try dsimp only at aq J cI cq);obtain⟨F3,cx,c6⟩:=J.ms.fs cI;obtain⟨F4,cO,ed⟩:=J.ns.fs cq;have tG:=(jS.links w A1).size;have hlt:∀p∈[(b7,oC (aY Xg) 86)]++((Rw.row iR sS sT).hp ak 3 ((ds.map λd:Nat×Gv=>((d.1:Nat):Int))++[(i:Int)])++((Rw.row fO wJ wK).hp kN 86 ((ds.map λd:Nat×Gv=>d.2)++[Xg])++[])),p.1<W9.heap.size:=λp hp=>jS.lt p hp;have l3:=hlt (b7,_) A0;have l4:=hlt (iR,_) A1;have l5:=hlt (fO,_) A2;(try dsimp only at l3 l4 l5);obtain⟨F2,oi⟩:∃q9,q9=F3++F4:=⟨_,rfl⟩;have bI:vz F2 Y:=(by subst oi;exact⟨c6.mono (λp hp=>dQ.2 (.inl hp)),ed.mono (λp hp=>dQ.2 (.inr hp)),J.mn,J.nn⟩);have bz:(∀p∈F2,wx.heap[p.1]? =some p.2):=(by subst oi;exact λp hp=>(dQ.1 hp).elim (λh=>(cx p h).2) (λh=>(cO p h).2));have bg:(∀p∈F2,w.heap.size<=p.1/\p.1≠b7/\p.1≠iR/\p.1≠fO):=(by subst oi;exact λp hp=>by have h9:W9.heap.size<=p.1:=(dQ.1 hp).elim (λh=>(cx p h).1) (λh=>(cO p h).1);omega);refine OJ.done (hk _ _ _ ?_))|(have:=gK 5 hk;refine B 1 ?_;refine OJ.done (hk (.tuple #[]) _ _ ?_))))
  rintro _ _ _ ⟨Y,F2,wx,rfl,rfl,rfl,aq,bI,bz,bg⟩;refine B 2 ?_;refine PJ.fzW (F2:=F2) (L':=[w2,w]) A0 (λw h=>.tail _ h) bz (λp hp=>by have:=bg p hp;simp[Rw.hp];omega) ?_;refine PJ.again ((((((Rw.row iR sS sT),(Rw.row fO wJ wK)),ds++[(i,Xg)]),F2++F),(n,Y)),true) ⟨Tt,by dsimp only;rw[iM];exact Ht,GS,by dsimp only;rw[iM];exact Hu,o3.next hZ IZ aq bI (λq hq=>(bg q hq).1)⟩ (by dsimp only;rw[if_pos rfl,if_pos rfl];have h8:=Ts hZ IZ aq;omega) ⟨rfl,rfl,rfl,rfl,zYBC,zYBC,trivial⟩ (by dsimp only;rw[iM,iM];rfl) rfl zP
 intro ai;refine B 14 ?_;obtain rfl:ok=false:=by first|assumption|simp_all
 have cz:=o3.k;rw[if_neg zF]at cz;refine bH (.inl rfl) results78 aL λW hS=>?_;have FA:r1.At ak 3 (ds.map λd:Nat×Gv=>((d.1:Nat):Int)) W:=by
  cases r1 with
  |nil=>trivial
  |row b cap sp=>exact hS.own (b,_) qw
 have FB:r2.At kN 86 (ds.map λd:Nat×Gv=>d.2) W:=by
  cases r2 with
  |nil=>trivial
  |row b cap sp=>exact hS.own (b,_) qw
 obtain⟨a1,c1,lS,Le⟩:=Rw.sl nh kK FA (aC W.heap.size);obtain⟨a2,c2,pR,ej⟩:=Rw.sl VQ dE FB (aC W.heap.size);refine⟨(((a1,c1),(a2,c2)),ds),?_,hS.fzBase A1 (by simp only[Over,nl,gU,fP,dG,eI,gB,and_true];(repeat' apply And.intro);all_goals first|omega|exact True.intro|exact Rw.over (Rw.ge_mono cy aa)|exact Rw.over (Rw.ge_mono pT aa)),⟨cz,o3.len⟩,Le,ej,Rw.val_new (Rw.ge_mono cy aa) lS,Rw.val_new (Rw.ge_mono pT aa) pR,λd hd=>⟨(o3.dF d hd).lies hS.fzLies,(o3.dF d hd).new o3.ge⟩⟩;show Ending.returned (.tuple #[r1.val _,r2.val _])=_;rw[lS,pR];simp
theorem abU{T:Nat}{x hi J:Operand}{c e m:Nat}{K K':IntKind}(hU:C.P.underlying T=some (.slice e))(hZ:nV C.P e m)(hx:ev E x=some (.slice a n c))(ha:∀q,a=some q->q.spot=none)(hh:ev E hi=some (.int K (k:Int)))(hm:ev E J=some (.int K' (k:Int)))(h:k<=c):RV C G L H E (.slice T x none (some hi) (some J)) (.slice a k k):=λd ty pos aD g ac W hF _=>by
 have h0:(Instr.sliceBounds true n c none (some (.int K (k:Int))) (some (.int K' (k:Int)))).run C.P W= .ok (0,k,k) W:=by
  simp[Instr.sliceBounds,Instr.sliceBound,asIntOf,h]
 cases a with
 |none=>simp[execOp,hF.ev hx,hF.ev hh,hF.ev hm,Instr.sliceAt,Instr.slice,run_underlying hU,h0,hZ W]
 |some q=>obtain⟨b,off,s⟩:=q;obtain rfl:s=none:=ha _ rfl;simp[execOp,hF.ev hx,hF.ev hh,hF.ev hm,Instr.sliceAt,Instr.slice,run_underlying hU,h0,hZ W,O5]
section
variable {C:Cx} {Q:bA} {E:Env} {D:List Deferred} {G:Gh} {L:List World} {H H0 H1:ae} {ops:Array Oper} {l:List Oper}
variable {d ty:Nat} {pos:String} {aD:Array Edge} {g:Option (Nat×Bool)} {x y:Operand}
variable {α:Type} {enc:α->List Value} {m:Nat}
theorem apG{t e tx:Nat}{J:Value}{xs zs:List α}(hT:mD C.P t e m)(hm:∀x,(enc x).length=m)(hw:nr ops E g=some true)(hN:Nat.blt d C.N=true)(hx:ev E x=some (.slice a xs.length xs.length))(WG:bN C G L H enc m t (.slice a xs.length xs.length) xs)(hy:ev E y=some J)(hs:bN C G L H enc m tx J zs)(h0:0<zs.length)(fF:xs.length+zs.length<=1000000)(k:∀(b' aR:Nat) (cq:List Value),ah L b'->(Rw.row b' aR cq).Fit m (xs++zs)->OJ C ops Q l ((d,.slice (aH b') (xs++zs).length aR)::E) D G L ((b',cT enc e (xs++zs) cq)::H)):OJ C ops Q (⟨some d,.call ⟨.builtin .append,#[x,y],#[t,tx]⟩,ty,pos,aD,g⟩::l) E D G L H:=
 rF zP hw hN λa' W hF hS=>by
  obtain⟨ti,z,qC,hz,kr,wu,p6⟩:=hT.info;have hl:(xs++zs).length=xs.length+zs.length:=eU;have hB:(xs.length+zs.length)*ti.bytes<=140737488355328:=dS (Nat.mul_le_mul fF p6) zF;have hx9:=WG.src hS;have LN:=hs.src hS;subst kr;have hr:=run_append_grow_src (P:=C.P) W t tx ty e ti z hT.und qC hz a xs.length xs.length (gL enc xs) hx9.cellsD J zs.length (gL enc zs) LN aa aa (growslice_fits aa hB);have hg:=grownCap_ge W (xs.length+zs.length) xs.length e;have gW:=(hS.step (IC W (W.drawn+1))).alloc (oC ((gL enc xs++gL enc zs).toArray++Builtin.zeroCells z.cells (grownCap W (xs.length+zs.length) xs.length e-(xs.length+zs.length))) e);have hc:(gL enc xs++gL enc zs).toArray++Builtin.zeroCells z.cells (grownCap W (xs.length+zs.length) xs.length e-(xs.length+zs.length))=(gL enc (xs++zs)++(Builtin.zeroCells z.cells (grownCap W (xs.length+zs.length) xs.length e-(xs.length+zs.length))).toList).toArray:=by
   apply Array.ext';simp[Vg]
  rw[hc]at gW hr;refine⟨.slice (aH W.heap.size) (xs.length+zs.length) (grownCap W (xs.length+zs.length) xs.length e),_,L,(W.heap.size,cT enc e (xs++zs) (Builtin.zeroCells z.cells (grownCap W (xs.length+zs.length) xs.length e-(xs.length+zs.length))).toList)::H,?_,gW,?_⟩
  ·simp[execOp,hF.ev hx,hF.ev hy,resolve,invoke,builtin,hr]
  have:=k W.heap.size (grownCap W (xs.length+zs.length) xs.length e) (Builtin.zeroCells z.cells (grownCap W (xs.length+zs.length) xs.length e-(xs.length+zs.length))).toList hS.sizes ⟨by omega,by grind [Builtin.zeroCells]⟩
  grind
end
noncomputable def fJ (ts:List Pl) (i:Nat):List Pl:=((ts.take i).filter λx=> !!decide (eL x)).foldl ow []
theorem Tw(h:sR p≠0):¬eL p:=λg=>h (by grind [sR])
theorem Hw(h:sR p=0):eL p:=Classical.byContradiction λg=>by grind [sR]
theorem Hy(hx:ts[i]? =some x)(h:¬eL x):fJ ts (i+1)=fJ ts i:=by
 simp_all[fJ,nk]
theorem nJn{x:Pl}:∀{k:Nat} {l:List Pl},k<=l.length->(∀t p,t<k->l[t]? =some p->¬plC x p<0)->(∀p,l[k]? =some p->plC x p<0)->ow l x=l.take k++([x]++l.drop k)
 |0,[],_,_,_=>rfl
 |0,b::l,_,_,h=>by grind [ow]
 |k+1,[],h,_,_=>by rfl
 |k+1,b::l,h0,h1,h2=>by
  unfold ow;rw[if_neg (h1 0 b aa rfl),nJn (k:=k) cM (λt p J hp=>h1 (t+1) p aa cM) (λp hp=>h2 p cM)];rfl
theorem nQp(hx:ts[i]? =some x)(h:eL x)(hk:k<=(fJ ts i).length)(h1:∀t p,t<k->(fJ ts i)[t]? =some p->¬plC x p<0)(h2:∀p,(fJ ts i)[k]? =some p->plC x p<0):fJ ts (i+1)=(fJ ts i).take k++([x]++(fJ ts i).drop k):=by
 grind [nJn,fJ,nk]
theorem nGs(x:Pl):∀l:List Pl,(ow l x).length=l.length+1
 | []=>rfl
 |a::l=>by(induction l<;>grind [ow])
theorem noi{ts:List Pl}:∀i,(fJ ts i).length<=i
 |0=>by simp[fJ]
 |i+1=>by
  have ih:=noi (ts:=ts) i;cases hx:ts[i]? with
  |none=>grind [fJ,List.take_of_length_le]
  |some x=>
   by_cases h:eL x
   ·simp_all[fJ,nk,nGs]
   grind [Hy]
theorem nzi(ts:List Pl):fJ ts ts.length=(ts.filter λx=> !!decide (eL x)).foldl ow []:=by grind [fJ]
theorem n9o(ts:List Pl)(OY:ts.length<=1000000)(N:Nat)(a:Option Addr)(cp:Nat)(w:World)(hN:N<=w.heap.size)(aA:aj plA 5 N w a ts):Calls prog 126 #[.slice a ts.length cp] w (nv w fu 5 199 (fJ ts ts.length) id):=by
 refine cH 7 func126 ntmps126 ?_;refine OR ?_;refine yW ?_;intro b7 ie lu;refine B 10 ?_;refine CJ.loop (α:=Rw×Nat) (λp=>[(0,.slice a ts.length cp),(3,p.1.val (fJ ts p.2).length),(4,ab (p.2:Int))]) (λp=>p.1.hp fu 199 (fJ ts p.2)++[]) (λp=>[w]) (λp=>Gh.no) (λp=>p.2<=ts.length/\p.1.Fr Gh.no [w]/\p.1.Fit 5 (fJ ts p.2)) (λp=>ts.length-p.2) (.row b7 0 [],0) ⟨cd _,.inr ie,aC 0,rfl⟩ zR rfl rfl zP ?_;rintro⟨r,i⟩ ⟨hj,aB,af⟩;dsimp only at hj aB af ⊢;have bW:r.ge w.heap.size:=Rw.ge_of aB A0;refine av 9 ?_ ?_
 ·intro ai;refine B 6 ?_;obtain⟨bo,oo,cs0,to,dR,rfl,dW,fY,ay⟩:=aA.get aa;obtain⟨x,hx⟩:=ng ts i aa;have tO:=noi (ts:=ts) i;refine aV 4 (.agg (plA x)) ?_;refine cl call180 rfl (λW hS=>ngs x W) ?_;refine rq (.bool (decide (sR x≠0))) (aN rfl rfl) zP ?_;refine av 2 ?_ ?_
  ·intro ax;refine B 9 ?_;have p8:=Hy hx (Tw ew);refine PJ.again (r,i+1) ⟨by dsimp only;omega,aB,by dsimp only;rw[p8];exact af⟩ zZ ⟨rfl,zYBj,rfl,trivial⟩ (by dsimp only;rw[p8]) rfl zP
  intro ax;refine B 9 ?_;refine CJ.loop (α:=Nat) (λk=>[(0,.slice (some ⟨bo,oo,none⟩) ts.length cp),(3,r.val (fJ ts i).length),(4,ab (i:Int)),(5,ab (k:Int))]) (λk=>r.hp fu 199 (fJ ts i)++[]) (λk=>[w]) (λk=>Gh.no) (λk=>k<=(fJ ts i).length/\∀t p,t<k->(fJ ts i)[t]? =some p->¬plC x p<0) (λk=>(fJ ts i).length-k) 0 ⟨cd _,λt p h=>absurd h aa⟩ zR rfl rfl zP ?_;rintro k ⟨lf,hlt⟩;refine B 2 ?_;by_cases dC:¬k<(fJ ts i).length
  ·refine eA 13 (pb:=by exact zU 2 (k:=by exact qv (iN underlying32 af rfl) zT)) (sp:=(_::_::_::(some aO)::_)) (k:=?_);refine B 12 ?_;have hrr:=af;refine nid (H0:=[]) (H1:=[]) (enc:=fu) (m:=5) (t:=199) (xs:=(fJ ts i)) rfl nq af aB ?_;intro ws a9 c9 e9 zr Tx _;obtain⟨jz,yZ⟩:=Rw.val_cap hrr e9;have dz:=Tx w A0;refine eS 8 4 [] (pb:=zYJ) (sp:=[some (.slice (some ⟨bo,oo,none⟩) ts.length cp),_,_,some (.agg (plA x)),_,_,_,_]) (h:=?_);intro _ _ hk;refine OR ?_;intro b42 Ml aR;refine zE ?_;have HA:=Ml;replace HA:=yb HA;refine zve ?_;intro rB uZ tT;have Ty:=Rw.ge_of uZ A0;refine z4h ?_;refine B 1 ?_;refine zEe ?_;intro b52 LS GM J uX;replace J:=yb J;refine B 9 ?_;refine zqf ?_;have B0:=nQp hx (Hw (Classical.byContradiction ew)) lf hlt (λp hp=>by have:=aG hp;omega);exact zDj
  obtain⟨b9,c9,s9,rfl⟩:=Rw.row_of af aa;have yQ:w.heap.size<=b9:=bW;obtain⟨y,hy⟩:=ng (fJ ts i) k aa;by_cases hb:CM x y=true
  ·refine eA 13 (pb:=zYR) (sp:=[_,_,_,some aK,_,some (.slice (some ⟨bo,oo,none⟩) ts.length cp),_,_,some (.agg (plA x)),some (.slice (aH b9) (fJ ts i).length c9),_,_,_]) (k:=?_);refine cl call181 rfl (λW hS=>by have h9:=nmn x y W;rw[hb]at h9;exact h9) (v:=.bool true) ?_;refine B 11 ?_;have hrr:=af;refine nid (H0:=[]) (H1:=[]) (enc:=fu) (m:=5) (t:=199) (xs:=(fJ ts i)) rfl nq af aB ?_;intro ws a9 c9 e9 zr Tx _;obtain⟨jz,yZ⟩:=Rw.val_cap hrr e9;have dz:=Tx w A0;refine eS 8 4 [] (pb:=zYJ) (sp:=[some (.slice (some ⟨bo,oo,none⟩) ts.length cp),_,_,some (.agg (plA x)),_,_,_,_]) (h:=?_);intro _ _ hk;refine OR ?_;intro b42 Ml aR;refine zE ?_;have HA:=Ml;replace HA:=yb HA;refine zve ?_;intro rB uZ tT;have Ty:=Rw.ge_of uZ A0;refine z4h ?_;refine B 1 ?_
   refine zEe ?_;intro b52 LS GM J uX;replace J:=yb J;refine B 9 ?_;refine zqf ?_;have B0:=nQp hx (Hw (Classical.byContradiction ew)) lf hlt (λp hp=>by rw[hy]at hp;cases hp;exact of_decide_eq_true hb);exact zDj
  refine eA 13 (pb:=zYR) (sp:=[_,_,_,some aK,_,some (.slice (some ⟨bo,oo,none⟩) ts.length cp),_,_,some (.agg (plA x)),some (.slice (aH b9) (fJ ts i).length c9),_,_,_]) (k:=?_);refine cl call181 rfl (λW hS=>by have h9:=nmn x y W;rw[Bool.eq_false_iff.2 hb]at h9;exact h9) (v:=.bool false) ?_;refine B 14 ?_;refine ag (k+1) ⟨by omega,λt p ht hp=>by by_cases e2:t=k;(subst e2;rw[hy]at hp;cases hp;exact of_decide_eq_false (Bool.eq_false_iff.2 hb));exact hlt t p aa hp⟩
 intro ai;refine B 12 ?_;obtain rfl:i=ts.length:=by omega
 exact nB (H0:=[]) (H1:=[]) (r:=r) (.inl rfl) results126 aL A0 zS rfl af (Rw.ge_of aB A0) zP
section
variable {C:Cx} {Q:bA} {E:Env} {D:List Deferred} {G:Gh} {L:List World} {H:ae} {α:Type}
def abW (C:Cx) (Ex:α->Env) (Hx:α->ae) (ok:α->Prop) (D:List Deferred) (G:Gh) (L:List World):bA:=λe a W=>e= .normal/\a.tmps.size=C.N/\a.defers=D/\∃x,ok x/\Fits (Ex x) a/\St G L (Hx x) W
theorem CJ.cut{c:Code}(Ex:α->Env)(J:α->ae)(ok:α->Prop)(h:CJ C c (abW C Ex J ok D G L) E D G L H)(k:∀x,ok x->PJ C Q .normal (Ex x) D G L (J x)):CJ C c Q E D G L H:=by
 intro a W hN hD hF hS;refine wpIn_mono (h a W hN hD hF hS) ?_;rintro e a' W' ⟨rfl,h1,h2,x,h3,h4,h5⟩;exact k x h3 a' W' h1 h2 h4 h5
theorem PJ.cut{Ex:α->Env}{J:α->ae}{ok:α->Prop}(x:α)(gM:ok x)(hE:Sub (Ex x) E)(hH:J x=H):PJ C (abW C Ex J ok D G L) .normal E D G L H:=
 λa W hN hD hF hS=>⟨rfl,hN,hD,x,gM,hE.fits hF,hH▸hS⟩
end
def wL (p:Pl) (s:List Pl×Bool) (q:Pl):List Pl×Bool:=(if q.fol=p.fol then(if s.2=false/\p.fol<=q.fol then s.1++[p]else s.1)else(if s.2=false/\p.fol<=q.fol then s.1++[p]else s.1)++[q],s.2||decide (p.fol<=q.fol))
def O6 (ts:List Pl) (p:Pl) (i:Nat):List Pl×Bool:=(ts.take i).foldl (wL p) ([],false)
theorem WH{q:Pl}(hq:ts[i]? =some q):O6 ts p (i+1)=wL p (O6 ts p i) q:=by
 simp_all[O6,nk]
theorem ptT(p:Pl):∀(l o:List Pl),l.foldl (wL p) (o,true)=(o++l.filter (λy=> !decide (y.fol=p.fol)),true)
 | [],o=>by simp
 |x::l,o=>by
  have e:wL p (o,true) x=(o++[x].filter (λy=> !decide (y.fol=p.fol)),true):=by
   unfold wL;by_cases h:x.fol=p.fol<;>simp[h]
  rw[List.foldl_cons,e,ptT p l,lP,<-List.filter_append];rfl
theorem ptE(p:Pl):∀(l o:List Pl),(if(l.foldl (wL p) (o,false)).2=true then(l.foldl (wL p) (o,false)).1 else(l.foldl (wL p) (o,false)).1++[p])=o++dq l p
 | [],o=>rfl
 |x::l,o=>by
  rw[List.foldl_cons];by_cases h:p.fol<=x.fol
  ·grind [wL,ptT,dq]
  have e:wL p (o,false) x=(o++[x],false):=by
   unfold wL;rw[if_neg aa,if_neg aa];simp;omega
  rw[e,ptE p l]
  grind [dq]
theorem nFs{xs:List Pl}(h:O6 ts p ts.length=(xs,true)):xs=dq ts p:=by
 grind [ptE,O6]
theorem nts{xs:List Pl}(h:O6 ts p ts.length=(xs,false)):xs++[p]=dq ts p:=by
 grind [ptE,O6]
theorem nOn(p:Pl):∀ts:List Pl,(dq ts p).length<=ts.length+1
 | []=>aC _
 |x::l=>by
  (induction l<;>grind [dq])
theorem Tz(h0:0<=p.par)(h:¬(al (gb ts) p.par).isSome=true\/eb (gb ts) p.par p.fol=true):mT ts p=true:=by
 grind [mT]
theorem TA(h:(dq ts p).any (λq=>decide (8<1+((cA (gb (dq ts p)) q.fol).length:Int)))=true):mT ts p=true:=by
 grind [mT]
theorem Mm(h0:0<=p.par->(al (gb ts) p.par).isSome=true/\eb (gb ts) p.par p.fol=false)(h:(dq ts p).any (λq=>decide (8<1+((cA (gb (dq ts p)) q.fol).length:Int)))=false):mT ts p=false:=by
 grind [mT]
theorem Mn{a b:Bool}{q:Prop}(h:¬(q/\(a=false\/b=true))):q->a=true/\b=false:=λh0=>by
 grind
theorem yY.fokP(h:yY ts kv)(hp:0<=p.par->(al (gb ts) p.par).isSome=true/\eb (gb ts) p.par p.fol=false):gH (gb (dq ts p)):=by
 have hw:eb (gb ts) p.par p.fol=eb kv p.par p.fol:=by unfold eb;rw[h.an]
 obtain⟨r,hr⟩:=h.f.put (p:=p) λh0=>hw▸(hp h0).2;exact⟨r,λk q hq=>hr k q (by rw[nS];rw[WE h.s,h.g]at hq;exact hq)⟩
theorem Mo(ts:List Pl)(OY:ts.length<=500)(N:Nat)(a:Option Addr)(cp:Nat)(w:World)(hN:N<=w.heap.size)(aA:aj plA 5 N w a ts)(kv:jL)(O7:yY ts kv)(p:Pl):Calls prog 127 #[.slice a ts.length cp,.agg (plA p)] w (db w (λq:Option Addr×Nat=>.tuple #[.slice q.1 (lj ts p).length q.2,.bool (!mT ts p)]) (λq w1=>aj plA 5 w1.heap.size w1 q.1 (lj ts p))):=by
 refine eN func127 ntmps127 ?_;refine aU 2 ?_;intro b3 w3 bQ aZ dK cP dt;refine aV 8 (ab p.par) ?_;refine cl call125 rfl (λW hS=>by have h9:=nai ts aa N a cp W aT (aA.us hS.sm) p.par;rw[n0i O7.s]at h9;exact h9) ?_;refine bD 4 ?_;intro b6 jb od;refine B 2 ?_;refine KJ ?_;refine B 4 ?_;refine CJ.mid (t:=33) (v:=.bool (decide (0<=p.par/\((al (gb ts) p.par).isSome=false\/eb (gb ts) p.par p.fol=true)))) (E0:=[(0,_),(3,_)]) ⟨rfl,rfl,trivial⟩ ?_ ?_
 ·by_cases h0:¬0<=p.par
  ·refine aV 2 (ab p.par) ?_;refine rq aO (pC rfl rfl) (vb (decide_eq_false h0)) ?_;refine B 13 ?_;exact PJ.mid ⟨congrArg some (vb ((decide_eq_false (λg=>h0 g.1)).symm)),rfl,rfl,trivial⟩
  by_cases h1:¬(al (gb ts) p.par).isSome=true
  ·refine B 2 ?_;refine zte ?_;refine B 1 ?_;refine rq aO (dp rfl) (vb (Bool.eq_false_iff.2 h1)) ?_;refine B 11 ?_;exact PJ.mid ⟨congrArg some (vb ((decide_eq_true ⟨Classical.byContradiction h0,.inl (Bool.eq_false_iff.2 h1)⟩).symm)),rfl,rfl,trivial⟩
  by_cases h2:eb (gb ts) p.par p.fol=true
  ·refine zii ?_;refine cl call182 rfl (λW hS=>by have h9:=nwj ts aa N a cp W aT (aA.us hS.sm) O7.s O7.fok p.par p.fol;rw[h2]at h9;exact h9) (v:=.bool true) ?_;refine B 3 ?_;exact PJ.mid ⟨congrArg some (vb ((decide_eq_true ⟨Classical.byContradiction h0,.inr h2⟩).symm)),rfl,rfl,trivial⟩
  refine zii ?_;refine cl call182 rfl (λW hS=>by have h9:=nwj ts aa N a cp W aT (aA.us hS.sm) O7.s O7.fok p.par p.fol;rw[Bool.eq_false_iff.2 h2]at h9;exact h9) (v:=.bool false) ?_;refine B 3 ?_;exact PJ.mid ⟨congrArg some (vb ((decide_eq_false (λg=>g.2.elim (λe=>h1 (λg9=>by rw[e]at g9;cases g9)) h2)).symm)),rfl,rfl,trivial⟩
 refine av 1 ?_ ?_
 ·intro ai;refine B 9 ?_;have u2:mT ts p=true:=Tz (show(0<=p.par/\((al (gb ts) p.par).isSome=false\/eb (gb ts) p.par p.fol=true)) by assumption).1 ((show(0<=p.par/\((al (gb ts) p.par).isSome=false\/eb (gb ts) p.par p.fol=true)) by assumption).2.imp (λe g=>by rw[e]at g;cases g) id);refine bH (.inl rfl) results127 aL λW hS=>⟨(a,cp),?_,hS.base A1 True.intro,?_⟩
  ·exact zvk
  dsimp only;unfold lj;rw[if_pos u2];exact aA.up aT hS.sm
 intro ai;refine B 3 ?_;have HC:0<=p.par->(al (gb ts) p.par).isSome=true/\eb (gb ts) p.par p.fol=false:=Mn ew;refine B 1 ?_;refine OR ?_;refine yW ?_;intro ZH cq gW;refine B 15 ?_;refine CJ.lp (α:=((Rw×List Pl)×Bool)×Nat) [0,3] (λz=>[(8,z.1.1.1.val z.1.1.2.length),(9,.bool z.1.2),(10,ab (z.2:Int))]) (λz=>z.1.1.1.hp fu 199 z.1.1.2++[]) (λz=>z.2<=ts.length/\z.1.1.1.Fr Gh.no [w3,w]/\z.1.1.1.Fit 5 z.1.1.2/\O6 ts p z.2=(z.1.1.2,z.1.2)/\z.1.1.2.length<=2*z.2) (λz=>ts.length-z.2) (((.row ZH 0 [],[]),false),0) ⟨cd _,.inr cq,⟨aC 0,rfl⟩,rfl,aC 0⟩ ?_;rintro⟨⟨⟨r,xs⟩,d⟩,i⟩ ⟨hj,aB,af,CN,de⟩;dsimp only at hj aB af CN de ⊢;have bW:r.ge w3.heap.size:=Rw.ge_of aB A0;refine av 9 ?_ ?_
 ·intro ax;refine B 6 ?_;obtain⟨bo,oo,cs0,to,dR,rfl,dW,fY,ay⟩:=aA.get aa;obtain⟨q,hq⟩:=ng ts i aa;by_cases hd:d=true
  ·obtain rfl:d=true:=hd;refine eA 10 (k:=?_);refine B 8 ?_;refine eA 7 (pb:=by exact zU 4 (k:=zYH)) (sp:=[some (.slice (some ⟨bo,oo,none⟩) ts.length cp),_,_,_,_,_,some (ab p.fol)]) (k:=?_);refine zxf ?_;refine av 2 ?_ ?_
   ·intro bY;refine zlh ?_;refine yW ?_;intro xt sU Mr;refine z5e ?_;intro B2 sV sW HD rG;have pD:(Rw.row B2 sV sW).Fr Gh.no [w3,w]:=HD.elim (λh=>Rw.Fr_at aB h) (λh=>.inr h);have wM:=Rw.ge_of pD A0;have O8:w3.heap.size<=B2:=wM;refine zAh ?_;refine ag ((((Rw.row B2 sV sW),(xs++[q])),true),i+1) ⟨by dsimp only;omega,pD,rG,zYM,zYP⟩
   intro bY;refine B 8 ?_;refine ag (((r,xs),true),i+1) ⟨by dsimp only;omega,aB,af,zYM,zYP⟩
  by_cases hle:p.fol<=q.fol
  ·obtain rfl:d=false:=Bool.eq_false_iff.2 hd;refine eA 10 (pb:=by exact zU 7 (k:=zYH)) (sp:=[_,_,_,some (.slice (some ⟨bo,oo,none⟩) ts.length cp),_,_,_,_,_,some (ab p.fol)]) (k:=?_);refine rq aK (pC rfl rfl) (vb (decide_eq_true hle)) ?_;refine aV 7 (.agg (plA p)) ?_;refine OR ?_;refine yW ?_;intro dd e6 gC;refine jf (r:=r) (xs:=xs) (zs:=[p]) (enc:=fu) (m:=5) (H0:=[(dd,oC (plA p) 199)]) (H1:=[]) rfl S1 nq rfl rfl rfl rfl (bN.one (z:=p) nq GW underlying32 (bL.own (i:=0) rfl)) af aB zP z4 ?_;intro J Ms Mt cQ HE;have AH:(Rw.row J Ms Mt).Fr Gh.no [w3,w]:=cQ.elim (λh=>Rw.Fr_at aB h) (λh=>.inr h);have cz:=Rw.ge_of AH A0;have eu:w3.heap.size<=J:=cz;refine KJ ?_;refine OJ.reH (H':=(Rw.row J Ms Mt).hp fu 199 (xs++[p])++[]) rfl ?_;refine B 8 ?_;refine eA 7 (pb:=by exact zU 4 (k:=zYH)) (sp:=[some (.slice (some ⟨bo,oo,none⟩) ts.length cp),_,_,_,_,_,some (ab p.fol)]) (k:=?_);refine zxf ?_;refine av 2 ?_ ?_
   ·intro ez;refine zlh ?_;refine yW ?_;intro xt sU Mr;refine jf (r:=(Rw.row J Ms Mt)) (xs:=(xs++[p])) (zs:=[q]) (enc:=fu) (m:=5) (H0:=[(xt,oC (plA q) 199)]) (H1:=[]) rfl S1 nq rfl rfl rfl rfl (bN.one (z:=q) nq GW underlying32 (bL.own (i:=0) rfl)) HE AH zP z4 ?_;intro B2 sV sW HD rG;have pD:(Rw.row B2 sV sW).Fr Gh.no [w3,w]:=HD.elim (λh=>Rw.Fr_at AH h) (λh=>.inr h);have wM:=Rw.ge_of pD A0;have O8:w3.heap.size<=B2:=wM;refine KJ ?_;refine OJ.reH (H':=(Rw.row B2 sV sW).hp fu 199 ((xs++[p])++[q])++[]) rfl ?_;refine B 9 ?_;refine ag ((((Rw.row B2 sV sW),((xs++[p])++[q])),true),i+1) ⟨by dsimp only;omega,pD,rG,zYM,zYP⟩
   intro ez;refine B 8 ?_;refine ag ((((Rw.row J Ms Mt),(xs++[p])),true),i+1) ⟨by dsimp only;omega,AH,HE,zYM,zYP⟩
  obtain rfl:d=false:=Bool.eq_false_iff.2 hd;refine eA 10 (pb:=by exact zU 7 (k:=zYH)) (sp:=[_,_,_,some (.slice (some ⟨bo,oo,none⟩) ts.length cp),_,_,_,_,_,some (ab p.fol)]) (k:=?_);refine rq aO (pC rfl rfl) (vb (decide_eq_false hle)) ?_;refine B 7 ?_;refine eA 7 (pb:=by exact zU 4 (k:=zYH)) (sp:=[some (.slice (some ⟨bo,oo,none⟩) ts.length cp),_,_,_,_,_,some (ab p.fol)]) (k:=?_);refine zxf ?_;refine av 2 ?_ ?_
  ·intro eB;refine zlh ?_;refine yW ?_;intro xt sU Mr;refine z5e ?_;intro B2 sV sW HD rG;have pD:(Rw.row B2 sV sW).Fr Gh.no [w3,w]:=HD.elim (λh=>Rw.Fr_at aB h) (λh=>.inr h);have wM:=Rw.ge_of pD A0;have O8:w3.heap.size<=B2:=wM;refine zAh ?_;refine ag ((((Rw.row B2 sV sW),(xs++[q])),false),i+1) ⟨by dsimp only;omega,pD,rG,zYM,zYP⟩
  intro eB;refine B 8 ?_;refine ag (((r,xs),false),i+1) ⟨by dsimp only;omega,aB,af,zYM,zYP⟩
 intro ax;refine B 12 ?_;refine CJ.cut (α:=Rw) (λx=>[(0,.slice a ts.length cp),(8,x.val (dq ts p).length)]) (λx=>x.hp fu 199 (dq ts p)++[]) (λx=>x.Fr Gh.no [w3,w]/\x.Fit 5 (dq ts p)) ?_ ?_
 ·obtain rfl:i=ts.length:=by omega
  refine pd ?_ ?_
  ·intro gq;refine aV 2 (.agg (plA p)) ?_;refine OR ?_;refine yW ?_;intro AI Mu amX;refine jf (r:=r) (xs:=xs) (zs:=[p]) (enc:=fu) (m:=5) (H0:=[(AI,oC (plA p) 199)]) (H1:=[]) rfl S1 nq rfl rfl rfl rfl (bN.one (z:=p) nq GW underlying32 (bL.own (i:=0) rfl)) af aB zP z4 ?_;intro aq TB TC c5 TD;have O9:(Rw.row aq TB TC).Fr Gh.no [w3,w]:=c5.elim (λh=>Rw.Fr_at aB h) (λh=>.inr h);have cO:=Rw.ge_of O9 A0;have gk:w3.heap.size<=aq:=cO;refine KJ ?_;refine OJ.reH (H':=(Rw.row aq TB TC).hp fu 199 (xs++[p])++[]) rfl ?_;refine B 2 ?_;have AJ:(xs++[p])=dq ts p:=nts (by rw[CN];simp_all);exact PJ.cut (Rw.row aq TB TC) ⟨O9,by rw[<-AJ];exact TD⟩ ⟨rfl,by rw[<-AJ];rfl,trivial⟩ (by rw[<-AJ])
  intro gq;refine B 1 ?_;have AJ:xs=dq ts p:=nFs (by rw[CN];simp_all);exact PJ.cut r ⟨aB,by rw[<-AJ];exact af⟩ ⟨rfl,by rw[<-AJ];rfl,trivial⟩ (by rw[<-AJ])
 rintro r2 ⟨ei,eT⟩;refine B 3 ?_;refine nid (H0:=[]) (H1:=[]) (enc:=fu) (m:=5) (t:=199) (xs:=dq ts p) rfl nq eT ei ?_;intro ws a9 c9 e9 zr Tx _;have dz:=Tx w A1;replace zr:aj plA 5 ws.heap.size ws a9 (dq ts p):=zr;have hpl:=nOn p ts;refine B 5 ?_;refine CJ.loop (α:=Nat) (λj=>[(0,.slice a ts.length cp),(8,.slice a9 (dq ts p).length c9),(11,ab (j:Int))]) (λj=>[]) (λj=>[ws,w3,w]) (λj=>Gh.no) (λj=>j<=(dq ts p).length/\cE (λq:Pl=>decide (8<1+((cA (gb (dq ts p)) q.fol).length:Int))) (dq ts p) j) (λj=>(dq ts p).length-j) 0 ⟨cd _,λi x hi=>absurd hi aa⟩ ⟨rfl,congrArg some e9,rfl,trivial⟩ rfl rfl zP ?_;rintro j ⟨gn,bT⟩;refine av 9 ?_ ?_
 ·intro fw;refine B 5 ?_;obtain⟨bg,bu,ep,e7,zq,rfl,e5,cx,c4⟩:=zr.get aa;obtain⟨q2,mr⟩:=ng (dq ts p) j aa;have eY:=yS (O7.fokP HC) q2.fol;have e8:(gb (dq ts p)).length=(dq ts p).length:=jg ..;refine aV 1 (.slice (some ⟨bg,bu,none⟩) (dq ts p).length c9) ?_;refine bX (.slice (some ⟨bg,bu,none⟩) (dq ts p).length c9) ?_;refine B 3 ?_;refine rx (ad (v:=ab q2.fol) isAgg3 rfl A0 cx zL trivial (nu c4 mr rfl 2 zF)) ?_;refine nN (enc:=ak) (m:=1) (t:=3) (xs:=(cA (gb (dq ts p)) q2.fol)) (v:=id) (first:=[]) (cap:=[]) rfl call82 rfl rfl rfl nh (λW hS=>nAo (dq ts p) aa ws.heap.size (some ⟨bg,bu,none⟩) c9 W (hS.links ws A0).size (zr.up (aC _) (hS.same A0 (aC _) zO zJ)) (WD O7.s) (O7.fokP HC) q2.fol) ?_;intro fi OD oZ OE kQ rp gv jP;have Gq:=(kQ.links w A2).size;have Gr:=rp.size;have kR:=kQ.under;replace kR:=yg kR;refine av 5 ?_ ?_
  ·intro ja;refine B 13 ?_;have u2:mT ts p=true:=TA (List.any_eq_true.2 ⟨q2,cF mr,decide_eq_true aa⟩);refine bH (.inl rfl) results127 aL λW hS=>⟨(a,cp),?_,hS.base A3 True.intro,?_⟩
   ·exact zvk
   dsimp only;unfold lj;rw[if_pos u2];exact aA.up aT hS.sm
  intro ja;refine B 8 ?_;refine ag (j+1) ⟨by omega,bT.next mr (decide_eq_false aa)⟩
 intro fw;refine B 13 ?_;have u2:mT ts p=false:=Mm HC (Cu bT aa);refine bH (.inl rfl) results127 aL λW hS=>⟨(a9,c9),?_,hS.base A2 True.intro,?_⟩
 ·show Ending.returned (.tuple #[.slice a9 (dq ts p).length c9,aK])=_;unfold lj;rw[if_neg (by rw[u2];decide),u2];rfl
 dsimp only;unfold lj;rw[if_neg (by rw[u2];decide)];exact zr.up (hS.links ws A0).size (hS.same A0 (aC _) zO True.intro)
theorem HF(ts:List Pl):fJ ts ts.length=dV ts:=by rw[nzi,<-nfn];rfl
theorem nlj(hp:(fJ ts ts.length)[j]? =some p):kn ts (j+1)=lj (kn ts j) p:=by
 simp_all[nzi,kn,nk]
theorem Mv(ts:List Pl)(j:Nat):∃kv,yY (kn ts j) kv:=by
 unfold kn;rw[<-nzi,HF];exact⟨_,Hp (λp hp=>nwg (aYt hp)) Hq⟩
theorem HG(ts:List Pl)(p:Pl):(lj ts p).length<=ts.length+1:=by
 grind [lj,nOn]
theorem nGl(ts:List Pl):∀j,(kn ts j).length<=j
 |0=>by simp[kn]
 |j+1=>by
  have ih:=nGl ts j;cases hp:(fJ ts ts.length)[j]? with
  |none=>
   grind [nzi,kn,List.take_of_length_le]
  |some p=>rw[nlj hp];grind [HG]
noncomputable abbrev u3 (ts:List Pl):List Pl:=kn ts (fJ ts ts.length).length
theorem nkj(ts:List Pl):yY (u3 ts) (nC ts):=by
 simp_all[Mi,u3,HF]
section
variable (ts:List Pl)(OY:ts.length<=100)(N:Nat)(a:Option Addr)(cp:Nat)(w:World)(hN:N<=w.heap.size)(aA:aj plA 5 N w a ts)
include OY N cp hN aA
theorem HH:Calls prog 83 #[.slice a ts.length cp] w (db w (λq:Option Addr×Nat=>.slice q.1 (u3 ts).length q.2) (λq w1=>aj plA 5 w1.heap.size w1 q.1 (u3 ts))):=by
 have tO:=noi (ts:=ts) ts.length;refine cH 8 func83 ntmps83 ?_;refine nN (enc:=fu) (m:=5) (t:=199) (xs:=(fJ ts ts.length)) (v:=id) (first:=[]) (cap:=[]) rfl call126 rfl rfl rfl nq (λW hS=>n9o ts aa N a cp W aT (aA.us hS.sm)) ?_;intro bw OD oZ OE kQ rp gv jP;have Gq:=(kQ.links w A0).size;have Gr:=rp.size;have kR:=kQ.under;replace kR:=yg kR;refine B 5 ?_;refine Dg underlying32 sizeOf199 zeroValue199 rfl rfl rfl rfl rfl rfl rfl ?_;refine yV ?_;intro b8 w8 hb8 hm8 bz lI r4;refine B 10 ?_;refine CJ.loop (α:=((Option Addr×Nat)×World)×Nat) (λz=>[(3,.slice OD (fJ ts ts.length).length oZ),(4,.slice z.1.1.1 (kn ts z.2).length z.1.1.2),(5,ab (z.2:Int))]) (λz=>[]) (λz=>[z.1.2,OE,w]) (λz=>Gh.no) (λz=>z.2<=(fJ ts ts.length).length/\aj plA 5 z.1.2.heap.size z.1.2 z.1.1.1 (kn ts z.2)) (λz=>(fJ ts ts.length).length-z.2) (((some ⟨b8,0,none⟩,0),w8),0) ⟨cd _,.inl (by simp[kn])⟩ zR rfl rfl zP ?_;rintro⟨⟨⟨a3,c3⟩,wt⟩,j⟩ ⟨hj,cB⟩;dsimp only at hj cB ⊢;refine av 9 ?_ ?_
 ·intro ai;refine B 4 ?_;replace gv:aj plA 5 OE.heap.size OE OD (fJ ts ts.length):=gv;obtain⟨bo,oo,cs0,to,dR,rfl,dW,fY,ay⟩:=gv.get aa;obtain⟨p,hp⟩:=ng (fJ ts ts.length) j aa;obtain⟨kv,J⟩:=Mv ts j;refine aV 2 (.slice (some ⟨bo,oo,none⟩) (fJ ts ts.length).length oZ) ?_;refine aV 2 (.agg (plA p)) ?_;refine ny (α:=Option Addr×Nat) (v:=λq:Option Addr×Nat=>.tuple #[.slice q.1 (lj (kn ts j) p).length q.2,.bool (!mT (kn ts j) p)]) (Φ:=λ_ q w1=>aj plA 5 w1.heap.size w1 q.1 (lj (kn ts j) p)) call127 rfl rfl rfl (λW hS=>Mo (kn ts j) (by have:=nGl ts j;omega) wt.heap.size a3 c3 W (hS.links wt A0).size (cB.up (aC _) (hS.same A0 (aC _) zO True.intro)) kv J p) ?_;rintro W9 ⟨a9,c9⟩ w9 jS uK IX;try dsimp only at IX
  refine B 12 ?_;refine PJ.again (((a9,c9),w9),j+1) ⟨by dsimp only;omega,by dsimp only;rw[nlj hp];exact IX⟩ zZ ⟨rfl,by dsimp only;rw[nlj hp];rfl,rfl,trivial⟩ rfl rfl zP
 intro ai;refine B 12 ?_;obtain rfl:j=(fJ ts ts.length).length:=by omega
 refine bH (.inl rfl) results83 aL λW hS=>⟨(a3,c3),rfl,hS.base A2 True.intro,cB.up (hS.links wt A0).size (hS.same A0 (aC _) zO True.intro)⟩
theorem n1l(f:Int):Calls prog 41 #[.slice a ts.length cp,ab f] w (nv w ak 1 3 (cA (nC ts) f) id):=by
 have tO:=noi (ts:=ts) ts.length;have a6:=nGl ts (fJ ts ts.length).length;rw[<-(nkj ts).an f];refine cH 8 func41 ntmps41 ?_;refine ny (α:=Option Addr×Nat) (v:=λq:Option Addr×Nat=>.slice q.1 (u3 ts).length q.2) (Φ:=λ_ q w1=>aj plA 5 w1.heap.size w1 q.1 (u3 ts)) call83 rfl rfl rfl (λW hS=>HH ts OY N a cp W aT (aA.us hS.sm)) ?_;rintro W9 ⟨a9,c9⟩ J jS uK IX;try dsimp only at IX
 refine B 1 ?_;refine xg (enc:=ak) (m:=1) (t:=3) (xs:=(cA (gb (u3 ts)) f)) (v:=id) (first:=[]) (cap:=[]) rfl call82 rfl rfl rfl (λW hS=>nAo (u3 ts) (by unfold u3;omega) J.heap.size a9 c9 W (hS.links J A0).size (IX.up (aC _) (hS.same A0 (aC _) zO True.intro)) (nkj ts).s (nkj ts).fok f) ?_;intro r8 dY jK;have jX:=Rw.ge_of dY A1;refine B 4 ?_;exact nB (H0:=[]) (H1:=[]) (r:=r8) (.inl rfl) results41 aL A1 zeb rfl jK jX zP
end
structure Sc where
 fos:List Fo
 fa:Option Addr
 fc:Nat
 cs:List Cm
 la:Option Addr
 lc:Nat
 lks:List Lk
 ka:Option Addr
 kc:Nat
 fas:List Fa
 xa:Option Addr
 xc:Nat
 pls:List Pl
 pa:Option Addr
 pc:Nat
 ot:Nat->Option Addr×Nat×Nat
def rdA (s:Sc):Array Value:=#[.slice s.fa s.fos.length s.fc,.slice (s.ot 1).1 (s.ot 1).2.1 (s.ot 1).2.2,.slice s.la s.cs.length s.lc,.slice (s.ot 3).1 (s.ot 3).2.1 (s.ot 3).2.2,.slice (s.ot 4).1 (s.ot 4).2.1 (s.ot 4).2.2,.slice s.ka s.lks.length s.kc,.slice s.xa s.fas.length s.xc,.slice (s.ot 7).1 (s.ot 7).2.1 (s.ot 7).2.2]
def mU (s:Sc):Array Value:=#[.slice s.fa s.fos.length s.fc,.slice (s.ot 1).1 (s.ot 1).2.1 (s.ot 1).2.2,.slice s.la s.cs.length s.lc,.slice (s.ot 3).1 (s.ot 3).2.1 (s.ot 3).2.2,.slice (s.ot 4).1 (s.ot 4).2.1 (s.ot 4).2.2,.slice s.ka s.lks.length s.kc,.slice s.xa s.fas.length s.xc,.slice (s.ot 7).1 (s.ot 7).2.1 (s.ot 7).2.2,.slice s.pa s.pls.length s.pc]
structure Mw (f:Fa):Prop where
 lnk:gY f.lnk
 com:gY f.com
 by_:ig f.by_
 n:ig f.n
structure dZ (N:Nat) (w:World) (s:Sc):Prop where
 fo:aj sM 33 N w s.fa s.fos
 cs:aj cW 73 N w s.la s.cs
 cm:∀c∈s.cs,dc N w c
 lk:aj lkC 40 N w s.ka s.lks
 fx:aj vl 68 N w s.xa s.fas
 pl:aj plA 5 N w s.pa s.pls
structure fq (s:Sc):Prop where
 fo:s.fos.length<=1000
 cl:s.cs.length<=1000
 cg:∀c∈s.cs,ck c
 kl:s.lks.length<=1000
 ko:∀l∈s.lks,dm l
 xl:s.fas.length<=1000
 xo:∀f∈s.fas,Mw f
 pl:s.pls.length<=12
theorem dZ.up{N J:Nat}{w':World}{s:Sc}(h:dZ N w s)(hN:N<=J)(hw:∀k,k<N->w'.heap[k]? =w.heap[k]?):dZ J w' s:=⟨h.fo.up hN hw,h.cs.up hN hw,λc hc=>(h.cm c hc).up hN hw,h.lk.up hN hw,h.fx.up hN hw,h.pl.up hN hw⟩
theorem dZ.us{N:Nat}{w':World}{s:Sc}(h:dZ N w s)(hw:∀k,k<N->w'.heap[k]? =w.heap[k]?):dZ N w' s:=h.up (aC _) hw
noncomputable def CP (Z:Fx) (ms:List Mb) (d:Int) (mf:Nat->Int) (r s:Int):Bool:=match ms.find? (λm=>decide (m.dev=d))with
 |some m=>jF Z m.ver (dy mf) r s
 |none=>false
theorem Pa{ms:List Mb}{J:Nat->Int}{r s:Int}(h:ms.any (λm=>decide (m.dev=d))=false):false=CP Z ms d J r s:=by
 grind [CP]
theorem n2j{ms:List Mb}{J:Nat->Int}{r s:Int}{m:Mb}(hk:ms[k]? =some m)(hm:decide (m.dev=d)=true)(iL:cE (λm=>decide (m.dev=d)) ms k):jF Z m.ver (dy J) r s=CP Z ms d J r s:=by
 unfold CP;rw[show ms.find? (λm=>decide (m.dev=d))=some m by
  rw[List.find?_eq_some_iff_getElem];obtain⟨hl,he⟩:=qe.1 hk;refine⟨hm,k,hl,he,λj hj=>?_⟩;have:=iL j ms[j] hj (kC aa)
  grind]
theorem Mx(d:Int)(b:Nat)(x:Mb)(w:World)(aW:w.heap[b]? =some (oC #[ab d] 3)):Calls prog 109 #[.agg (jx x),ptr b 0] w (ar w (.bool (decide (x.dev=d)))):=by
 have bJ:¬Gh.no.X b:=λh=>h;have J:=(bO.1 aW).1;refine eN func109 ntmps109 ?_;refine aU 2 ?_;intro b2 w2 bV bj dz cL cR;refine B 13 ?_;refine ao results109 rfl A1 ?_;rfl
theorem nLi(hZ:FxOk Z)(g:Gv)(N:Nat)(w:World)(hN:N<=w.heap.size)(hG:aM N w g)(d:Int)(J:Nat->Int)(bm tm:Nat)(aq:Nat×Nat)(jQ:w.heap[bm]? =some (.cells (dg J) tm aq))(DZ:gY J)(r s:Int)(hg:Glb w):Calls prog 71 #[.agg (aY g),ab d,.slice (aH bm) 32 32,.agg #[ab r,ab s]] w (ar w (.bool (CP Z g.g.ms d J r s))):=by
 have pO:g.g.ms.length<=1000000:=by have:=hG.mn;omega
 have yn:=(bO.1 jQ).1;have gP:=hg.lt;refine eN func71 ntmps71 ?_;refine aU 2 ?_;intro b4 w4 gI iA oA dL dP;refine yX ?_;intro b5 w5 gQ je pq fK gf;refine yX ?_;intro b7 w7 UO UP a8 ie lu;refine aV 6 (.slice g.ma g.g.ms.length g.mc) ?_;refine B 1 ?_;refine ny (α:=Int) (v:=λi:Int=>ab i) (Φ:=λ_ i _=>eE (λx=>decide (x.dev=d)) g.g.ms i) call108 rfl rfl rfl (λW hS=>nXd (λx=>decide (x.dev=d)) 109 [ptr b5 0] call109 g.g.ms pO N g.ma g.mc W aT (hG.ms.us hS.sm) (λj x hx W2 hB=>Mx d b5 x W2 (by have h2:=(hS.links w5 A1).size;rw[hB.block b5 aa];exact hS.old A1 gQ je trivial))) ?_;intro Wi i wi yw yx hi;refine B 4 ?_;rcases hi with⟨rfl,kM⟩|⟨k,x0,rfl,mI,E5,iL⟩
 ·refine eA 11 (sp:=(_::(some aO)::_)) (k:=?_);refine B 6 ?_;exact ztk
 obtain⟨bo,oo,cs0,to,dR,iq,dW,hcs,ay⟩:=hG.ms.get (by have:=aG mI;omega);have lf:=aG mI;refine eA 11 (pb:=by exact zU 4 (k:=by exact qv (RV.re (v':=.slice (some ⟨bo,oo,none⟩) g.g.ms.length g.mc) (ad isAgg81 rfl A3 gI iA trivial rfl) mR) (zU 3 (k:=by exact qv (ad (v:=ab x0.ver) isAgg3 rfl A4 hcs zL trivial (nu ay mI rfl 2 zF)) zT)))) (sp:=(_::(some aK)::_)) (k:=?_);refine cl call76 rfl (λW hS=>by have h9:=YO hZ x0.ver r s (dy J) bm 0 32 (by rw[nM];omega) W (cD.dg (hS.old A4 jQ zL trivial) DZ) (hg.old hS A4 zO trivial);rw[nM]at h9;exact h9) (v:=.bool (jF Z x0.ver (dy J) r s)) ?_;refine B 5 ?_;exact ztk
theorem nwn(p:Lk->Bool)(f:Nat)(cap:List Value)(aF:fh prog f)(xs:List Lk)(de:xs.length<=1000000)(N:Nat)(a:Option Addr)(cp:Nat)(w:World)(hN:N<=w.heap.size)(aA:aj lkC 40 N w a xs)(hp:∀(j:Nat) (x:Lk),xs[j]? =some x->∀W,Below w.heap.size w W->Calls prog f (.agg (lkC x)::cap).toArray W (ar W (.bool (p x)))):Calls prog 72 #[.slice a xs.length cp,.func (.func f) #[] cap.toArray] w (db w (λi:Int=>ab i) (λi _=>eE p xs i)):=by
 refine eN func72 ntmps72 ?_;refine Vv ?_;rintro j ⟨hj,bT⟩;refine av 6 ?_ ?_
 ·intro ai;refine B 11 ?_;obtain⟨bo,oo,cs0,to,dR,rfl,dW,hcs,ay⟩:=aA.get aa;obtain⟨x,hx⟩:=ng xs j aa;refine aV 5 (.agg (lkC x)) ?_;refine Vw ?_;refine pd ?_ ?_
  ·intro ax;refine B 12 ?_;refine pe (j:Int) results72 rfl A0 rfl ?_;exact Vx
  exact Rb
 intro ai;refine B 11 ?_;refine pe (-1:Int) results72 rfl A0 rfl ?_;exact Rc
theorem HI(hZ:FxOk Z)(l:Lk)(b:Nat)(x:Lk)(hx:dm x)(w:World)(aW:w.heap[b]? =some (oC (lkC l) 69))(hg:Glb w):Calls prog 73 #[.agg (lkC x),ptr b 0] w (ar w (.bool (gV (qu Z x) l.par))):=by
 have bJ:¬Gh.no.X b:=λh=>h;have J:=(bO.1 aW).1;have gP:=hg.lt;refine eN func73 ntmps73 ?_;refine aU 2 ?_;intro b2 w2 bV bj dz cL cR;refine B 4 ?_;refine eA 5 (pb:=by exact zU 1 (k:=by exact dh (X.cv call12 rfl (λW hS _=>npj hZ x hx W (hg.old hS A1 zO trivial))) zT)) (sp:=[_,some (.agg (dg (qu Z x))),_,_,some (.agg (dg l.par))]) (k:=?_);refine rr (.bool (gV (qu Z x) l.par)) (lR wZ zF nT rfl rfl rfl) ?_;refine B 4 ?_;refine ao results73 rfl A1 ?_;rfl
def iy (Z:Fx) (lks:List Lk) (l:Lk):Option Lk:=if l.by_= -1 then lks.find? (λx=>gV (qu Z x) l.par)else none
theorem TE{l:Lk}(h:¬l.by_= -1):iy Z lks l=none:=if_neg h
theorem HJ{l:Lk}(h:lks.any (λx=>gV (qu Z x) l.par)=false):iy Z lks l=none:=by
 grind [iy]
theorem My{l:Lk}{x:Lk}(hb:l.by_= -1)(hk:lks[k]? =some x)(hx:gV (qu Z x) l.par=true)(iL:cE (λx=>gV (qu Z x) l.par) lks k):iy Z lks l=some x:=by
 unfold iy;rw[if_pos hb,List.find?_eq_some_iff_getElem];obtain⟨hl,he⟩:=qe.1 hk;refine⟨hx,k,hl,he,λj hj=>?_⟩;have:=iL j lks[j] hj (kC aa)
 grind
theorem nOq{l p:Lk}(h:iy Z lks l=some p):p∈lks:=by
 grind [iy]
theorem Glb.bel(h:Glb w)(hB:Below w.heap.size w W):Glb W:=by
 have h4:=h.lt;obtain⟨⟨t,fr,h0⟩,t2,J,h2⟩:=h;exact⟨⟨t,fr,(hB.block _ aa).trans h0⟩,t2,J,(hB.block _ aa).trans h2⟩
def ab3 (o:Option Lk):Value:=.tuple #[.agg (lkC (o.getD vX)),.bool o.isSome]
theorem nYd(hZ:FxOk Z)(s:Sc)(ho:fq s)(N:Nat)(w:World)(hN:N<=w.heap.size)(hs:dZ N w s)(l:Lk)(hg:Glb w):Calls prog 33 #[.agg (mU s),.agg (lkC l)] w (ar w (ab3 (iy Z s.lks l))):=by
 have gP:=hg.lt;have J:=ho.kl;refine eN func33 ntmps33 ?_;refine aU 2 ?_;intro b2 w2 bV bj dz cL cR;refine yX ?_;intro b3 w3 bQ aZ dK cP dt;refine bD 1 ?_;intro b4 dL dP;refine B 7 ?_;refine zZg ?_;refine B 1 ?_;refine ny (α:=Int) (v:=λi:Int=>ab i) (Φ:=λ_ i _=>eE (λx=>gV (qu Z x) l.par) s.lks i) call72 rfl rfl rfl (λW hS=>nwn (λx=>gV (qu Z x) l.par) 73 [ptr b3 0] call73 s.lks aa N s.ka s.kc W aT (hs.lk.up (aC _) (hS.same A2 hN zO vF)) (λj x hx W2 hB=>HI hZ l b3 x (ho.ko x (cF hx)) W2 (by have h2:=(hS.links w3 A0).size;rw[hB.block b3 aa];exact hS.old A0 bQ aZ zD) ((hg.old hS A2 zO vF).bel hB))) ?_;intro Wi i wi yw yx hi;refine B 5 ?_;by_cases p6:l.by_= -1
 ·rcases hi with⟨rfl,kM⟩|⟨k,x0,rfl,mI,E5,iL⟩
  ·refine z9h ?_;refine Bf ?_;exact bH (.inl rfl) results33 aL λW hS=>⟨by rw[HJ kM];rfl,hS.base A3 uy⟩
  obtain⟨bo,oo,cs0,to,dR,iq,dW,hcs,ay⟩:=hs.lk.get (by have:=aG mI;omega);have lf:=aG mI;refine z9h ?_;refine PD ?_;refine rq (.slice (some ⟨bo,oo,none⟩) s.lks.length s.kc) (ad isAgg27 rfl A2 bV bj zD rfl) mR ?_;refine aV 2 (.agg (lkC x0)) ?_;refine B 6 ?_;exact bH (.inl rfl) results33 aL λW hS=>⟨by rw[My p6 mI E5 iL];rfl,hS.base A3 uy⟩
 refine B 4 ?_;refine rq aK (aN rfl rfl) (vb (by simp[p6])) ?_;refine B 16 ?_;exact bH (.inl rfl) results33 aL λW hS=>⟨by rw[TE p6];rfl,hS.base A3 uy⟩
theorem Rw.sl'{r:Rw}{t:Nat}{xs:List Int}(hr:r.Fit 1 xs)(hA:r.At ak t xs w):∃a cap,r.val xs.length= .slice a xs.length cap/\aj encI 1 w.heap.size w a xs:=by
 obtain⟨a,c,h1,h2⟩:=r.sl nh hr hA (aC _);exact⟨a,c,h1,h2⟩
theorem Rw.at_own{r:Rw}{t:Nat}{xs:List Int}(hS:St G L H W)(hm:∀p∈r.hp ak t xs,p∈H):r.At ak t xs W:=by
 cases r with
 |nil=>trivial
 |row b cap sp=>exact hS.own (b,_) (hm _ qw)
theorem n0n:∀{H:ae} {b:Nat},(∀p∈H,p.1<b)->cu H b
 | [],_,_=>True.intro
 |p::H,b,h=>⟨by grind,n0n λq hq=>h q (.tail _ hq)⟩
def TF (pls:List Pl) (l p:Lk):Bool:=(cA (nC pls) l.fo).any λx=>decide (p.fo=x)
noncomputable def eM (Z:Fx) (pls:List Pl) (l p:Lk):Bool:=np p&&p.resh&&decide (l.exp<=p.exp)&&(decide (p.fo=l.fo)||TF pls l p)&&jF Z p.ver (dy (eC Z l)) l.sr l.ss
section
variable (hZ:FxOk Z)(s:Sc)(ho:fq s)(N:Nat)(w:World)(hN:N<=w.heap.size)(hs:dZ N w s)(l p:Lk)(hlk:dm l)(hg:Glb w)
include hZ s ho N hN hs hlk hg
theorem HK(hv:np p=false):Calls prog 34 #[.agg (mU s),.agg (lkC l),.agg (lkC p)] w (ar w (.bool (eM Z s.pls l p))):=by
 have gP:=hg.lt;refine WI ?_;refine yV ?_;intro b3 w3 bQ aZ dK cP dt;refine yX ?_;intro b4 w4 gI iA J dL dP;refine yX ?_;intro b5 w5 gQ je pq fK gf;refine B 4 ?_;refine eA 46 (pb:=by exact zU 1 (k:=by exact dh (ne call20 rfl rfl (λW hS _=>zYv) (λ_=>rfl)) zT)) (sp:=(_::(some (aO))::_)) (k:=?_);refine B 6 ?_;refine ao results34 rfl A3 ?_;exact vb (by unfold eM;simp[hv])
theorem HL(hv:np p=true)(hr:p.resh=false):Calls prog 34 #[.agg (mU s),.agg (lkC l),.agg (lkC p)] w (ar w (.bool (eM Z s.pls l p))):=by
 have gP:=hg.lt;refine WI ?_;refine yV ?_;intro b3 w3 bQ aZ dK cP dt;refine yX ?_;intro b4 w4 gI iA J dL dP;refine yX ?_;intro b5 w5 gQ je pq fK gf;refine B 4 ?_;refine eA 46 (pb:=by exact zU 1 (k:=by exact dh (ne call20 rfl rfl (λW hS _=>zYv) (λ_=>rfl)) (zU 3 (k:=zY4)))) (sp:=(_::(some (aK))::_)) (k:=?_);refine B 6 ?_;refine ao results34 rfl A3 ?_;exact vb (by unfold eM;simp[hr])
theorem HM(hv:np p=true)(hr:p.resh=true)(he:¬l.exp<=p.exp):Calls prog 34 #[.agg (mU s),.agg (lkC l),.agg (lkC p)] w (ar w (.bool (eM Z s.pls l p))):=by
 have gP:=hg.lt;refine WI ?_;refine yV ?_;intro b3 w3 bQ aZ dK cP dt;refine yX ?_;intro b4 w4 gI iA J dL dP;refine yX ?_;intro b5 w5 gQ je pq fK gf;refine B 4 ?_;refine eA 46 (pb:=by exact zU 1 (k:=by exact dh (ne call20 rfl rfl (λW hS _=>zYv) (λ_=>rfl)) (zU 3 (k:=zY5)))) (sp:=(_::(some (aK))::_::_::_::_::_::_::_::_::_::_::_::_::(some aO)::_)) (k:=?_);refine B 6 ?_;refine ao results34 rfl A3 ?_;exact vb (by unfold eM;simp[he])
theorem nKs(hv:np p=true)(hr:p.resh=true)(he:l.exp<=p.exp)(hf:p.fo=l.fo):Calls prog 34 #[.agg (mU s),.agg (lkC l),.agg (lkC p)] w (ar w (.bool (eM Z s.pls l p))):=by
 have gP:=hg.lt;refine WI ?_;refine yV ?_;intro b3 w3 bQ aZ dK cP dt;refine yX ?_;intro b4 w4 gI iA J dL dP;refine yX ?_;intro b5 w5 gQ je pq fK gf;refine B 4 ?_;refine eS 46 42 [] (pb:=by exact zU 1 (k:=by exact dh (ne call20 rfl rfl (λW hS _=>zYv) (λ_=>rfl)) (zU 3 (k:=by exact qv (RV.re (v':=aK) (ad isAgg4 rfl A0 gQ je trivial rfl) (vb hr)) (zU 17 (k:=zYBN)))))) (sp:=(_::(some (aK))::_::_::_::_::_::_::_::_::_::_::_::_::(some aK)::_)) (h:=?_);intro _ _ hk;refine ny (α:=Nat) (v:=λb=>.slice (aH b) 32 32) (Φ:=λW b w1=>W.heap.size<=b/\w1.heap[b]? =some (oC (dg (eC Z l)) 34)) call22 rfl rfl rfl (λW hS=>nNc hZ l hlk W (hg.old hS A3 zO trivial)) ?_;rintro Wm tV AK wh Q0 ⟨mo,ql⟩;refine zE ?_;refine call (v:=.bool (jF Z p.ver (dy (eC Z l)) l.sr l.ss)) call76 rfl rfl rfl (λW hS=>by have h9:=YO hZ p.ver l.sr l.ss (dy (eC Z l)) tV 0 32 (by rw[nM];omega) W (cD.dg (hS.old A0 ql zL trivial) (NU hZ l)) (hg.old hS A4 zO trivial);rw[nM]at h9;exact h9) ?_;refine B 5 ?_;refine ao results34 rfl A4 ?_;exact vb (by unfold eM;simp[hv,hr,he,hf])
theorem Mz(hv:np p=true)(hr:p.resh=true)(he:l.exp<=p.exp)(hf:¬p.fo=l.fo)(hu:TF s.pls l p=true):Calls prog 34 #[.agg (mU s),.agg (lkC l),.agg (lkC p)] w (ar w (.bool (eM Z s.pls l p))):=by
 have gP:=hg.lt;refine WI ?_;refine yV ?_;intro b3 w3 bQ aZ dK cP dt;refine yX ?_;intro b4 w4 gI iA J dL dP;refine yX ?_;intro b5 w5 gQ je pq fK gf;refine B 4 ?_;refine nE (E':=[(0,_),(1,_),(2,_),(3,_),(4,_),(5,_),(6,_)]) zR ?_;refine CJ.chn 46 [30,42] [_,some (aK),_,_,_,_,_,_,_,_,_,_,_,_,_,_,_,_,_,_,_,_,_,_,_,_,_,_,_,_,none,_,_,_,some (aK),_,_,_,_,_,_,_,none,_,_,_] (λcv L' H'=>match cv with| []=>L'=[w5,w4,w3,w]/\H'=[]| [v1]=>∃(gA:Rw),v1=gA.val (cA (nC s.pls) l.fo).length/\L'=[w5,w4,w3,w]/\H'=(gA.hp ak 3 (cA (nC s.pls) l.fo)++[])/\gA.Fr Gh.no [w5,w4,w3,w]/\gA.Fit 1 (cA (nC s.pls) l.fo)| [v1,v2]=>∃(gA:Rw) (tV:Nat) (AK:World),v1=gA.val (cA (nC s.pls) l.fo).length/\v2= .slice (aH tV) 32 32/\L'=[AK,w5,w4,w3,w]/\H'=(gA.hp ak 3 (cA (nC s.pls) l.fo)++[])/\gA.Fr Gh.no [w5,w4,w3,w]/\gA.Fit 1 (cA (nC s.pls) l.fo)/\AK.heap[tV]? =some (oC (dg (eC Z l)) 34)/\cu (gA.hp ak 3 (cA (nC s.pls) l.fo)++[]) tV|_=>False) (pc qm (pc qm (pc zX (pc z1 (pc zac (pc qm (pc CQ (pc zX (pc z1 (pc z0 (pc qm (pc z1 (pc z0 (pc qm (pc zEb (pc CQ (pc zX (pc z1 (pc z0 (pc qm (pc z1 (pc z0 (pc qm (pc zIb (pc zX (pc (zYBL) (pc qm (pc z1 (pc z0 (pc qm (pk (pc z1 (pc z0 (pc qm (pc (λcv L' H' hd hP=>match cv,hd,hP with| [],hd,hP=>(absurd (show false=true from hd) zF)| [v1],hd,hP=>(by obtain⟨gA,rfl,rfl,rfl,gd,cK⟩:=hP;exact ne call74 rfl rfl (λW hS _=>zYO) (λ_=>rfl))| [v1,v2],hd,hP=>(by obtain⟨gA,tV,AK,rfl,rfl,rfl,rfl,gd,cK,ql,tW⟩:=hP;exact ne call74 rfl rfl (λW hS _=>zYO) (λ_=>rfl))|_::_::_::_,_,hP=>hP.elim) (pc zAc (pc CQ (pc zX (pc z1 (pc z0 (pc qm (pc qm (pk (pc z1 (pc U7 (pc qm (pn))))))))))))))))))))))))))))))))))))))))))))))) ?_ ?_
 ·refine ss rfl ?_ ?_
  ·exact z8k
  refine ss rfl ?_ ?_
  ·intro cv L' H' hl hP F Q' hk;obtain⟨v1,rfl⟩:=gh hl;obtain⟨gA,rfl,rfl,rfl,gd,cK⟩:=hP;refine ny (α:=Nat) (v:=λb=>.slice (aH b) 32 32) (Φ:=λW b w1=>W.heap.size<=b/\w1.heap[b]? =some (oC (dg (eC Z l)) 34)) call22 rfl rfl rfl (λW hS=>nNc hZ l hlk W (hg.old hS A3 zO WJ)) ?_;exact z0j
  exact nn
 intro cv L' H' hl hP;obtain⟨v1,v2,rfl⟩:=kY hl;obtain⟨gA,tV,AK,rfl,rfl,rfl,rfl,gd,cK,ql,tW⟩:=hP;refine call (v:=.bool (jF Z p.ver (dy (eC Z l)) l.sr l.ss)) call76 rfl rfl rfl (λW hS=>by have h9:=YO hZ p.ver l.sr l.ss (dy (eC Z l)) tV 0 32 (by rw[nM];omega) W (cD.dg (hS.old A0 ql zL tW) (NU hZ l)) (hg.old hS A4 zO WJ);rw[nM]at h9;exact h9) ?_;refine B 5 ?_;exact bH (.inl rfl) results34 (RS.t rfl RS.n) λW hS=>⟨congrArg Ending.returned (vb (by unfold eM;simp[hv,hr,he,hu])),hS.base A4 WJ⟩
theorem HN(hv:np p=true)(hr:p.resh=true)(he:l.exp<=p.exp)(hf:¬p.fo=l.fo)(hu:TF s.pls l p=false):Calls prog 34 #[.agg (mU s),.agg (lkC l),.agg (lkC p)] w (ar w (.bool (eM Z s.pls l p))):=by
 have gP:=hg.lt;refine WI ?_;refine yV ?_;intro b3 w3 bQ aZ dK cP dt;refine yX ?_;intro b4 w4 gI iA J dL dP;refine yX ?_;intro b5 w5 gQ je pq fK gf;refine B 4 ?_;refine nE (E':=[(0,_),(1,_),(2,_),(3,_),(4,_),(5,_),(6,_)]) zR ?_;refine CJ.chn 46 [30] [_,some (aK),_,_,_,_,_,_,_,_,_,_,_,_,_,_,_,_,_,_,_,_,_,_,_,_,_,_,_,_,none,_,_,_,some (aO),_,_,_,some undef,some undef,some undef,some undef,some undef,some undef,some undef,some undef] (λcv L' H'=>match cv with| []=>L'=[w5,w4,w3,w]/\H'=[]| [v1]=>∃(gA:Rw),v1=gA.val (cA (nC s.pls) l.fo).length/\L'=[w5,w4,w3,w]/\H'=(gA.hp ak 3 (cA (nC s.pls) l.fo)++[])/\gA.Fr Gh.no [w5,w4,w3,w]/\gA.Fit 1 (cA (nC s.pls) l.fo)|_=>False) (pc u4 (pc u4 (pc zX (pc z1 (pc zac (pc u4 (pc CQ (pc zX (pc z1 (pc z0 (pc u4 (pc z1 (pc z0 (pc u4 (pc zEb (pc CQ (pc zX (pc z1 (pc z0 (pc u4 (pc z1 (pc z0 (pc u4 (pc zIb (pc zX (pc (zYBL) (pc u4 (pc z1 (pc z0 (pc u4 (pk (pc z1 (pc z0 (pc u4 (pc (λcv L' H' hd hP=>match cv,hd,hP with| [],hd,hP=>(absurd (show false=true from hd) zF)| [v1],hd,hP=>(by obtain⟨gA,rfl,rfl,rfl,gd,cK⟩:=hP;exact ne call74 rfl rfl (λW hS _=>by obtain⟨a9,c9,e9,h9⟩:=gA.sl' (t:=3) cK (Rw.at_own hS (λp hp=>by simp[hp]));have h8:=nXg (cA (nC s.pls) l.fo) (dS (yS (Tn s.pls).1 l.fo) znd) W.heap.size a9 c9 W (aC _) h9 p.fo;rw[show((cA (nC s.pls) l.fo).any λx=>decide (p.fo=x))=false from hu,<-e9]at h8;exact h8) (λ_=>rfl))|_::_::_,_,hP=>hP.elim) (pc zAc (pc CQ (pc zX (pc z7 (pc z7 (pc z7 (pc z7 (pc z7 (pc z7 (pc z7 (pc z7 (pn))))))))))))))))))))))))))))))))))))))))))))))) ?_ ?_
 ·refine ss rfl ?_ ?_
  ·exact z8k
  exact nn
 intro cv L' H' hl hP;obtain⟨v1,rfl⟩:=gh hl;obtain⟨gA,rfl,rfl,rfl,gd,cK⟩:=hP;refine B 6 ?_;exact bH (.inl rfl) results34 (RS.t rfl RS.n) λW hS=>⟨congrArg Ending.returned (vb (by unfold eM;simp[hf,hu])),hS.base A3 WJ⟩
theorem nTf:Calls prog 34 #[.agg (mU s),.agg (lkC l),.agg (lkC p)] w (ar w (.bool (eM Z s.pls l p))):=by
 grind [HK,HL,nKs,HN,Mz,HM]



end
theorem ndp(hZ:FxOk Z)(cs:List Cm)(hcs:cs.length<=1000)(cZ:∀c∈cs,ck c)(NQ NR NX:Nat)(la:Option Addr)(lc:Nat)(ia:Option Addr)(ic:Nat)(ta:Option Addr)(tc:Nat)(fo:Fo)(b1 b2:Nat)(W:World)(TG:Oy Z cs la ia ta ic tc NQ NR NX W)(hR:NR<=b1/\b1<NX/\NR<=b2/\b2<NX)(aW:W.heap[b1]? =some (oC (IT Z cs la lc ⟨ia,ic,ta,tc⟩) 228))(bV:W.heap[b2]? =some (oC (sM fo) 152)):AL prog 209 [ptr b1 0,ptr b2 0] (λd:Cd=>[.agg (fl d)]) (λ(p:List Cd) (_:aJ) (_:World)=>p.length<=cs.length) (λ(xs:List Cd) (Y:aJ) (A:World)=>(pA Z cs fo (xs.map BW)/\xs.length<=cs.length)/\∀e∈xs,aM A.heap.size A e.x/\eP Y e.x/\bU NQ e.x) (λ_=>False) (FP NQ NR NX) W:=by
 intro l M I X0 hM hI hX hy h0;have bJ:¬(dI hM (λ_=>False) (hI [] _)).X b1:=by rintro(h|h);(exact(hM _ h).2.2 ⟨hR.2.1,.inr hR.1⟩);(exact h.elim)
 have bj:¬(dI hM (λ_=>False) (hI [] _)).X b2:=by rintro(h|h);(exact(hM _ h).2.2 ⟨hR.2.2.2,.inr hR.2.2.1⟩);(exact h.elim)
 have eB:=TG.x;have et:=TG.q;have ej:=TG.n3;refine nP (dI hM (λ_=>False) (hI [] _)) [] (vs:=[_,_,_]) func209 rfl ntmps209 rfl (Nl hM (hI [] _) h0 zP (by simp[ky]) zP) ?_;refine B 2 ?_;refine z9g ?_;refine bX (.agg (sM fo)) ?_;refine ny (α:=Cd×Bool) (v:=λq=>.tuple #[.agg (fl q.1),.bool q.2]) (Φ:=λW q w'=>(q.2=true/\qg Z cs fo=some (sL q.1)/\yM Z cs (g0 fo) q.1/\aM w'.heap.size w' q.1.x/\bU W.heap.size q.1.x)\/(q.2=false/\qg Z cs fo=none)) call210 rfl rfl rfl (λW9 hS=>by
  obtain⟨h1,h2,h3,h4⟩:=TG.args (hS.links W A0).size (TG.same hS A0 (λk hk=>hk.elim) True.intro);exact nmr hZ cs hcs cZ W9.heap.size la lc W9 (aC _) h1 h2 ia ic ta tc h3 fo h4) ?_
 rintro W9 ⟨d,bI⟩ w9 jS uK bu;have tG:=uK.size;have c5:=(jS.links W A0).size;refine bD 4 ?_;intro b4 dL dP;refine B 5 ?_;refine CJ.loop (α:=((((List Cd×Cd)×Bool)×aJ)×World)×Nat) (λp=>[(0,yv l),(1,ptr b1 0),(2,ptr b2 0),(4,ptr p.2 0),(5,.bool p.1.1.1.2)]) (λp=>[(p.2,oC (fl p.1.1.1.1.2) 232)]) (λp=>[p.1.2,W]) (λp=>dI hM p.1.1.2 (hI p.1.1.1.1.1 p.1.1.2)) (λp=>(∀k,p.1.1.2 k->W.heap.size<=k)/\W.heap.size<=p.2/\W.heap.size<=p.1.2.heap.size/\p.1.1.1.1.1.length<=cs.length/\((p.1.1.1.2=true/\Lt Z cs fo M p.1.1.1.1.1 p.1.1.1.1.2 p.1.1.2 p.1.2 p.2/\bU NQ p.1.1.1.1.2.x)\/(p.1.1.1.2=false/\pA Z cs fo (p.1.1.1.1.1.map BW)))/\∀e∈p.1.1.1.1.1,aM p.1.2.heap.size p.1.2 e.x/\eP (λk=>M k\/p.1.1.2 k) e.x/\yN p.2 e.x/\bU NQ e.x) (λp=>cs.length+1-p.1.1.1.1.1.length) ((((([],d),bI),λ_=>False),w9),b4) ⟨λ_ h=>h.elim,by dsimp only;omega,by dsimp only;omega,cd _,bu.imp (λh=>⟨h.1,Lt.first h.2.1 h.2.2.1 h.2.2.2.1 h.2.2.2.2 (λk hk=>by have:=(hM k hk).1;omega) zZ,h.2.2.2.2.mono aa⟩) (λh=>⟨h.1,h.2⟩),λe he=>by cases he⟩ zR rfl rfl zP ?_;rintro⟨⟨⟨⟨⟨pre,d⟩,bI⟩,V⟩,wk⟩,b4⟩ ⟨hV,Sj,Zy,hpl,gM,HO⟩;dsimp only at hV Sj Zy hpl gM HO ⊢;clear bJ bj;have bJ:¬(dI hM V (hI pre V)).X b1:=by rintro(h|h);(exact(hM _ h).2.2 ⟨hR.2.1,.inr hR.1⟩);(have:=hV _ h;omega)
 have bj:¬(dI hM V (hI pre V)).X b2:=by rintro(h|h);(exact(hM _ h).2.2 ⟨hR.2.2.2,.inr hR.2.2.1⟩);(have:=hV _ h;omega)
 refine B 2 ?_;rcases gM with⟨rfl,o3,y4⟩|⟨rfl,cC⟩
 ·refine aV 4 (.agg (fl d)) ?_;refine Pb (λ_=>False) id Rh (V:=V) (λV=>hI (pre++[d]) V) hX hV rfl rfl rfl rfl (λW1 _ ZE mY=>hy pre d V W1 (by have:=o3.mu;show(pre++[d]).length<=cs.length;rw[eU,VV];omega) ZE mY) ?_ ?_
  ·intro J II yr;have u5:=yr wk A0;have B3:∀k,J k->W.heap.size<=k:=λk hk=>by rcases u5 k hk with h|h;(exact hV k h);omega
   have bJ:¬(dI hM J (hI (pre++[d]) J)).X b1:=by rintro(h|h);(exact(hM _ h).2.2 ⟨hR.2.1,.inr hR.1⟩);(have:=B3 _ h;omega)
   have bj:¬(dI hM J (hI (pre++[d]) J)).X b2:=by rintro(h|h);(exact(hM _ h).2.2 ⟨hR.2.2.2,.inr hR.2.2.1⟩);(have:=B3 _ h;omega)
   have HP:eP (λk=>M k\/J k) d.x:=o3.out.up o3.lies (λk hk=>hk.elim (λh=>.inl (.inl h)) (λh=>(u5 k h).imp .inr id));have AJ:∀e∈pre++[d],eP (λk=>M k\/J k) e.x:=λe he=>by
    rcases dQ.1 he with he|he
    ·exact(HO e he).2.1.up (HO e he).1 (λk hk=>hk.elim (λh=>.inl (.inl h)) (λh=>(u5 k h).imp .inr id))
    rw[xB.1 he];exact HP
   refine aV 14 (.agg (fl d)) ?_;refine B 2 ?_;refine nAs (i:=0) (L':=[W]) rfl zI zP (λWr KN=>?_);have gi:aM Wr.heap.size Wr d.x:=o3.lies.toZ KN A0 (aC _) HP (λp hp=>by rw[xB.1 hp];exact o3.off);have tH:=(KN.links W A1).size;have uE:∀e∈pre++[d],bU NQ e.x:=λe he=>by
    rcases dQ.1 he with he|he
    ·exact(HO e he).2.2.2
    rw[xB.1 he];exact y4
   have TH:∀e∈pre++[d],aM Wr.heap.size Wr e.x:=λe he=>by
    rcases dQ.1 he with he|he
    ·exact(HO e he).1.toZ KN A0 (aC _) (AJ e (dQ.2 (.inl he))) (λp hp=>by rw[xB.1 hp];exact(HO e he).2.2.1)
    rw[xB.1 he];exact gi
   refine bD 2 ?_;intro b4 dL dP;refine B 4 ?_;refine z9g ?_;refine aV 1 (.agg (aY d.x)) ?_;refine ny (α:=Cd×Bool) (v:=λq=>.tuple #[.agg (fl q.1),.bool q.2]) (Φ:=λW q w'=>(q.2=true/\rS Z cs d.x.g=some (sL q.1)/\rj Z cs d.x.g q.1/\aM w'.heap.size w' q.1.x/\bU W.heap.size q.1.x)\/(q.2=false/\rS Z cs d.x.g=none)) call211 rfl rfl rfl (λW9 hS=>by
    obtain⟨h1,h2,h3,h4⟩:=TG.args (hS.links W A1).size (TG.same hS A1 B3 ⟨dL.2.1,True.intro⟩);exact n6o hZ cs hcs cZ W9.heap.size la lc W9 (aC _) h1 h2 ia ic ta tc h3 d.x (gi.toZ hS A0 (aC _) HP (λp hp=>by rw[xB.1 hp];exact gi.off zZ)) h4) ?_
   rintro W9 ⟨d2,c4⟩ w9 jS uK bu;have tG:=uK.size;have c5:=(jS.links W A1).size;have mP:=jS.lt (b4,_) A0;try dsimp only at mP
   have dd:∀k,J k->k<W9.heap.size:=λk hk=>jS.xlt k (.inr hk);have cQ:∀k,M k->k<W9.heap.size:=λk hk=>jS.xlt k (.inl hk);have cO:∀e∈pre++[d],aM w9.heap.size w9 e.x:=λe he=>by
    have h9:=(TH e he).toZ jS A0 (aC _) (AJ e he) (λp hp=>by rw[xB.1 hp];exact(TH e he).off zZ);exact h9.up uK.size (λk hk=>uK.block k hk)
   refine B 6 ?_;refine PJ.again (((((pre++[d],d2),c4),J),w9),b4) ⟨B3,by dsimp only;omega,by dsimp only;omega,by have:=o3.mu;dsimp only;rw[eU,VV];omega,bu.imp (λh=>⟨h.1,o3.step h.2.1 h.2.2.1.le h.2.2.2.1 h.2.2.2.2 cQ dd mP,h.2.2.2.2.mono aa⟩) (λh=>⟨h.1,o3.stop h.2⟩),λe he=>⟨cO e he,AJ e he,(TH e he).off zZ,uE e he⟩⟩ (by have:=o3.mu;dsimp only;rw[eU,VV];omega) zR rfl rfl zP
  intro J II yr;have u5:=yr wk A0;have B3:∀k,J k->W.heap.size<=k:=λk hk=>by rcases u5 k hk with h|h;(exact hV k h);omega
  refine B 8 ?_;exact n8h (Fin:=(λ(xs:List Cd) (Y:aJ) (A:World)=>(pA Z cs fo (xs.map BW)/\xs.length<=cs.length)/\∀e∈xs,aM A.heap.size A e.x/\eP Y e.x/\bU NQ e.x)) (.inr rfl) results209 A1 B3 (by intro k hk hx;simp at hx;omega) (λA bz hA=>.inr hA)
 refine B 14 ?_;exact n8h (Fin:=(λ(xs:List Cd) (Y:aJ) (A:World)=>(pA Z cs fo (xs.map BW)/\xs.length<=cs.length)/\∀e∈xs,aM A.heap.size A e.x/\eP Y e.x/\bU NQ e.x)) (.inr rfl) results209 A1 hV (by intro k hk hx;simp at hx;omega) (λA bz hA=>.inl ⟨pre,⟨⟨cC,hpl⟩,λe he=>⟨(HO e he).1.toZ bz A0 (aC _) (HO e he).2.1 (λp hp=>by rw[xB.1 hp];exact(HO e he).2.2.1),(HO e he).2.1,(HO e he).2.2.2⟩⟩,hA⟩)
theorem eP.off{Y:aJ}{x:Gv}{b:Nat}(h:eP Y x)(hb:Y b):yN b x:=⟨λq e=>(h.1 q e).imp id (λh1 e2=>h1 (e2▸hb)),λq e=>(h.2 q e).imp id (λh1 e2=>h1 (e2▸hb))⟩
theorem eP.none{x:Gv}:eP Gh.no.X x:=⟨λq e=>.inr zL,λq e=>.inr zL⟩
theorem nul(hZ:FxOk Z)(cs:List Cm)(hcs:cs.length<=1000)(cZ:∀c∈cs,ck c)(N:Nat)(la:Option Addr)(lc:Nat)(w:World)(hN:N<=w.heap.size)(aA:aj cW 73 N w la cs)(hC:∀c∈cs,dc N w c)(fo:Fo)(hg:Glb w):Calls prog 104 #[.agg (sM fo),.slice la cs.length lc] w (db w (λq:((Option Addr×Nat)×(Option Addr×Nat))×List Cd=>.tuple #[.slice q.1.1.1 q.2.length q.1.1.2,.slice q.1.2.1 q.2.length q.1.2.2]) (λq w1=>(pA Z cs fo (q.2.map BW)/\q.2.length<=cs.length)/\aj (λx=>(ak x).toArray) 1 w1.heap.size w1 q.1.1.1 (q.2.map λd=>d.at_)/\aj (λx=>(kN x).toArray) 36 w1.heap.size w1 q.1.2.1 (q.2.map λd=>d.x)/\(∀p,q.1.1.1=some p->w.heap.size<=p.block)/\(∀p,q.1.2.1=some p->w.heap.size<=p.block)/\∀d∈q.2,aM w1.heap.size w1 d.x/\bU w.heap.size d.x)):=by
 have gP:=hg.lt;refine Im Gh.no [] (vs:=[_,_]) func104 rfl ntmps104 rfl (AX w) ?_;refine aU 2 ?_;intro b2 w2 bV bj dz cL cR;refine bD 1 ?_;intro b4 dL dP;refine bD 1 ?_;intro b5 fK gf;refine B 4 ?_;refine eS 3 1 [] (h:=?_);intro _ _ hk;refine ny (α:=Pv) (v:=λp=>.agg (IT Z cs la lc p)) (Φ:=λW p w1=>rh Z cs w1.heap.size w1 p/\(∀q,p.ia=some q->W.heap.size<=q.block)/\∀q,p.ta=some q->W.heap.size<=q.block) call145 rfl rfl rfl (λW hS=>Px.newPool hZ cs hcs cZ N la lc W aT (aA.us (hS.same A1 hN zO ⟨by dsimp only;omega,by dsimp only;omega,True.intro⟩)) (λc hc=>(hC c hc).us (hS.same A1 hN zO ⟨by dsimp only;omega,by dsimp only;omega,True.intro⟩)) (hg.old hS A1 zO ⟨by dsimp only;omega,by dsimp only;omega,True.intro⟩)) ?_;rintro Wp ⟨ia,ic,ta,tc⟩ wp BC Q1 ⟨Se,Lf,bg⟩;try dsimp only at Se Lf bg
 have l5:=BC.lt (b5,_) A0;have l4:=BC.lt (b4,_) A1;try dsimp only at l4 l5
 have lw:=(BC.links w A1).size;have eB:b5<(Wp.heap.size)/\b4<(Wp.heap.size)/\w.heap.size<=(Wp.heap.size)/\(Wp.heap.size)<=wp.heap.size:=⟨l5,l4,lw,Q1.size⟩;refine zE ?_;refine ny (α:=Nat×Nat) (v:=λq:Nat×Nat=>.func (.func 209) #[] #[ptr q.1 0,ptr q.2 0]) (Φ:=λW q w1=>W.heap.size<=q.1/\W.heap.size<=q.2/\w1.heap[q.1]? =some (oC (IT Z cs la lc ⟨ia,ic,ta,tc⟩) 228)/\w1.heap[q.2]? =some (oC (sM fo) 152)) call146 rfl rfl rfl (λW hS=>ncr Z cs la lc ia ic ta tc fo W) ?_;rintro Wn q wn pZ wv ⟨oi,mr,jR,kH⟩;try dsimp only at oi mr jR kH
 have EA:=(bO.1 jR).1;have EB:=(bO.1 kH).1;have Og:=wv.size;have e4:=(pZ.links wp A0).size;refine B 3 ?_;refine nRl (f:=209) (cap:=[ptr q.1 0,ptr q.2 0]) (α:=Cd) (enc:=(λd:Cd=>[.agg (fl d)])) (Pre:=(λ(p:List Cd) (_:aJ) (_:World)=>p.length<=cs.length)) (Fin:=(λ(xs:List Cd) (Y:aJ) (A:World)=>(pA Z cs fo (xs.map BW)/\xs.length<=cs.length)/\∀e∈xs,aM A.heap.size A e.x/\eP Y e.x/\bU w.heap.size e.x)) (RO:=FP w.heap.size (Wp.heap.size) wn.heap.size) (MI:=λ_=>False) rfl call209 (λW' W2 hS hB=>by have l1:=(hS.links wn A0).size;exact ndp hZ cs hcs cZ w.heap.size (Wp.heap.size) wn.heap.size la lc ia ic ta tc fo q.1 q.2 W2 (Oy.mk2 hN aA hC hg Se Lf bg hS A3 A1 A0 hB aa aa (λp hp=>by simp only[ft,jc,or_false]at hp;rcases hp with rfl|rfl<;>(dsimp only;omega))) aa ZF ZG) (λ_ _ _ hk=>hk.elim) (λW' hS k hk=>by have h1:=hk.1;have h2:=hk.2;have l1:=(hS.links wn A0).size;exact⟨by omega,by simp only[jv,kS,ft,jc,or_false];omega,λh=>h⟩) (λ_=>rfl) (λpre G' Hc=>G'=Gh.no/\∃r1 J:Rw,r1.Fr Gh.no [wn,wp,w2,w]/\r1.Fit 1 (pre.map λd=>d.at_)/\J.Fr Gh.no [wn,wp,w2,w]/\J.Fit 36 (pre.map λd=>d.x)/\Hc=[(b5,oC #[J.val (pre.map λd=>d.x).length] 106),(b4,oC #[r1.val (pre.map λd=>d.at_).length] 96)]++(r1.hp ak 3 (pre.map λd=>d.at_)++(J.hp kN 86 (pre.map λd=>d.x)++[]))) (λ_ _ _=>False) ⟨rfl,.nil,.nil,True.intro,rfl,True.intro,rfl,rfl⟩ zF ?_ ?_ ?_
 ·rintro pre x G' Hc l Dk rec W1 M V Wy pJ ui gX ⟨rfl,r1,J,jH,iX,ei,eT,rfl⟩ fM jA Np vE cI Io;simp only[ah]at fM vE;have ri:r1.ge wn.heap.size:=Rw.ge_of jH A0;have eX:J.ge wn.heap.size:=Rw.ge_of ei A0;have hpl:(pre++[x]).length<=cs.length:=gX;simp only[eU,kb,oe]at hpl;have bu:∀p∈r1.hp ak 3 (pre.map λd=>d.at_),M p.1\/V p.1:=λp hp=>cI.loc.h p zVc;have dd:∀p∈J.hp kN 86 (pre.map λd=>d.x),M p.1\/V p.1:=λp hp=>cI.loc.h p (by simp only[dQ];exact .inr (.inr (.inl hp)));refine bD 2 ?_;intro b6 jb od;refine B 2 ?_;refine PJ.reH (H':=book ([(b6,oC (fl x) 232)]++([(b5,oC #[J.val (pre.map λd=>d.x).length] 106),(b4,oC #[r1.val (pre.map λd=>d.at_).length] 96)]++(r1.hp ak 3 (pre.map λd=>d.at_)++(J.hp kN 86 (pre.map λd=>d.x)++[])))) l rec (eV Dk)) rfl ?_;refine nHc pJ ?_;refine B 1 ?_;refine nE (E':=[(0,_),(1,_),(2,_),(4,_),(5,_),(6,_),(7,_),(8,_),(9,_),(10,_),(11,_)]) zR ?_;refine dN 9 [3,4,8] [[],[0],[]] (λcv L' H'=>let xp:Nat×Obj:=(b5,oC #[J.val (pre.map λd=>d.x).length] 106);let mN:Nat×Obj:=(b4,oC #[r1.val (pre.map λd=>d.at_).length] 96);let dA:List World:=[Wy,wn,wp,w2,w];match cv with| [none,none,none]=>L'=dA/\H'=book ([(b6,oC (fl x) 232),xp,mN]++(r1.hp ak 3 (pre.map λd=>d.at_)++(J.hp kN 86 (pre.map λd=>d.x)++[]))) l {rec with state:=.busy} (eV Dk)| [none,none,some v8]=>∃(lg:Nat),v8= .slice (aH lg) 1 1/\L'=dA/\H'=book ([(lg,oC (aY x.x) 86),(b6,oC (fl x) 232),xp,mN]++(r1.hp ak 3 (pre.map λd=>d.at_)++(J.hp kN 86 (pre.map λd=>d.x)++[]))) l {rec with state:=.busy} (eV Dk)/\ah [Wy,wn,wp,w2,w] lg| [some v3,none,none]=>∃(gl:Nat),v3= .slice (aH gl) 1 1/\L'=dA/\H'=book ([(gl,oC #[ab x.at_] 3),(b6,oC (fl x) 232),xp,mN]++(r1.hp ak 3 (pre.map λd=>d.at_)++(J.hp kN 86 (pre.map λd=>d.x)++[]))) l {rec with state:=.busy} (eV Dk)/\ah [Wy,wn,wp,w2,w] gl| [some v3,none,some v8]=>∃(gl:Nat) (lg:Nat),v3= .slice (aH gl) 1 1/\v8= .slice (aH lg) 1 1/\L'=dA/\H'=book ([(lg,oC (aY x.x) 86),(gl,oC #[ab x.at_] 3),(b6,oC (fl x) 232),xp,mN]++(r1.hp ak 3 (pre.map λd=>d.at_)++(J.hp kN 86 (pre.map λd=>d.x)++[]))) l {rec with state:=.busy} (eV Dk)/\ah [Wy,wn,wp,w2,w] gl/\ah [Wy,wn,wp,w2,w] lg| [some v3,some v4,none]=>∃(gl:Nat) (gg:Nat) (iE:Nat) (jr:List Value),v3= .slice (aH gl) 1 1/\v4= .slice (aH gg) ((pre.map λd=>d.at_)++[x.at_]).length iE/\L'=dA/\H'=book ([(gl,oC #[ab x.at_] 3),(b6,oC (fl x) 232),xp,mN]++((Rw.row gg iE jr).hp ak 3 ((pre.map λd=>d.at_)++[x.at_])++(J.hp kN 86 (pre.map λd=>d.x)++[]))) l {rec with state:=.busy} (eV Dk)/\ah [Wy,wn,wp,w2,w] gl/\(r1.isAt gg\/ah [Wy,wn,wp,w2,w] gg)/\(Rw.row gg iE jr).Fit 1 ((pre.map λd=>d.at_)++[x.at_])| [some v3,some v4,some v8]=>∃(gl:Nat) (gg:Nat) (iE:Nat) (jr:List Value) (lg:Nat),v3= .slice (aH gl) 1 1/\v4= .slice (aH gg) ((pre.map λd=>d.at_)++[x.at_]).length iE/\v8= .slice (aH lg) 1 1/\L'=dA/\H'=book ([(lg,oC (aY x.x) 86),(gl,oC #[ab x.at_] 3),(b6,oC (fl x) 232),xp,mN]++((Rw.row gg iE jr).hp ak 3 ((pre.map λd=>d.at_)++[x.at_])++(J.hp kN 86 (pre.map λd=>d.x)++[]))) l {rec with state:=.busy} (eV Dk)/\ah [Wy,wn,wp,w2,w] gl/\(r1.isAt gg\/ah [Wy,wn,wp,w2,w] gg)/\(Rw.row gg iE jr).Fit 1 ((pre.map λd=>d.at_)++[x.at_])/\ah [Wy,wn,wp,w2,w] lg|_=>False) ⟨rfl,rfl⟩ (ph zcB (Aa 1 (k:=by exact ph zcB (Aa 2 (k:=by exact ph zcB (Aa 1 (k:=by exact ph zcB zTq))))))) ?_ ?_
  ·refine nc rfl rfl ?_ ?_
   ·intro cv L' H' hl hr hP F Q' hk;obtain⟨x3,x4,x8,rfl⟩:=gO hl;rcases x3 with _|v3<;>rcases x4 with _|v4<;>rcases x8 with _|v8<;>try exact False.elim hP
    ·obtain⟨rfl,rfl⟩:=hP;refine uC ?_;intro gl ha ho;exact OJ.done (hk _ _ _ ⟨gl,rfl,rfl,rfl,ha⟩)
    ·obtain⟨lg,rfl,rfl,rfl,sC⟩:=hP;refine uC ?_;intro gl ha ho;refine OJ.perm (List.Perm.swap _ _ _) ?_;exact OJ.done (hk _ _ _ ⟨gl,lg,rfl,rfl,rfl,rfl,ha,sC⟩)
    ·exact fN
    ·exact fN
    ·exact fN
    exact fN
   refine nc rfl rfl ?_ ?_
   ·intro cv L' H' hl hr hP F Q' hk;obtain⟨x3,x4,x8,rfl⟩:=gO hl;rcases x3 with _|v3<;>rcases x4 with _|v4<;>rcases x8 with _|v8<;>try exact False.elim hP
    ·exact fN
    ·exact fN
    ·obtain⟨gl,rfl,rfl,rfl,jl⟩:=hP;refine jf (r:=r1) (xs:=(pre.map λd=>d.at_)) (zs:=[x.at_]) (enc:=ak) (m:=1) (H0:=[(gl,oC #[ab x.at_] 3),(b6,oC (fl x) 232),(b5,oC #[J.val (pre.map λd=>d.x).length] 106),(b4,oC #[r1.val (pre.map λd=>d.at_).length] 96)]) (H1:=(J.hp kN 86 (pre.map λd=>d.x)++[])++((l,.loop {rec with state:=.busy})::eV Dk)) Cf vY nh rfl rfl rfl rfl (bN.one (z:=x.at_) nh v7 underlying96 (bL.own (i:=0) rfl)) iX (Rw.Fr_ext bu) zP Cq ?_;intro gg iE jr kB ir;exact OJ.done (hk _ _ _ ⟨gl,gg,iE,jr,rfl,rfl,rfl,rfl,jl,kB,ir⟩)
    ·obtain⟨gl,lg,rfl,rfl,rfl,rfl,jl,sC⟩:=hP;refine jf (r:=r1) (xs:=(pre.map λd=>d.at_)) (zs:=[x.at_]) (enc:=ak) (m:=1) (H0:=[(lg,oC (aY x.x) 86),(gl,oC #[ab x.at_] 3),(b6,oC (fl x) 232),(b5,oC #[J.val (pre.map λd=>d.x).length] 106),(b4,oC #[r1.val (pre.map λd=>d.at_).length] 96)]) (H1:=(J.hp kN 86 (pre.map λd=>d.x)++[])++((l,.loop {rec with state:=.busy})::eV Dk)) Cf vY nh rfl rfl rfl rfl (bN.one (z:=x.at_) nh v7 underlying96 (bL.own (i:=1) rfl)) iX (Rw.Fr_ext bu) zP Cq ?_;intro gg iE jr kB ir;exact OJ.done (hk _ _ _ ⟨gl,gg,iE,jr,lg,rfl,rfl,rfl,rfl,rfl,jl,kB,ir,sC⟩)
    ·exact fN
    exact fN
   refine nc rfl rfl ?_ ?_
   ·intro cv L' H' hl hr hP F Q' hk;obtain⟨x3,x4,x8,rfl⟩:=gO hl;rcases x3 with _|v3<;>rcases x4 with _|v4<;>rcases x8 with _|v8<;>try exact False.elim hP
    ·obtain⟨rfl,rfl⟩:=hP;refine zcf ?_;intro lg ha ho;exact OJ.done (hk _ _ _ ⟨lg,rfl,rfl,rfl,ha⟩)
    ·exact fN
    ·obtain⟨gl,rfl,rfl,rfl,jl⟩:=hP;refine zcf ?_;intro lg ha ho;exact OJ.done (hk _ _ _ ⟨gl,lg,rfl,rfl,rfl,rfl,jl,ha⟩)
    ·exact fN
    ·obtain⟨gl,gg,iE,jr,rfl,rfl,rfl,rfl,jl,kB,ir⟩:=hP;refine zcf ?_;intro lg ha ho;exact OJ.done (hk _ _ _ ⟨gl,gg,iE,jr,lg,rfl,rfl,rfl,rfl,rfl,jl,kB,ir,ha⟩)
    exact fN
   exact nn
  intro cv L' H' hl hr hP;obtain⟨x3,x4,x8,rfl⟩:=gO hl;rcases x3 with _|v3<;>rcases x4 with _|v4<;>rcases x8 with _|v8
  ·exact fN
  ·exact fN
  ·exact fN
  ·exact fN
  ·exact fN
  ·exact fN
  ·exact fN
  obtain⟨gl,gg,iE,jr,lg,rfl,rfl,rfl,rfl,rfl,jl,kB,ir,sC⟩:=hP;simp only[ah]at jl sC kB;refine jf (r:=J) (xs:=(pre.map λd=>d.x)) (zs:=[x.x]) (enc:=kN) (m:=36) (H0:=[(lg,oC (aY x.x) 86),(gl,oC #[ab x.at_] 3),(b6,oC (fl x) 232),(b5,oC #[J.val (pre.map λd=>d.x).length] 106),(b4,oC #[r1.val (pre.map λd=>d.at_).length] 96)]++(Rw.row gg iE jr).hp ak 3 ((pre.map λd=>d.at_)++[x.at_])) (H1:=(l,.loop {rec with state:=.busy})::eV Dk) IA Fu VQ rfl rfl rfl rfl (bN.one (z:=x.x) VQ nJq underlying106 (bL.own (i:=0) rfl)) eT (Rw.Fr_ext dd) zP Cq ?_;intro qp yj yk sD qO;replace sD:=yb sD;refine B 4 ?_;refine vo ?_;refine lx ?_;refine Jk (G2:=Gh.no) (Hc2:=[(b5,oC #[(Rw.row qp yj yk).val ((pre.map λd=>d.x)++[x.x]).length] 106),(b4,oC #[(Rw.row gg iE jr).val ((pre.map λd=>d.at_)++[x.at_]).length] 96)]++((Rw.row gg iE jr).hp ak 3 ((pre.map λd=>d.at_)++[x.at_])++((Rw.row qp yj yk).hp kN 86 ((pre.map λd=>d.x)++[x.x])++[]))) cI jA ⟨λ_ h=>h,λ_ h=>.inl h,λ_ h=>.inl h,(nes rfl (kB.imp id (λh=>h.1)) (sD.imp id (λh=>h.1))),(by intro p hp;simp only[ft,jc,or_false]at hp;rcases hp with rfl|rfl<;>exact .inl zP)⟩ (Jl pJ ui) ?_;exact⟨rfl,.row gg iE jr,.row qp yj yk,kB.elim (λh=>Rw.Fr_at jH h) (λh=>.inr h.2),by rw[iM];exact ir,sD.elim (λh=>Rw.Fr_at ei h) (λh=>.inr h.2),by rw[iM];exact qO,by rw[iM,iM];rfl⟩
 ·rintro lF l Dk rec G' Hc Zf Wd ⟨cC,HQ⟩ cQ fM jA ⟨rfl,r1,J,jH,iX,ei,eT,rfl⟩;replace fM:=yb fM;have ri:r1.ge wn.heap.size:=Rw.ge_of jH A0;have eX:J.ge wn.heap.size:=Rw.ge_of ei A0;refine YU λWe c6=>?_;have pj:=Vf c6;refine B 3 ?_;refine nE (E':=[(0,_),(1,_),(2,_),(4,_),(5,_),(7,_),(8,_),(9,_),(10,_)]) zR ?_;refine CJ.chn 3 [2] [some (r1.val (lF.map λd=>d.at_).length),some (J.val (lF.map λd=>d.x).length),none] (λcv L' H'=>let dA:ae:=[(b5,oC #[J.val (lF.map λd=>d.x).length] 106),(b4,oC #[r1.val (lF.map λd=>d.at_).length] 96)];match cv with| []=>L'=[Wd,wn,wp,w2,w]/\H'=book (dA++(r1.hp ak 3 (lF.map λd=>d.at_)++(J.hp kN 86 (lF.map λd=>d.x)++[]))) l rec (eV Dk)| [v1]=>v1= .tuple #[]/\L'=[Wd,wn,wp,w2,w]/\H'=book (dA++(r1.hp ak 3 (lF.map λd=>d.at_)++(J.hp kN 86 (lF.map λd=>d.x)++[]))) l rec (eV Dk)|_=>False) (pc zcC (pc zcC (pk (pn)))) ?_ ?_
  ·refine ss rfl ?_ ?_
   ·intro cv L' H' hl hP F Q' hk;obtain rfl:=oJ hl;obtain⟨rfl,rfl⟩:=hP;refine fE (i:=1) rfl sizeOf96 rfl rfl rfl (Rw.val_size _ _) rfl (Rw.val_one _ _) ?_;refine OJ.reH (H':=book ([(b5,oC #[J.val (lF.map λd=>d.x).length] 106),(b4,oC #[r1.val (lF.map λd=>d.at_).length] 96)]++(r1.hp ak 3 (lF.map λd=>d.at_)++(J.hp kN 86 (lF.map λd=>d.x)++[]))) l rec (eV Dk)) (by simp[book];exact Rw.val_cells _ _) ?_;exact OJ.done (hk (.tuple #[]) _ _ ⟨rfl,rfl,rfl⟩)
   exact nn
  intro cv L' H' hl hP;obtain⟨v1,rfl⟩:=gh hl;obtain⟨rfl,rfl,rfl⟩:=hP;refine fE (i:=0) rfl sizeOf106 rfl rfl rfl (Rw.val_size _ _) rfl (Rw.val_one _ _) ?_;refine B 3 ?_;refine PJ.reH (H':=book ([(b5,oC #[J.val (lF.map λd=>d.x).length] 106),(b4,oC #[r1.val (lF.map λd=>d.at_).length] 96)]++(r1.hp ak 3 (lF.map λd=>d.at_)++(J.hp kN 86 (lF.map λd=>d.x)++[]))) l rec (eV Dk)) (by simp[book];exact Rw.val_cells _ _) ?_;refine aaK (.inl rfl) results104 isAgg96 isAgg106 rfl rfl Cf A1 A0 (pj _ A1).1 (pj _ A0).1 rfl rfl (λW H' hS di cB=>?_);have FA:r1.At ak 3 (lF.map λd=>d.at_) W:=by
   cases r1 with
   |nil=>trivial
   |row b cap sp=>exact hS.own (b,_) (cB _ (by simp[book,Rw.hp]) (pj _ qw).1)
  have FB:J.At kN 86 (lF.map λd=>d.x) W:=by
   cases J with
   |nil=>trivial
   |row b cap sp=>exact hS.own (b,_) (cB _ (by simp[book,Rw.hp]) (pj _ qw).1)
  obtain⟨a1,c1,lS,Le⟩:=Rw.sl nh iX FA (aC W.heap.size);obtain⟨a2,c2,pR,c0⟩:=Rw.sl VQ eT FB (aC W.heap.size);refine⟨(((a1,c1),(a2,c2)),lF),?_,?_,cC,Le,c0,Rw.val_new (Rw.ge_mono ri aa) lS,Rw.val_new (Rw.ge_mono eX aa) pR,λd hd=>⟨(HQ d hd).1.toZ hS A0 (aC _) eP.none (λp hp=>?_),(HQ d hd).2.2⟩⟩
  ·show Ending.returned (.tuple #[r1.val _,J.val _])=_;rw[lS,pR];simp
  ·exact(hS.links w A4).below (λk hk hx=>by rcases hx with hx|hx;(exact hx);rw[di]at hx;simp only[book,iM,jv,kS,dQ,ft,jc,or_false]at hx;rcases hx with((hx|hx)|hx|hx)|hx|hx<;>first|omega|(have:=Rw.mem_ge ri hx;omega)|(have:=Rw.mem_ge eX hx;omega))
  have h9:p.1∈H'.map (·.1):=dO.2 ⟨p,hp,rfl⟩;rw[di]at h9;obtain⟨p2,Lf,e9⟩:=dO.1 h9;rw[<-e9];exact(HQ d hd).2.1.off (cQ p2 Lf)
 exact Xe
theorem cE.find{α:Type}{p:α->Bool}{xs:List α}{x:α}(iL:cE p xs k)(hk:xs[k]? =some x)(hp:p x=true):xs.find? p=some x:=by
 rw[List.find?_eq_some_iff_getElem]
 grind [cE]
open Classical in
noncomputable def HR (Z:Fx) (cs:List Cm) (fo:Fo):List (Nat×Gp):=if h:∃l,pA Z cs fo l then h.choose else[]
theorem nQq{l:List (Nat×Gp)}(h:pA Z cs fo l):HR Z cs fo=l:=by
 have h2:∃l,pA Z cs fo l:=⟨l,h⟩;unfold HR;rw[dif_pos h2];exact h2.choose_spec.uniq h
noncomputable def u6 (Z:Fx) (s:Sc) (d:Int):List Gp:=match s.fos.find? (λf=>decide (f.id=d))with
 |some fo=>(HR Z s.cs fo).map (·.2)
 |none=>[]
theorem Pd{s:Sc}(h:s.fos.any (λf=>decide (f.id=d))=false):u6 Z s d=[]:=by
 grind [u6]
theorem TI{s:Sc}{ds:List Cd}(iL:cE (λf=>decide (f.id=d)) s.fos k)(hk:s.fos[k]? =some fo)(hp:decide (fo.id=d)=true)(hc:pA Z s.cs fo (ds.map BW)):u6 Z s d=ds.map λd=>d.x.g:=by
 unfold u6;rw[iL.find hk hp];show(HR Z s.cs fo).map (·.2)=_;rw[nQq hc,List.map_map];rfl
theorem St.ro{W':World}{MI RO M V:aJ}{I:World->Prop}{hM:∀k,M k->k<W.heap.size/\¬MI k/\¬RO k}{hI:fG (λk=>(k<W.heap.size/\¬MI k)\/V k) I}(hS:St (dI hM V hI) L H W')(hw:W∈L)(hV:∀k,V k->W.heap.size<=k)(ho:Over W.heap.size H)(hk:RO k)(J:k<W.heap.size):W'.heap[k]? =W.heap[k]? :=by
 refine(hS.links W hw).block k J ?_;rintro((h1|h1)|h1)
 ·grind
 ·grind
 obtain⟨p,hp,rfl⟩:=dO.1 h1;have:=ho.mem p hp;omega
theorem Glb.up(h:Glb w)(hB:∀k,k<4->W.heap[k]? =w.heap[k]?):Glb W:=by
 grind [Glb]
def ab9 (N b1 b2:Nat):aJ:=λk=>k<N\/k=b1\/k=b2
theorem nUn(p:Fo->Bool)(f:Nat)(cap:List Value)(aF:fh prog f)(xs:List Fo)(de:xs.length<=1000000)(N:Nat)(a:Option Addr)(cp:Nat)(w:World)(hN:N<=w.heap.size)(aA:aj sM 33 N w a xs)(hp:∀(j:Nat) (x:Fo),xs[j]? =some x->∀W,Below w.heap.size w W->Calls prog f (.agg (sM x)::cap).toArray W (ar W (.bool (p x)))):Calls prog 102 #[.slice a xs.length cp,.func (.func f) #[] cap.toArray] w (db w (λi:Int=>ab i) (λi _=>eE p xs i)):=by
 refine eN func102 ntmps102 ?_;refine Vv ?_;rintro j ⟨hj,bT⟩;refine av 6 ?_ ?_
 ·intro ai;refine B 11 ?_;obtain⟨bo,oo,cs0,to,dR,rfl,dW,hcs,ay⟩:=aA.get aa;obtain⟨x,hx⟩:=ng xs j aa;refine aV 5 (.agg (sM x)) ?_;refine Vw ?_;refine pd ?_ ?_
  ·intro ax;refine B 12 ?_;refine pe (j:Int) results102 rfl A0 rfl ?_;exact Vx
  exact Rb
 intro ai;refine B 11 ?_;refine pe (-1:Int) results102 rfl A0 rfl ?_;exact Rc
theorem n0r(d:Int)(b:Nat)(x:Fo)(w:World)(aW:w.heap[b]? =some (oC #[ab d] 3)):Calls prog 103 #[.agg (sM x),ptr b 0] w (ar w (.bool (decide (x.id=d)))):=by
 have bJ:¬Gh.no.X b:=λh=>h;have J:=(bO.1 aW).1;refine eN func103 ntmps103 ?_;refine aU 2 ?_;intro b2 w2 bV bj dz cL cR;refine aV 6 (ab x.id) ?_;refine B 6 ?_;refine ao results103 rfl A1 ?_;rfl
theorem nPm(s:Sc)(d:Int)(w:World):Calls prog 53 #[.agg (mU s),ab d] w (db w (λq:Nat×Nat=>.func (.func 101) #[] #[ptr q.1 0,ptr q.2 0]) (λq w1=>w.heap.size<=q.1/\w.heap.size<=q.2/\w1.heap[q.1]? =some (oC (mU s) 66)/\w1.heap[q.2]? =some (oC #[ab d] 3))):=by
 refine eN func53 ntmps53 ?_;refine aU 2 ?_;intro b2 w2 bV bj dz cL cR;refine yX ?_;intro b3 w3 bQ aZ J cP dt;refine B 10 ?_;refine pe (b2,b3) results53 rfl A2 rfl ?_;exact zPj
theorem n4o(hZ:FxOk Z)(s:Sc)(ho:fq s)(N:Nat)(d:Int)(b1 b2:Nat)(W:World)(hN:N<=W.heap.size)(ep:4<=N)(hs:dZ N W s)(hg:Glb W)(aW:W.heap[b1]? =some (oC (mU s) 66))(bV:W.heap[b2]? =some (oC #[ab d] 3)):AL prog 101 [ptr b1 0,ptr b2 0] (λg:Gv=>[.agg (aY g)]) (λ(p:List Gv) (Y:aJ) (A:World)=>(p.map (·.g) <+:u6 Z s d/\p.length<=1000)/\∀e∈p,aM A.heap.size A e/\eP Y e) (λ(p:List Gv) (_:aJ) (_:World)=>p.map (·.g)=u6 Z s d/\p.length<=1000) (λ_=>False) (ab9 N b1 b2) W:=by
 intro l M I X0 hM hI hX hy h0;have bJ:¬(dI hM (λ_=>False) (hI [] _)).X b1:=by rintro(h|h);exact(hM _ h).2.2 (.inr (.inl rfl));exact h.elim
 have bj:¬(dI hM (λ_=>False) (hI [] _)).X b2:=by rintro(h|h);exact(hM _ h).2.2 (.inr (.inr rfl));exact h.elim
 have qJ:=(bO.1 aW).1;have KA:=(bO.1 bV).1;refine nP (dI hM (λ_=>False) (hI [] _)) [] (vs:=[_,_,_]) func101 rfl ntmps101 rfl (Nl hM (hI [] _) h0 zP (by simp[ky]) zP) ?_;refine aV 4 (.slice s.fa s.fos.length s.fc) ?_;refine B 1 ?_;refine ny (α:=Int) (v:=λi:Int=>ab i) (Φ:=λ_ i _=>eE (λx=>decide (x.id=d)) s.fos i) call102 rfl rfl rfl (λW9 hS=>nUn (λx=>decide (x.id=d)) 103 [ptr b2 0] call103 s.fos (by have:=ho.fo;omega) N s.fa s.fc W9 (dS hN (hS.links W A0).size) (hs.fo.us (λk hk=>hS.ro A0 (λ_ h=>h.elim) True.intro (.inl hk) aa)) (λj x hx W2 hB=>n0r d b2 x W2 (by have h2:=(hS.links W A0).size;rw[hB.block b2 aa];exact hS.old A0 bV bj trivial))) ?_;intro Wi i wi yw yx hi;refine B 5 ?_;rcases hi with⟨rfl,kM⟩|⟨k,x0,rfl,mI,E5,iL⟩
 ·refine B 2 ?_;refine NF ?_;exact n8h (Fin:=(λ(p:List Gv) (_:aJ) (_:World)=>p.map (·.g)=u6 Z s d/\p.length<=1000)) (.inl rfl) results101 A1 (λ_ h=>h.elim) (zYBB) (λA aR hA=>.inl ⟨[],⟨by rw[Pd kM];rfl,cd _⟩,hA⟩)
 obtain⟨bo,oo,cs0,to,dR,iq,dW,hcs,ay⟩:=hs.fo.get (by have:=aG mI;omega);have lf:=aG mI;have ej:¬(dI hM (λ_=>False) (hI [] _)).X bo:=by rintro(h|h);exact(hM _ h).2.2 (.inl dW);exact h.elim
 refine B 2 ?_;refine pN ?_;refine tS 14 [9,10,11,12,13] [[],[0],[0,1],[0,1],[0,1,2]] (λcv L' H'=>∃(a1:Option Addr) (c1:Nat) (a2:Option Addr) (c2:Nat) (ds:List Cd) (J:World),cv=[some (.tuple #[.slice a1 ds.length c1,.slice a2 ds.length c2]),some (.tuple #[.slice a1 ds.length c1,.slice a2 ds.length c2]),some (.slice a1 ds.length c1),some (.slice a2 ds.length c2),some (.slice a1 ds.length c1)]/\L'=[J,wi,W]/\H'=[]/\pA Z s.cs x0 (ds.map BW)/\ds.length<=s.cs.length/\aj (λx=>(kN x).toArray) 36 J.heap.size J a2 (ds.map λd=>d.x)/\(∀d∈ds,aM J.heap.size J d.x/\bU W.heap.size d.x)/\(∀p,a2=some p->W.heap.size<=p.block)/\W.heap.size<=J.heap.size) (pb:=by exact zU 2 (k:=by exact qv (RV.re (v':=.slice (some ⟨bo,oo,none⟩) s.fos.length s.fc) (ad isAgg22 rfl A1 aW bJ trivial rfl) mR) zT)) (sp:=[_,_,some (.slice (some ⟨bo,oo,none⟩) s.fos.length s.fc),_,_,some (.agg (sM x0)),_,_,some (.slice s.la s.cs.length s.lc),_,_,_,_,_]) (t:=?_) (k:=?_)
 ·repeat' first|exact tZ|(refine tU rfl ?_)|(refine tR rfl ?_ ?_)|(refine tN jI ?_)|(exact tE jI vA ⟨a1,c1,a2,c2,ds,J,rfl,rfl,rfl,oi,mr,jR,kH,J6,tG⟩)|(intro _ _ hk;(first|(refine B 1 ?_;refine OJ.done (hk _ _ _ ?_))|(refine ny (α:=((Option Addr×Nat)×(Option Addr×Nat))×List Cd) (v:=λq=>.tuple #[.slice q.1.1.1 q.2.length q.1.1.2,.slice q.1.2.1 q.2.length q.1.2.2]) (Φ:=λWc q w1=>(pA Z s.cs x0 (q.2.map BW)/\q.2.length<=s.cs.length)/\aj (λx=>(ak x).toArray) 1 w1.heap.size w1 q.1.1.1 (q.2.map λd:Cd=>d.at_)/\aj (λx=>(kN x).toArray) 36 w1.heap.size w1 q.1.2.1 (q.2.map λd:Cd=>d.x)/\(∀p,q.1.1.1=some p->Wc.heap.size<=p.block)/\(∀p,q.1.2.1=some p->Wc.heap.size<=p.block)/\∀d∈q.2,aM w1.heap.size w1 d.x/\bU Wc.heap.size d.x) call104 rfl rfl rfl (λW9 hS=>nul hZ s.cs ho.cl ho.cg N s.la s.lc W9 (dS hN (hS.links W A1).size) (hs.cs.us (λk hk=>hS.ro A1 (λ_ h=>h.elim) True.intro (.inl hk) aa)) (λc hc=>(hs.cm c hc).up (aC _) (λk hk=>hS.ro A1 (λ_ h=>h.elim) True.intro (.inl hk) aa)) x0 (hg.up (λk hk=>hS.ro A1 (λ_ h=>h.elim) True.intro (.inl aa) aa))) ?_;rintro Wc ⟨⟨⟨a1,c1⟩,⟨a2,c2⟩⟩,ds⟩ J Am IH ⟨⟨oi,mr⟩,_,jR,_,h6,h7⟩;(try dsimp only at oi mr jR h6 h7);have wu:=(Am.links W A1).size;have c0:=IH.size;have tG:W.heap.size<=J.heap.size:=aa;have kH:∀d∈ds,aM J.heap.size J d.x/\bU W.heap.size d.x:=λd hd=>⟨(h7 d hd).1,(h7 d hd).2.mono wu⟩;have J6:∀p,a2=some p->W.heap.size<=p.block:=λp hp=>dS wu (h6 p hp);refine OJ.done (hk _ _ _ ?_))))
 rintro _ _ _ ⟨a1,c1,a2,c2,ds,J,rfl,rfl,rfl,oi,mr,jR,kH,J6,tG⟩;obtain⟨gs,aq⟩:∃gs,gs=ds.map (λd=>d.x):=⟨_,rfl⟩;have UK:ds.length=gs.length:=by rw[aq,jg]
 have bR:gs.length<=1000:=by have:=ho.cl;omega
 replace jR:aj aY 36 J.heap.size J a2 gs:=by rw[aq];exact jR
 have HQ:∀e∈gs,aM J.heap.size J e/\bU W.heap.size e:=by rw[aq];intro e he;obtain⟨d,hd,rfl⟩:=dO.1 he;exact kH d hd
 have I5:u6 Z s d=gs.map (·.g):=by rw[TI iL mI E5 oi,aq,List.map_map];rfl
 refine B 11 ?_;refine CJ.loop (α:=Nat×aJ) (λp=>[(0,yv l),(29,.slice a2 ds.length c2),(30,ab (ds.length:Int)),(31,ab (p.1:Int))]) (λp=>[]) (λp=>[J,W]) (λp=>dI hM p.2 (hI (gs.take p.1) p.2)) (λp=>p.1<=gs.length/\∀k,p.2 k->J.heap.size<=k) (λp=>gs.length-p.1) (0,λ_=>False) ⟨cd _,λ_ h=>h.elim⟩ zR rfl rfl zP ?_;rintro⟨j,V⟩ ⟨hj,hV⟩;dsimp only at hj hV ⊢;refine av 6 ?_ ?_
 ·intro ai;refine B 5 ?_;obtain⟨cx,en,cQ,dd,zq,rfl,c6,c5,dK⟩:=jR.get aa;obtain⟨x,hx⟩:=ng gs j aa;have ed:¬(dI hM V (hI (gs.take j) V)).X cx:=by rintro(h|h);(have h5:=(hM _ h).1;have h6:=J6 _ rfl;dsimp only at h6;omega);(have:=hV _ h;omega)
  have WK:gs.take j++[x]=gs.take (j+1):=(nk hx).symm;have hin:∀e∈gs.take j++[x],e∈gs:=by rw[WK];exact λe he=>aYt he
  have a8:∀e∈gs,eP (λk=>M k\/V k) e:=λe he=>((HQ e he).2.out (λk hk=>(hM k hk).1)).up (HQ e he).1 (λk hk=>hk.elim .inl (λh=>.inr (hV k h)));refine aV 2 (.agg (aY x)) ?_;refine bD 1 ?_;intro b8 lI r4;refine aV 6 (.agg (aY x)) ?_;refine Pb (λ_=>False) id Rh (V:=V) (λV=>hI (gs.take j++[x]) V) hX (λk hk=>dS tG (hV k hk)) rfl rfl rfl rfl (λW1 sX ZE mY=>hy (gs.take j) x V W1 ⟨⟨by rw[I5,WK];exact(List.take_prefix _ _).map _,by rw[WK,oK];have:=ho.cl;omega⟩,λe he=>⟨(HQ e (hin e he)).1.toZ sX A0 (aC _) (a8 e (hin e he)) (λp hp=>by rw[xB.1 hp];exact(HQ e (hin e he)).1.off zZ),a8 e (hin e he)⟩⟩ ZE mY) ?_ ?_
  ·intro V2 II yr;have u5:∀k,V2 k->J.heap.size<=k:=λk hk=>by rcases yr J A0 k hk with h|h;(exact hV k h);exact h
   refine B 11 ?_;refine lx ?_;refine PJ.again (j+1,V2) ⟨by dsimp only;omega,u5⟩ zZ zR rfl (by dsimp only;rw[nk hx];rfl) zP
  intro V2 II yr;have u5:∀k,V2 k->J.heap.size<=k:=λk hk=>by rcases yr J A0 k hk with h|h;(exact hV k h);exact h
  refine B 9 ?_;exact n8h (Fin:=(λ(p:List Gv) (_:aJ) (_:World)=>p.map (·.g)=u6 Z s d/\p.length<=1000)) (.inl rfl) results101 A1 (λk hk=>dS tG (u5 k hk)) (zYBB) (λA aR hA=>.inr hA)
 intro ai;refine B 4 ?_;exact n8h (Fin:=(λ(p:List Gv) (_:aJ) (_:World)=>p.map (·.g)=u6 Z s d/\p.length<=1000)) (.inr rfl) results101 A1 (λk hk=>dS tG (hV k hk)) (zYBB) (λA aR hA=>.inl ⟨gs,⟨by rw[I5],bR⟩,by rw[show j=gs.length by omega,Ko]at hA;exact hA⟩)
end Px
