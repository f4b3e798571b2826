/- Contracts of functions of the program. No conditions. -/
import Derived.Test.YtodpaegknpbomaaGreatDoorKa
import Derived.Test.YtodpaegknpbomaaGreatDoorProg
import Derived.Shelf.SlSortCmp.WholeK
import Derived.Test.YtodpaegknpbomaaGreatDoorLa
set_option linter.unusedSimpArgs false
set_option linter.unusedVariables false
set_option linter.unusedSectionVars false
set_option maxRecDepth 20000
set_option maxHeartbeats 8000000
namespace Px
open Go Go.RowKit Go.Proofs Go.Proofs.Tryz
def fP (kv:List (Int×Int)):Nat->Int->List Int
 |0,_=>[]
 |k+1,n=>if(aF kv n).isSome=true then[n]else if 512<=n then[]else fP kv k (2*n)++fP kv k (2*n+1)
variable {cs:Array Value} {Z:Fx} {H:ad} {au d:Int} {kv:List (Int×Int)} {ls:List (List V)} {ns:List Nd} {sp:List Value} {L:List World} {N b i j k n t:Nat} {fr:Nat×Nat} {a:Option Addr} {W w:World}
theorem nti{n:Int}(h:(aF kv n).isSome=true):fP kv (k+1) n=[n]:=by simp[fP,h]
theorem n9g{n:Int}(h:¬(aF kv n).isSome=true)(h2:512<=n):fP kv (k+1) n=[]:=by simp only[fP];rw[if_neg h,if_pos h2]
theorem nif{n:Int}(h:¬(aF kv n).isSome=true)(h2:¬512<=n):fP kv (k+1) n=fP kv k (2*n)++fP kv k (2*n+1):=by simp only[fP];rw[if_neg h,if_neg h2]
def uA (kv:List (Int×Int)) (k:Nat) (n:Int) (i:Nat):List Int:=(List.range i).flatMap λ(j:Nat)=>fP kv k (2*n+(j:Int))
theorem nii(kv:List (Int×Int))(k:Nat)(n:Int)(i:Nat):uA kv k n (i+1)=uA kv k n i++fP kv k (2*n+(i:Int)):=by simp[uA,List.range_succ]
theorem nno(kv:List (Int×Int))(k:Nat)(n:Int):uA kv k n 2=fP kv k (2*n)++fP kv k (2*n+1):=by simp[uA,List.range_succ]
theorem K0{n:Int}{p:List Int}(hi:i<2)(h:p <+:fP kv k (2*n+(i:Int))):uA kv k n i++p <+:uA kv k n 2:=by
 have h1:uA kv k n i++p <+:uA kv k n (i+1):=by rw[nii];exact(List.prefix_append_right_inj _).2 h
 all_goals grind [nii]
theorem Rq(n:Int)(i:Nat)(h:i<2):(#[ab (2*n),ab (2*n+1)]:Array Value)[(i:Int).toNat*1]? =some (ab (2*n+(i:Int))):=by
 rcases(show i=0\/i=1 by omega)with rfl|rfl<;>simp
def YT (bx by_ mb:Nat):aI:=λj=>j=bx\/j=by_\/j=mb
def Rr (kv:List (Int×Int)) (k:Nat):Prop:=∀(n:Int) (bx by_ mb:Nat) (m:Mp) (W:World),1<=n->n<1024->1024<=n*2^k->m.Ok kv->W.heap[bx]? =some (oC #[.map (some mb)] 165)->W.heap[by_]? =some (oC #[ab n] 3)->W.heap[mb]? =some (m.obj ab kv)->
 uT prog 327 [ptr bx 0,ptr by_ 0] az (CW (fP kv k n)) (Is (fP kv k n)) (λ_=>False) (YT bx by_ mb) W
theorem nFp(kv:List (Int×Int)):Rr kv 0:=λn bx by_ mb m W h1 h2 h3=>by omega
theorem nUe(mp:Option Nat)(n:Int)(w:World):Calls prog 304 #[.map mp,ab n] w (cZ w (λq:Nat×Nat=>.func (.func 327) #[] #[ptr q.1 0,ptr q.2 0]) (λq w1=>w.heap.size<=q.1/\w.heap.size<=q.2/\w1.heap[q.1]? =some (oC #[.map mp] 165)/\w1.heap[q.2]? =some (oC #[ab n] 3))):=by
 refine eN func304 ntmps304 ?_;refine cH 2 ?_;intro b2 w2 dw bX fB dJ dH;refine yX ?_;intro b3 w3 dA cX fT eC ff;refine B 10 ?_;refine sQ (b2,b3) results304 rfl A2 rfl ?_;try simp only[ah]at dJ eC
 have Yl:=dJ.1;have apg:=eC.1;try have aph:=eC.2.1
 exact λW hS=>⟨by omega,by omega,hS.old A1 dw bX trivial,hS.old A0 dA cX trivial⟩
theorem nBk{l Dk:Nat}{rec:Loop}{ms:List Mk}(h1:n<=Dk)(h2:n<=l)(h:B9 n ms):B9 n ((l,rec,Dk)::ms):=by
 intro q hq;rcases cd.1 hq with rfl|hq
 ·exact⟨h2,h1⟩
 exact h q hq
theorem nLp{n i:Int}(h:1024<=n*2^(k+1))(hi:0<=i):1024<=(2*n+i)*2^k:=by
 rw[Int.pow_succ]at h;have hp:(0:Int)<2^k:=Int.pow_pos zA;have h9:n*(2^k*2)=(2*n)*2^k:=by rw[Int.mul_comm (2^k) 2,<-Int.mul_assoc,Int.mul_comm n 2]
 have h8:(2*n+i)*2^k=(2*n)*2^k+i*2^k:=Int.add_mul _ _ _;have h7:0<=i*2^k:=Int.mul_nonneg hi aa;omega
theorem CJ.perm{C:Cx}{Q:bC}{E:Env}{D:List Deferred}{G:Gh}{H':ad}{c:Code}(hp:H.Perm H')(h:CJ C c Q E D G L H'):CJ C c Q E D G L H:=λa W hN hD hF hS=>h a W hN hD hF (hS.perm hp)
theorem E7(n:Nat):B9 n []:=λq hq=>absurd hq zJ
theorem nup(ih:Rr kv k)(n:Int)(bx by_ mb:Nat)(m:Mp)(W:World)(h1:1<=n)(h2:n<1024)(h3:1024<=n*2^(k+1))(hm:m.Ok kv)(hb1:W.heap[bx]? =some (oC #[.map (some mb)] 165))(dw:W.heap[by_]? =some (oC #[ab n] 3))(tF:W.heap[mb]? =some (m.obj ab kv)):uT prog 327 [ptr bx 0,ptr by_ 0] az (CW (fP kv (k+1) n)) (Is (fP kv (k+1) n)) (λ_=>False) (YT bx by_ mb) W:=by
 intro l0 M0 I X0 hM hI hX hy h0;have cK:¬(dD hM (λ_=>False) (hI [] _)).X bx:=by rintro(h|h);exact(hM _ h).2.2 (.inl rfl);exact h.elim
 have bX:¬(dD hM (λ_=>False) (hI [] _)).X by_:=by rintro(h|h);exact(hM _ h).2.2 (.inr (.inl rfl));exact h.elim
 have B2:¬(dD hM (λ_=>False) (hI [] _)).X mb:=by rintro(h|h);exact(hM _ h).2.2 (.inr (.inr rfl));exact h.elim
 have mw:=(bA.1 hb1).1;have Jm:=(bA.1 dw).1;have Q6:=(bA.1 tF).1;refine Qk (dD hM (λ_=>False) (hI [] _)) [] (vs:=[_,_,_]) func327 rfl ntmps327 rfl (Oi hM (hI [] _) h0 zJ (by simp[lO]) zJ) ?_;refine cH 2 ?_;intro b3 w3 dA cX fT eC ff;refine B 7 ?_;refine rv rfl rfl rfl (rj (ev:=ab) underlying165 underlying3 zeroValue3 hm (bE.old A1 tF B2 trivial) rfl rfl) ?_;refine aG 12 ?_ ?_
 ·intro av;refine B 4 ?_;refine BO (λV=>hI ([]++[n]) V) hX (λ_ h=>h.elim) A1 rfl rfl rfl rfl (λW1 uU lI=>hy [] n _ W1 (by rw[nti av];exact List.prefix_refl _) uU lI) ?_ ?_
  ·intro V0 Ca;refine B 4 ?_;exact YU (ms:=([]:List Mk)) (H0:=[]) (.inl rfl) results327 A1 Ca (by intro j hj hx;simp[tH]at hx) (λA hA=>.inl ⟨[n],by rw[nti av],hA⟩)
  intro V0 Ca;refine B 4 ?_;exact YU (ms:=([]:List Mk)) (H0:=[]) (.inl rfl) results327 A1 Ca (by intro j hj hx;simp[tH]at hx) (λA hA=>.inr hA)
 intro av;refine aG 9 ?_ ?_
 ·intro aR;refine B 2 ?_;exact YU (ms:=([]:List Mk)) (H0:=[]) (.inl rfl) results327 A1 (λ_ h=>h.elim) (by intro j hj hx;simp[tH]at hx) (λA hA=>.inl ⟨[],by rw[n9g (by simpa using av) aa],hA⟩)
 intro aR;refine B 9 ?_;refine rv rfl rfl rfl (y6 underlying330 zeroValue330 sizeOf3 rfl rfl rfl rfl) ?_;refine B 4 ?_;refine CJ.loopD (α:=(Nat×List Mk)×aI) (λp=>mkD p.1.2) (λp=>[(1,ptr bx 0),(2,ptr by_ 0),(3,ptr b3 0),(26,.agg #[ab (2*n),ab (2*n+1)]),(27,ab (p.1.1:Int))]) (λp=>tH p.1.2) (λp=>[w3,W]) (λp=>dD hM p.2 (hI (uA kv k n p.1.1) p.2)) (λp=>p.1.1<=2/\B9 w3.heap.size p.1.2/\∀j,p.2 j->w3.heap.size<=j) (λp=>2-p.1.1) ((0,[]),λ_=>False) ⟨cY _,E7 _,λ_ h=>h.elim⟩ zR rfl rfl zJ rfl ?_;rintro⟨⟨i,ms⟩,V0⟩ ⟨hi,Cb,Ca⟩;dsimp only at hi Cb Ca ⊢;have cK:¬(dD hM V0 (hI (uA kv k n i) V0)).X bx:=by rintro(h|h);exact(hM _ h).2.2 (.inl rfl);have:=Ca _ h;omega
 clear cX;have cX:¬(dD hM V0 (hI (uA kv k n i) V0)).X b3:=by rintro(h|h);(have:=(hM _ h).1;omega);(have:=Ca _ h;omega)
 refine aG 6 ?_ ?_
 ·intro dm;refine B 6 ?_;refine rv rfl rfl rfl (uW (v:=ab (2*n+(i:Int))) underlying330 isAgg3 sizeOf3 rfl rfl aa aa (Rq n i aa)) ?_;refine B 5 ?_;refine rv rfl rfl rfl (ar (v:=.map (some mb)) isAgg165 rfl A1 hb1 cK (nTn Cb aa) rfl) ?_;refine B 1 ?_;refine nv (α:=Nat×Nat) (v:=λq:Nat×Nat=>.func (.func 327) #[] #[ptr q.1 0,ptr q.2 0]) (Φ:=λ(W:World) (q:Nat×Nat) (w1:World)=>W.heap.size<=q.1/\W.heap.size<=q.2/\w1.heap[q.1]? =some (oC #[.map (some mb)] 165)/\w1.heap[q.2]? =some (oC #[ab (2*n+(i:Int))] 3)) call304 rfl rfl rfl (λW hS=>nUe (some mb) (2*n+(i:Int)) W) ?_;rintro Wk q wk wj ES ⟨xX,uB,E8,E9⟩;try dsimp only at xX uB E8 E9
  have Rs:=(bA.1 E8).1;have Rt:=(bA.1 E9).1;have hzk:=ES.size;have hzW:=(wj.links W A1).size;have fT:=(wj.links w3 A0).size;have hVk:∀j,V0 j->j<Wk.heap.size:=λj hj=>wj.xlt j (.inr hj);have ON:∀j,YT q.1 q.2 mb j->j<wk.heap.size/\j∉(tH ms).map (·.1)/\¬(dD hM V0 (hI (uA kv k n i) V0)).X j:=by
   intro j hj;have YV:Wk.heap.size<=j->j∉(tH ms).map (·.1)/\¬(dD hM V0 (hI (uA kv k n i) V0)).X j:=λhg=>⟨λhm=>by obtain⟨p,hp,e⟩:=bT.1 hm;have:=wj.lt p hp;omega,λhx=>by rcases hx with hx|hx;(have:=(hM _ hx).1;omega);(have:=hVk _ hx;omega)⟩;rcases hj with rfl|rfl|rfl
   ·exact⟨Rs,YV xX⟩
   ·exact⟨Rt,YV uB⟩
   exact⟨by omega,λhm=>by obtain⟨p,hp,e⟩:=bT.1 hm;have:=YW Cb p hp;omega,λhx=>by rcases hx with hx|hx;(exact(hM _ hx).2.2 (.inr (.inr rfl)));(have:=Ca _ hx;omega)⟩
  refine B 3 ?_;refine XA (f:=327) (cap:=[ptr q.1 0,ptr q.2 0]) (α:=Int) (enc:=az) (Pre:=CW (fP kv k (2*n+(i:Int)))) (Fin:=Is (fP kv k (2*n+(i:Int)))) (RO:=YT q.1 q.2 mb) (MI:=λ_=>False) rfl call327 (λW' W2 hS hB=>by have hlk:=(hS.links wk A0).size;exact ih (2*n+(i:Int)) q.1 q.2 mb m W2 aa aa (nLp h3 aa) hm (by rw[hB.block q.1 aa];exact hS.old A0 E8 (ON _ (.inl rfl)).2.2 (bM.of_mem (ON _ (.inl rfl)).2.1)) (by rw[hB.block q.2 aa];exact hS.old A0 E9 (ON _ (.inr (.inl rfl))).2.2 (bM.of_mem (ON _ (.inr (.inl rfl))).2.1)) (by have:=(hS.links W A2).size;rw[hB.block mb aa];exact hS.old A2 tF (ON _ (.inr (.inr rfl))).2.2 (bM.of_mem (ON _ (.inr (.inr rfl))).2.1))) (λ_ _ _ hk=>hk.elim) (λW' hS j hj=>⟨by have:=(ON j hj).1;have:=(hS.links wk A0).size;omega,(ON j hj).2⟩) (λ_=>rfl) (λpre G' Hc=>∃V1:aI,(∀j,V0 j->V1 j)/\(∀j,V1 j->V0 j\/w3.heap.size<=j)/\G'=dD hM V1 (hI (uA kv k n i++pre) V1)/\Hc=tH ms) (λc G' Hc=>c= .ret/\∃V1:aI,(∀j,V1 j->W.heap.size<=j)/\G'=dD hM V1 (hX V1)/\Hc=tH ms) ⟨V0,λ_ h=>h,λ_ h=>.inl h,by rw[ee],rfl⟩ zA ?_ ?_ ?_
  ·rintro pre x G' Hc l Dk rec W1 M V Wy p7 xN eK ⟨V1,hVV,VM,rfl,rfl⟩ jf mm Qm yG dK DS;simp only[ah]at jf yG;have hVW:∀j,V1 j->W.heap.size<=j:=λj hj=>by rcases VM j hj with h|h;(have:=Ca j h;omega);omega
   have cX:¬((dD hM V1 (hI (uA kv k n i++pre) V1)).ext λj=>M j\/V j).X b3:=dK.z aa cX (λhm=>by obtain⟨p,hp,e⟩:=bT.1 hm;have:=YW Cb p hp;omega) (by rintro(h|h);(have:=(hM _ h).1;omega);(rcases VM _ h with h|h;(have:=Ca _ h;omega);omega));have ah2:∀r',bM (book (tH ms) l r' (ji Dk)) b3:=λr'=>by unfold book;rw[iu];exact⟨nTn Cb aa,by simp only[ji,bM,and_true];omega⟩
   refine B 3 ?_;refine Om p7 ?_;refine B 3 ?_;refine rv rfl rfl rfl (ar (v:=yv l0) isAgg294 rfl A2 dA cX (ah2 _) rfl) ?_;refine B 1 ?_;refine YX (λj=>M j\/V j) (λG=>G.ext λj=>M j\/V j) (YY _) (V:=V1) (λV=>hI ((uA kv k n i++pre)++[x]) V) hX hVW rfl rfl rfl rfl (λW1 uU lI=>hy (uA kv k n i++pre) x V1 W1 (by rw[jh,nif (by simpa using av) aa,<-nno];exact K0 aa eK) uU lI) ?_ ?_
   ·intro V2 lK wY;have zj:=wY Wy A0;have Ru:∀j,V2 j->V0 j\/w3.heap.size<=j:=λj hj=>by rcases zj j hj with h|h;exact VM j h;exact .inr (by have:=(DS.links w3 A1).size;omega)
    try dsimp only
    refine B 6 ?_;refine JW (G2:=dD hM V2 (hI ((uA kv k n i++pre)++[x]) V2)) (Hc2:=tH ms) dK mm ⟨(λj h=>h.imp id (λh=>lK j (hVV j h))),(λj h=>h.elim (λh=>.inl (.inl h)) (λh=>(zj j h).imp .inr id)),(λj h=>h.elim (λh=>.inl (.inl h)) (λh=>(zj j h).imp .inr id)),(λp hp=>.inl (bT.2 ⟨p,hp,rfl⟩)),(λp hp=>.inl (bT.2 ⟨p,hp,rfl⟩))⟩ (JX p7 xN) ?_;exact⟨V2,λj h=>lK j (hVV j h),Ru,by rw[jh],rfl⟩
   intro V2 lK wY;have zj:=wY Wy A0;have Ru:∀j,V2 j->V0 j\/w3.heap.size<=j:=λj hj=>by rcases zj j hj with h|h;exact VM j h;exact .inr (by have:=(DS.links w3 A1).size;omega)
   try dsimp only
   refine B 6 ?_;refine nel (G2:=dD hM V2 (hX V2)) (Hc2:=tH ms) (c:=.ret) dK mm ⟨(λj h=>h.imp id (λh=>lK j (hVV j h))),(λj h=>h.elim (λh=>.inl (.inl h)) (λh=>(zj j h).imp .inr id)),(λj h=>h.elim (λh=>.inl (.inl h)) (λh=>(zj j h).imp .inr id)),(λp hp=>.inl (bT.2 ⟨p,hp,rfl⟩)),(λp hp=>.inl (bT.2 ⟨p,hp,rfl⟩))⟩ (.inl ⟨rfl,rfl⟩) rfl ?_;exact⟨rfl,V2,λj hj=>by rcases Ru j hj with h|h;(have:=Ca j h;omega);omega,rfl,rfl⟩
  ·rintro qB l Dk rec G' Hc rfl jf mm ⟨V1,hVV,VM,rfl,rfl⟩;replace jf:=yb jf;refine B 7 ?_;refine PJ.perm (nKm l Dk rec ms []) ?_;refine nnp ((i+1,(l,rec,Dk)::ms),V1) ⟨by dsimp only;omega,nBk jf.2.1 aa Cb,λj hj=>(VM j hj).elim (Ca j) id⟩ zW zR rfl (by dsimp only;rw[nii]) zJ rfl
  rintro l Dk rec c G' Hc jf mm ⟨rfl,V1,hVW,rfl,rfl⟩;replace jf:=yb jf;refine CJ.perm (nKm l Dk rec ms []) ?_;refine B 6 ?_;exact YU (ms:=(l,rec,Dk)::ms) (H0:=[]) (.inl rfl) results327 A2 hVW (by intro j hj hx;obtain⟨p,hp,e⟩:=bT.1 hx;have:=YW (n:=w3.heap.size) (ms:=(l,rec,Dk)::ms) (nBk jf.2.1 aa Cb) p hp;omega) (λA hA=>.inr hA)
 intro dm;refine B 4 ?_;exact YU (ms:=ms) (H0:=[]) (.inr rfl) results327 A1 (λj hj=>by have:=Ca j hj;omega) (by intro j hj hx;obtain⟨p,hp,e⟩:=bT.1 hx;have:=YW (n:=w3.heap.size) (ms:=ms) Cb p hp;omega) (λA hA=>.inl ⟨uA kv k n i,by rw[nif (by simpa using av) aa,<-nno,show i=2 by omega],hA⟩)
theorem YZ(kv:List (Int×Int)):∀k,Rr kv k
 |0=>nFp kv
 |k+1=>λn bx by_ mb m W h1 h2 h3 hm hb1 dw tF=>nup (YZ kv k) n bx by_ mb m W h1 h2 h3 hm hb1 dw tF
theorem OJ.frz{C:Cx}{Q:bC}{E:Env}{D:List Deferred}{G:Gh}{H':ad}{ops:Array Oper}{l:List Oper}{o:Obj}(hi:H[i]? =some (b,o))(hH:H.eraseIdx i=H')(ha:ah L b)(k:∀w1,w1.heap[b]? =some o->b<w1.heap.size->(∀w∈L,w.heap.size<=w1.heap.size)->OJ C ops Q l E D G (w1::L) H'):OJ C ops Q l E D G L H:=by
 subst hH;intro a W hN hD hF hS;have hb:=hS.own _ (cA hi);exact k W hb (bA.1 hb).1 (λw hw=>(hS.links w hw).size) a W hN hD hF (hS.dropAt hi ha).snap
noncomputable def oX (ns:List Nd) (n:Int):List Int:=if jF ns=0/\1<=n/\n<=1023 then fP (di ns) 10 n else[]
noncomputable def OO (ns:List Nd) (n:Int):Int:=if jF ns=0 then(if 1<=n/\n<=1023 then 0 else 200)else 210
theorem nJm(kv:List (Int×Int)):∀(k:Nat) (n:Int),(fP kv k n).length<=2^k:=
 by intro x;induction x<;>(intros;grind [fP,aF,nti,n9g,nif])
theorem n2k(ns:List Nd)(n:Int):(oX ns n).length<=1024:=by
 unfold oX;split
 ·exact nJm _ 10 n
 simp
theorem K1:eU prog 327:=call327
section
variable (ns:List Nd)(hn:ns.length<=100000)(N:Nat)(a:Option Addr)(cp:Nat)(w:World)(hN:N<=w.heap.size)(aH:ai fV 2 N w a ns)
include hn cp hN aH
theorem nek(iC:jF ns=210)(n:Int):Calls prog 262 #[.agg #[.slice a ns.length cp],ab n] w (aD w az 1 3 [] (λs=>.tuple #[s,ab (210)])):=by
 refine eN func262 ntmps262 ?_;refine cH 2 ?_;intro b2 w2 dw bX fB dJ dH;refine B 7 ?_;refine KV ?_;refine zIe ?_;refine B 6 ?_;refine YQ ?_;exact zRg
theorem nfl(iC:jF ns=0)(n:Int)(sV:¬(1<=n/\n<=1023)):Calls prog 262 #[.agg #[.slice a ns.length cp],ab n] w (aD w az 1 3 [] (λs=>.tuple #[s,ab (200)])):=by
 refine eN func262 ntmps262 ?_;refine cH 2 ?_;intro b2 w2 dw bX fB dJ dH;refine B 7 ?_;refine zFf ?_;refine wX ?_;by_cases h1:n<1
 ·refine aE 2 bZ ?_;refine B 15 ?_;exact zRg
 refine Ji ?_;refine B 2 ?_;refine YQ ?_;exact zRg
theorem nrl(iC:jF ns=0)(n:Int)(sV:1<=n/\n<=1023):Calls prog 262 #[.agg #[.slice a ns.length cp],ab n] w (aD w az 1 3 (fP (di ns) 10 n) (λs=>.tuple #[s,ab (0)])):=by
 have yZ:=sV.1;have mN:=sV.2;refine eN func262 ntmps262 ?_;refine cH 2 ?_;intro b2 w2 dw bX fB dJ dH;refine B 7 ?_;refine zFf ?_;refine dp bG ?_;refine aE 9 bG ?_;refine B 2 ?_;refine CV ?_;refine KV ?_;refine zwd ?_;intro bf m EZ OD hm;replace EZ:=yb EZ;refine B 1 ?_;refine OJ.frz (i:=0) (H':=[]) rfl rfl zC ?_;intro wf hwf hlf hzf;have api:=hzf w A1;refine nv (α:=Nat×Nat) (v:=λq:Nat×Nat=>.func (.func 327) #[] #[ptr q.1 0,ptr q.2 0]) (Φ:=λ(W:World) (q:Nat×Nat) (w1:World)=>W.heap.size<=q.1/\W.heap.size<=q.2/\w1.heap[q.1]? =some (oC #[.map (some bf)] 165)/\w1.heap[q.2]? =some (oC #[ab n] 3)) call304 rfl rfl rfl (λW hS=>nUe (some bf) n W) ?_;rintro Wk q wk wj ES ⟨xX,uB,E8,E9⟩;try dsimp only at xX uB E8 E9
 have Rs:=(bA.1 E8).1;have Rt:=(bA.1 E9).1;have hzk:=ES.size;have hzw:=(wj.links wf A0).size;refine VI (enc:=az) (m:=1) (t:=3) (Fin:=Is (fP (di ns) 10 n)) (v:=id) call191 rfl rfl rfl (λW hS=>nYk (f:=327) (cap:=[ptr q.1 0,ptr q.2 0]) (Pre:=CW (fP (di ns) 10 n)) (Fin:=Is (fP (di ns) 10 n)) (RO:=YT q.1 q.2 bf) K1 W ?_ ?_ ?_) ?_
 ·have mw:=(hS.links wk A0).size;rintro j (rfl|rfl|rfl)<;>omega
 ·intro p hp;have h1:p.length<=_:=hp.length_le;have h2:=nJm (di ns) 10 n;omega
 ·intro W2 hB;have mw:=(hS.links wk A0).size;exact YZ (di ns) 10 n q.1 q.2 bf m W2 aa aa aa hm (by rw[hB.block q.1 aa];exact hS.old A0 E8 zI trivial) (by rw[hB.block q.2 aa];exact hS.old A0 E9 zI trivial) (by rw[hB.block bf aa];exact hS.old A1 hwf zI trivial)
 intro xs r dW aM ae;cases dW
 refine B 5 ?_;exact nQ (H0:=[]) (H1:=[]) (r:=r) (.inl rfl) results262 bB A3 (by rw[ee];exact Rw.over (Rw.ge_of aM A3)) rfl ae (Rw.ge_of aM A3) zJ
theorem nWg(n:Int):Calls prog 262 #[.agg #[.slice a ns.length cp],ab n] w (aD w az 1 3 (oX ns n) (λs=>.tuple #[s,ab (OO ns n)])):=by
 rcases nBh ns with h|h
 ·by_cases h2:1<=n/\n<=1023
  ·have e1:oX ns n=fP (di ns) 10 n:=by unfold oX;rw[if_pos ⟨h,h2⟩]
   have e2:OO ns n=0:=by unfold OO;rw[if_pos h,if_pos h2]
   rw[e1,e2];exact nrl ns hn N a cp w hN aH h n h2
  have e1:oX ns n=[]:=by unfold oX;rw[if_neg λg=>h2 g.2]
  have e2:OO ns n=200:=by unfold OO;rw[if_pos h,if_neg h2]
  rw[e1,e2];exact nfl ns hn N a cp w hN aH h n h2
 have e1:oX ns n=[]:=by unfold oX;rw[if_neg λg=>by have:=g.1;omega]
 have e2:OO ns n=210:=by unfold OO;rw[if_neg aa]
 rw[e1,e2];exact nek ns hn N a cp w hN aH h n
end
structure Mb where
 dev:Int
 since:Int
 ver:Int
def qJ (x:Mb):Array Value:=#[ab x.dev,ab x.since,ab x.ver]
def oY (x:Mb):List Value:=[ab x.dev,ab x.since,ab x.ver]
structure Ch where
 kind:Int
 dev:Int
 pub:Int
 ver:Int
 cut:Int
def gK (x:Ch):Array Value:=#[ab x.kind,ab x.dev,ab x.pub,ab x.ver,ab x.cut]
def oj (x:Ch):List Value:=[ab x.kind,ab x.dev,ab x.pub,ab x.ver,ab x.cut]
theorem Cc(x:Mb):(oY x).length=3:=rfl
theorem Ce(x:Ch):(oj x).length=5:=rfl
theorem nOh(x:Mb):∀u∈oY x,u.oneCell'=true:=by intro u hu;simp[oY]at hu;rcases hu with rfl|rfl|rfl<;>rfl
theorem nmk(x:Ch):∀u∈oj x,u.oneCell'=true:=by intro u hu;simp[oj]at hu;rcases hu with rfl|rfl|rfl|rfl|rfl<;>rfl
theorem K2:prog.info? 131=some Tryz.t131:=by kernel_rfl
theorem K3:prog.info? 99=some Tryz.t99:=by kernel_rfl
def du (a b:Int):Int:=if a<b then -1 else if b<a then 1 else 0
abbrev qK (f:Int):Prop:=0<=f/\f<16
theorem nxd{α:Type}{p:α->Bool}{xs:List α}(h:∀i x,i<j->xs[i]? =some x->p x=false)(hj:¬j<xs.length):xs.any p=false:=by
 rw[List.any_eq_false];intro x hx;obtain⟨i,hi⟩:=jG.1 hx;all_goals grind
def gC {α:Type} (p:α->Bool) (xs:List α) (j:Nat):Prop:=∀i x,i<j->xs[i]? =some x->p x=false
theorem gC.next{α:Type}{p:α->Bool}{xs:List α}{x:α}(h:gC p xs j)(hx:xs[j]? =some x)(hp:p x=false):gC p xs (j+1):=by
 exact zfi
def fF {α:Type} (p:α->Bool) (xs:List α) (i:Int):Prop:=(i= -1/\xs.any p=false)\/∃(k:Nat) (x:α),i=(k:Int)/\xs[k]? =some x/\p x=true/\gC p xs k
theorem fF.any{α:Type}{p:α->Bool}{xs:List α}{i:Int}(h:fF p xs i):decide (0<=i)=xs.any p:=by
 rcases h with⟨rfl,h⟩|⟨k,x,rfl,hx,hp,_⟩;all_goals grind
def Df (xs:List Mb) (d:Int) (i j:Nat):Nat:=
 if h:i<j then(if((xs[(i+j)/2]?).map (·.dev)).getD 0<d then Df xs d ((i+j)/2+1) j else Df xs d i ((i+j)/2))else i
termination_by j-i
decreasing_by all_goals omega
variable {xs:List Mb}
theorem Rv{x:Mb}(h:i<j)(hx:xs[(i+j)/2]? =some x)(hd:x.dev<d):Df xs d i j=Df xs d ((i+j)/2+1) j:=by
 rw[Df,dif_pos h,hx];simp[hd]
theorem Rx{x:Mb}(h:i<j)(hx:xs[(i+j)/2]? =some x)(hd:¬x.dev<d):Df xs d i j=Df xs d i ((i+j)/2):=by
 rw[Df,dif_pos h,hx];simp[hd]
theorem Ry(h:¬i<j):Df xs d i j=i:=by rw[Df,dif_neg h]
theorem nuj(a b:Int):du a b<0↔a<b:=by unfold du;split<;>(try split)<;>omega
theorem K4(a b:Int):du a b=0↔a=b:=by unfold du;split<;>(try split)<;>omega
def pH (xs:List Mb) (d:Int):Nat:=Df xs d 0 xs.length
def gD (xs:List Mb) (d:Int):Bool:=decide (((xs[pH xs d]?).map (·.dev))=some d)
theorem nNm{x:Mb}(h:pH xs d=i)(hx:xs[i]? =some x):decide (du x.dev d=0)=gD xs d:=by
 unfold gD;rw[h,hx];simp[K4]
theorem nxj(h:pH xs d=i)(hi:¬i<xs.length):false=gD xs d:=by
 unfold gD;rw[h,List.getElem?_eq_none aa];simp
theorem K5(h:gD xs d=true):pH xs d<xs.length:=by grind [pH,nxj]
theorem nPl(f:Int)(w:World):Calls prog 217 #[ab f] w (aP w (.bool (decide (qK f)))):=by
 refine ef 10 func217 ntmps217 ?_;refine ni (t:=5) rfl (λav=>?_) (λav=>?_)
 ·exact zTh
 exact zTh
theorem VN(f:Int)(w:World):Calls prog 222 #[ab f] w (aP w (.bool (decide (dd f)))):=by
 refine ef 10 func222 ntmps222 ?_;refine ni (t:=5) rfl (λav=>?_) (λav=>?_)
 ·exact zSh
 exact zSh
theorem nwk(f:Int)(w:World):Calls prog 169 #[ab f] w (aP w (bG)):=by
 refine ef 14 func169 ntmps169 ?_;refine aK results169 rfl A0 ?_;exact vb zJ
theorem nth(a b:Int)(w:World):Calls prog 103 #[ab a,ab b] w (aP w (ab (du a b))):=by
 refine ef 8 func103 ntmps103 ?_;refine call call169 rfl rfl rfl (λW hS=>nwk _ W) (v:=.bool false) ?_;refine B 6 ?_;refine call call169 rfl rfl rfl (λW hS=>nwk _ W) (v:=.bool false) ?_;refine aG 29 ?_ ?_
 ·intro av;refine B 7 ?_;exact z8h
 intro av;refine aG 10 ?_ ?_
 ·intro aR;refine B 7 ?_;exact z8h
 intro aR;refine B 8 ?_;exact z8h
theorem nCl(x:Mb)(d:Int)(w:World):Calls prog 264 #[.agg (qJ x),ab d] w (aP w (ab (du x.dev d))):=by
 refine eN func264 ntmps264 ?_;refine cH 2 ?_;intro b2 w2 dw bX fB dJ dH;refine B 8 ?_;refine call call103 rfl rfl rfl (λW hS=>nth _ _ W) ?_;refine B 4 ?_;refine aK results264 rfl A1 ?_;rfl
theorem ntp(xs:List Mb)(hxl:xs.length<=1000000)(N:Nat)(a:Option Addr)(cp:Nat)(w:World)(hN:N<=w.heap.size)(aH:ai qJ 3 N w a xs)(d:Int):Calls prog 263 #[.slice a xs.length cp,ab d,.func (.func 264) #[] #[]] w (aP w (.tuple #[ab (pH xs d:Int),.bool (gD xs d)])):=by
 refine ef 22 func263 ntmps263 ?_;refine CJ.lp (α:=Nat×Nat) [0,1,2,8] (λp=>[(9,ab (p.1:Int)),(10,ab (p.2:Int))]) (λp=>[]) (λp=>p.1<=p.2/\p.2<=xs.length/\Df xs d p.1 p.2=pH xs d) (λp=>p.2-p.1) (0,xs.length) ⟨cY _,aj _,rfl⟩ ?_;rintro⟨i,j⟩ ⟨vf,tE,hbs⟩;dsimp only at vf tE hbs ⊢;refine aG 8 ?_ ?_
 ·intro av;refine B 9 ?_;refine rv rfl rfl rfl (jq 1 2 zA rfl rfl rfl) ?_;refine rq (ab (((i+j)/2:Nat):Int)) (yJ underlying222 underlying3 rfl aa aa) ((congrArg ab aa)) ?_;refine B 4 ?_;obtain⟨bo,oo,cs0,to,fC,rfl,fE,bW,aS⟩:=aH.get aa;obtain⟨x,hx⟩:=ng xs ((i+j)/2) aa;refine B 5 ?_;refine zVf ?_;refine aG 3 ?_ ?_
  ·intro aR;refine B 6 ?_;refine ag ((i+j)/2+1,j) ⟨by dsimp only;omega,tE,by rw[<-hbs,Rv aa hx ((nuj _ _).1 cV)]⟩
  intro aR;refine B 5 ?_;refine ag (i,(i+j)/2) ⟨by dsimp only;omega,by dsimp only;omega,by rw[<-hbs,Rx aa hx (λh=>(by assumption:¬du x.dev d<0) ((nuj _ _).2 h))]⟩
 intro av;refine B 6 ?_;have hbe:pH xs d=i:=by rw[<-hbs,Ry aa]
 by_cases h1:i<xs.length
 ·obtain⟨bo,oo,cs0,to,fC,rfl,fE,bW,aS⟩:=aH.get aa;obtain⟨x,hx⟩:=ng xs i aa;refine B 4 ?_;refine Rz ?_;refine zVf ?_;refine B 7 ?_;exact zzh
 refine aE 4 bG ?_;refine B 15 ?_;exact zzh
section
variable (p:Mb->Bool)(f:Nat)(cap:List Value)(aA:eU prog f)(xs:List Mb)(hxl:xs.length<=1000000)(N:Nat)(a:Option Addr)(cp:Nat)(w:World)(hN:N<=w.heap.size)(aH:ai qJ 3 N w a xs)(hp:∀(j:Nat) (x:Mb),xs[j]? =some x->∀W,Below w.heap.size w W->Calls prog f (.agg (qJ x)::cap).toArray W (aP W (.bool (p x))))
include p f cap aA hxl cp hN aH hp
theorem nvd:Calls prog 118 #[.slice a xs.length cp,.func (.func f) #[] cap.toArray] w (cZ w (λi:Int=>ab i) (λi _=>fF p xs i)):=by
 refine eN func118 ntmps118 ?_;refine VO ?_;rintro j ⟨hj,dP⟩;refine aG 6 ?_ ?_
 ·intro av;refine B 11 ?_;obtain⟨bo,oo,cs0,to,fC,rfl,fE,bW,aS⟩:=aH.get aa;obtain⟨x,hx⟩:=ng xs j aa;refine aE 5 (.agg (qJ x)) ?_;refine VP ?_;refine uh ?_ ?_
  ·intro aR;refine B 12 ?_;refine sQ (j:Int) results118 rfl A0 rfl ?_;exact VQ
  exact VR
 intro av;refine B 11 ?_;refine sQ (-1:Int) results118 rfl A0 rfl ?_;exact VS
theorem nbf:Calls prog 221 #[.slice a xs.length cp,.func (.func f) #[] cap.toArray] w (aP w (.bool (xs.any p))):=by
 refine ef 9 func221 ntmps221 ?_;refine nv (α:=Int) (v:=λi:Int=>ab i) (Φ:=λ_ i _=>fF p xs i) call118 rfl rfl rfl (λW hS=>nvd p f cap aA xs hxl N a cp W cJ (aH.up (aj _) hS.sm) (λj x hx W2 hB=>hp j x hx W2 (((hS.links w A0).below KP).trans (hB.mono (hS.links w A0).size)))) ?_;intro Wi i wi Fa Fb hi;refine B 5 ?_;refine aK results221 rfl A1 ?_;exact vb hi.any
end
section
variable (p:Ch->Bool)(f:Nat)(cap:List Value)(aA:eU prog f)(xs:List Ch)(hxl:xs.length<=1000000)(N:Nat)(a:Option Addr)(cp:Nat)(w:World)(hN:N<=w.heap.size)(aH:ai gK 5 N w a xs)(hp:∀(j:Nat) (x:Ch),xs[j]? =some x->∀W,Below w.heap.size w W->Calls prog f (.agg (gK x)::cap).toArray W (aP W (.bool (p x))))
include p f cap aA hxl cp hN aH hp
theorem nXe:Calls prog 225 #[.slice a xs.length cp,.func (.func f) #[] cap.toArray] w (cZ w (λi:Int=>ab i) (λi _=>fF p xs i)):=by
 refine eN func225 ntmps225 ?_;refine VO ?_;rintro j ⟨hj,dP⟩;refine aG 6 ?_ ?_
 ·intro av;refine B 11 ?_;obtain⟨bo,oo,cs0,to,fC,rfl,fE,bW,aS⟩:=aH.get aa;obtain⟨x,hx⟩:=ng xs j aa;refine aE 5 (.agg (gK x)) ?_;refine VP ?_;refine uh ?_ ?_
  ·intro aR;refine B 12 ?_;refine sQ (j:Int) results225 rfl A0 rfl ?_;exact VQ
  exact VR
 intro av;refine B 11 ?_;refine sQ (-1:Int) results225 rfl A0 rfl ?_;exact VS
theorem nEd:Calls prog 156 #[.slice a xs.length cp,.func (.func f) #[] cap.toArray] w (aP w (.bool (xs.any p))):=by
 refine ef 9 func156 ntmps156 ?_;refine nv (α:=Int) (v:=λi:Int=>ab i) (Φ:=λ_ i _=>fF p xs i) call225 rfl rfl rfl (λW hS=>nXe p f cap aA xs hxl N a cp W cJ (aH.up (aj _) hS.sm) (λj x hx W2 hB=>hp j x hx W2 (((hS.links w A0).below KP).trans (hB.mono (hS.links w A0).size)))) ?_;intro Wi i wi Fa Fb hi;refine B 5 ?_;refine aK results156 rfl A1 ?_;exact vb hi.any
end
structure Gp where
 folder:Int
 epoch:Int
 last:Nat->Int
 ms:List Mb
 ns:List Nd
structure Gv where
 g:Gp
 ma:Option Addr
 mc:Nat
 na:Option Addr
 nc:Nat
def bF (x:Gv):Array Value:=(ab x.g.folder::ab x.g.epoch::lJ x.g.last [.slice x.ma x.g.ms.length x.mc,.slice x.na x.g.ns.length x.nc]).toArray
structure cj (N:Nat) (w:World) (x:Gv):Prop where
 ms:ai qJ 3 N w x.ma x.g.ms
 ns:ai fV 2 N w x.na x.g.ns
 mn:x.g.ms.length<=10000
 nn:x.g.ns.length<=80000
theorem cj.up{N':Nat}{w':World}{x:Gv}(h:cj N w x)(hN:N<=N')(hw:∀k,k<N->w'.heap[k]? =w.heap[k]?):cj N' w' x:=⟨h.ms.up hN hw,h.ns.up hN hw,h.mn,h.nn⟩
def VT (ep:Int) (x:Mb):Bool:=decide (x.since<1\/ep<x.since\/¬eg x.ver)
def RA (g:Gp):Prop:=(qK g.folder/\0<=g.epoch/\g.epoch<=1099511627776/\jF g.ns=0)/\¬(g.epoch=0/\(0<g.ms.length\/iA g.last (λ_=>0)=false))/\g.ms.map (·.dev)=ei g.ns/\g.ms.any (VT g.epoch)=false
open Classical in
noncomputable def dX (g:Gp):Bool:=decide (RA g)
theorem Y0(a:Int):(if eg a then(0:Int)else 40)=0↔eg a:=by grind
theorem nVn(G:Gv)(b:Nat)(x:Mb)(w:World)(hb1:w.heap[b]? =some (oC (bF G) 53)):Calls prog 218 #[.agg (qJ x),ptr b 0] w (aP w (.bool (VT G.g.epoch x))):=by
 have cK:¬Gh.no.X b:=λh=>h;have mw:=(bA.1 hb1).1;obtain⟨e,he⟩:∃e,(if eg x.ver then(0:Int)else 40)=e:=⟨_,rfl⟩;have Jn:=Y0 x.ver;rw[he]at Jn;refine eN func218 ntmps218 ?_;refine cH 2 ?_;intro b2 w2 dw bX fB dJ dH;refine B 9 ?_;refine ni (t:=7) rfl (λav=>?_) (λav=>?_)
 ·replace av:=ya av;refine B 16 ?_;exact zWh
 replace av:=ya av;refine B 7 ?_;refine ni (t:=14) rfl (λaR=>?_) (λaR=>?_)
 ·replace aR:=ya aR;refine B 9 ?_;exact zWh
 replace aR:=ya aR;refine B 2 ?_;refine zVd ?_;refine B 6 ?_;exact zWh
theorem K6(x:Mb)(d:Int)(w:World):Calls prog 219 #[.agg (qJ x),ab d] w (aP w (.bool (decide (x.dev=d)))):=by
 refine eN func219 ntmps219 ?_;refine cH 2 ?_;intro b2 w2 dw bX fB dJ dH;refine B 13 ?_;refine aK results219 rfl A1 ?_;rfl
theorem nOg{α β:Type}{f:α->β}{xs:List α}{ys:List β}(hl:xs.length=ys.length)(h:∀i x y,i<xs.length->xs[i]? =some x->ys[i]? =some y->f x=y):xs.map f=ys:=by
 apply List.ext_getElem K7;intro i h1 h2;simp only[eO]at h1;simpa using h i _ _ h1 (lj h1) (lj h2)
theorem nnh{α β:Type}{f:α->β}{xs:List α}{ys:List β}{x:α}{y:β}(hx:xs[i]? =some x)(hy:ys[i]? =some y)(hne:f x≠y):xs.map f≠ys:=by grind
def vg {α β:Type} (f:α->β) (xs:List α) (ys:List β) (j:Nat):Prop:=∀i x y,i<j->xs[i]? =some x->ys[i]? =some y->f x=y
theorem vg.next{α β:Type}{f:α->β}{xs:List α}{ys:List β}{x:α}{y:β}(h:vg f xs ys j)(hx:xs[j]? =some x)(hy:ys[j]? =some y)(e:f x=y):vg f xs ys (j+1):=by
 exact zEh
theorem nbd(xs:List Mb)(hxl:xs.length<=1000000)(N:Nat)(a:Option Addr)(cp:Nat)(w:World)(hN:N<=w.heap.size)(aH:ai qJ 3 N w a xs)(ys:List Int)(a2:Option Addr)(Y1:Nat)(Fc:ai (λx=>(az x).toArray) 1 N w a2 ys):Calls prog 220 #[.slice a xs.length cp,.slice a2 ys.length Y1,.func (.func 219) #[] #[]] w (aP w (.bool (decide (xs.map (·.dev)=ys)))):=by
 refine eN func220 ntmps220 ?_;refine aG 15 ?_ ?_
 ·intro av;refine B 7 ?_;refine aK results220 rfl A0 ?_;exact vb zgb
 intro av;refine B 11 ?_;refine CJ.lp (α:=Nat) [1,2,15,16] (λj=>[(17,ab (j:Int))]) (λj=>[]) (λj=>j<=xs.length/\vg (·.dev) xs ys j) (λj=>xs.length-j) 0 ⟨cY _,λi x y hi=>absurd hi aa⟩ ?_;rintro j ⟨hj,dP⟩;refine aG 6 ?_ ?_
 ·intro aR;refine B 5 ?_;obtain⟨bo,oo,cs0,to,fC,rfl,fE,bW,aS⟩:=aH.get aa;obtain⟨x,hx⟩:=ng xs j aa;refine aE 3 (.agg (qJ x)) ?_;refine bH 1 ?_;intro b8 CZ Jc;refine B 5 ?_;obtain⟨bp,op,csp,tp,frp,rfl,BL,RB,RC⟩:=Fc.get aa;obtain⟨y,hy⟩:=ng ys j aa;refine B 4 ?_;refine rv rfl rfl rfl (ar (v:=ab y) isAgg3 rfl A0 RB zI zz (by have:=nJ (enc:=λx=>(az x).toArray) (n:=1) RC hy rfl zA;simpa[az]using this)) ?_;refine B 8 ?_;refine CY (f:=219) (cap:=[]) rfl call219 rfl rfl rfl (λW hS=>K6 x y W) ?_;refine aG 3 ?_ ?_
  ·intro dm;refine B 11 ?_;refine cu (.inl rfl) results220 bB A0 zB ?_;exact vb zgb
  intro dm;refine xW ?_;refine ag (j+1) ⟨by omega,dP.next hx hy AR⟩
 intro aR;refine B 11 ?_;refine aK results220 rfl A0 ?_;exact vb zgb
variable {g:Gp}
theorem zk:dX g=true↔RA g:=by unfold dX;simp
theorem RD(h:¬RA g):bG= .bool (dX g):=by grind [dX,zk]
theorem nWn(h1:qK g.folder/\0<=g.epoch/\g.epoch<=1099511627776/\jF g.ns=0)(h2:¬(g.epoch=0/\(0<g.ms.length\/iA g.last (λ_=>0)=false)))(h3:g.ms.map (·.dev)=ei g.ns):Value.bool (!g.ms.any (VT g.epoch))= .bool (dX g):=vb (by
 by_cases h:g.ms.any (VT g.epoch)=false
 ·rw[h,zk.2 ⟨h1,h2,h3,h⟩];rfl
 cases e:dX g with
 |false=>simpa using h
 |true=>exact absurd (zk.1 e).2.2.2 h)
theorem nR(G:Gv)(N:Nat)(w:World)(hN:N<=w.heap.size)(hG:cj N w G):Calls prog 148 #[.agg (bF G)] w (aP w (.bool (dX G.g))):=by
 have hn:G.g.ns.length<=100000:=by have:=hG.nn;omega
 have wg:G.g.ms.length<=1000000:=by have:=hG.mn;omega
 have aH:=hG.ns;refine eN func148 ntmps148 ?_;refine cH 2 ?_;intro b1 w1 hb1 cK gS fX jK;refine B 8 ?_;refine call call217 rfl rfl rfl (λW hS=>nPl _ W) ?_;refine B 2 ?_;refine ni (t:=9) rfl (λav=>?_) (λav=>?_)
 ·replace av:=ya av;refine B 25 ?_;refine aK results148 rfl A1 ?_;exact RD (λh=>av h.1.1)
 replace av:=ya av;refine B 5 ?_;refine ni (t:=14) rfl (λaR=>?_) (λaR=>?_)
 ·replace aR:=ya aR;refine B 20 ?_;refine aK results148 rfl A1 ?_;exact RD (λh=>by have:=h.1.2.1;omega)
 replace aR:=ya aR;refine B 5 ?_;refine ni (t:=19) rfl (λdm=>?_) (λdm=>?_)
 ·replace dm:=ya dm;refine B 15 ?_;refine aK results148 rfl A1 ?_;exact RD (λh=>by have:=h.1.2.2.1;omega)
 replace dm:=ya dm;refine aE 1 (.agg #[.slice G.na G.g.ns.length G.nc]) ?_;refine call call111 rfl rfl rfl (λW hS=>nKb G.g.ns hn N G.na G.nc W cJ (aH.up (aj _) hS.sm)) ?_;refine aG 4 ?_ ?_
 ·intro je;refine B 7 ?_;refine aK results148 rfl A1 ?_;exact RD (λh=>je h.1.2.2.2)
 intro je;refine B 9 ?_;refine ni (t:=28) rfl (λib=>?_) (λib=>?_)
 ·replace ib:=ya ib;refine B 5 ?_;refine ni (t:=33) rfl (λkX=>?_) (λkX=>?_)
  ·replace kX:=ya kX;refine B 16 ?_;refine aK results148 rfl A1 ?_;exact RD (λh=>h.2.1 ⟨ib,.inl aa⟩)
  replace kX:=ya kX;refine B 3 ?_;refine rr (.bool (!iA G.g.last (λ_=>0))) (dT nO zA nF rfl rfl rfl) ?_;refine aG 4 ?_ ?_
  ·intro jW;refine B 7 ?_;refine aK results148 rfl A1 ?_;exact RD (λh=>h.2.1 ⟨ib,.inr jW⟩)
  intro jW;refine B 14 ?_;by_cases h1:G.g.ms.map (·.dev)=ei G.g.ns
  ·refine zZc ?_;refine CJ.chn 11 [4] [_,some (.slice G.ma G.g.ms.length G.mc),_,some (.agg #[.slice G.na G.g.ns.length G.nc]),none,_,some (bZ),_,_,_,_] (λcv L' H'=>match cv with| []=>L'=[w1,w]/\H'=[]| [v1]=>∃(a7:Option Addr) (c7:Nat) (w7:World),v1= .slice a7 (ei G.g.ns).length c7/\L'=[w7,w1,w]/\H'=[]/\ai (λx=>(az x).toArray) 1 w7.heap.size w7 a7 (ei G.g.ns)|_=>False) (pc Y2 (pc OP (pc Y3 (pc OP (pk (pc zM (pc (λcv L' H' hd hP=>match cv,hd,hP with| [],hd,hP=>(absurd (show false=true from hd) zA)| [v1],hd,hP=>zMc|_::_::_,_,hP=>hP.elim) (pc zM (pc Y2 (pc OP (pc zM (pn)))))))))))) ?_ ?_
   ·exact zhg
   intro cv L' H' hl hP;obtain⟨v1,rfl⟩:=jv hl;obtain⟨a7,c7,w7,rfl,rfl,rfl,ko⟩:=hP;refine zce ?_;refine B 6 ?_;refine aK results148 rfl A2 ?_;exact nWn ⟨av,by omega,by omega,je⟩ (λh=>h.2.elim (λh=>by omega) (λh=>by rw[jW]at h;cases h)) h1
  exact zeg
 replace ib:=ya ib;refine B 28 ?_;by_cases h1:G.g.ms.map (·.dev)=ei G.g.ns
 ·refine zZc ?_;refine CJ.chn 11 [4] [_,some (.slice G.ma G.g.ms.length G.mc),_,some (.agg #[.slice G.na G.g.ns.length G.nc]),none,_,some (bZ),_,_,_,_] (λcv L' H'=>match cv with| []=>L'=[w1,w]/\H'=[]| [v1]=>∃(a7:Option Addr) (c7:Nat) (w7:World),v1= .slice a7 (ei G.g.ns).length c7/\L'=[w7,w1,w]/\H'=[]/\ai (λx=>(az x).toArray) 1 w7.heap.size w7 a7 (ei G.g.ns)|_=>False) (pc Y2 (pc OP (pc Y3 (pc OP (pk (pc zM (pc (λcv L' H' hd hP=>match cv,hd,hP with| [],hd,hP=>(absurd (show false=true from hd) zA)| [v1],hd,hP=>zMc|_::_::_,_,hP=>hP.elim) (pc zM (pc Y2 (pc OP (pc zM (pn)))))))))))) ?_ ?_
  ·exact zhg
  intro cv L' H' hl hP;obtain⟨v1,rfl⟩:=jv hl;obtain⟨a7,c7,w7,rfl,rfl,rfl,ko⟩:=hP;refine zce ?_;refine B 6 ?_;refine aK results148 rfl A2 ?_;exact nWn ⟨av,by omega,by omega,je⟩ (λh=>ib h.1) h1
 exact zeg
section
variable {C:Cx} {Q:bC} {E E0:Env} {D:List Deferred} {G:Gh} {L:List World} {H:ad}
def Y4 (C:Cx) (E:Env) (D:List Deferred) (G:Gh) (L:List World) (H:ad):bC:=λe a W=>e= .normal/\a.tmps.size=C.N/\a.defers=D/\Fits E a/\St G L H W
theorem CJ.mid{c:Code}{v:Value}(h0:Sub E0 E)(h:CJ C c (Y4 C ((t,v)::E0) D G L H) E D G L H)(k:PJ C Q .normal ((t,v)::E0) D G L H):CJ C c Q E D G L H:=by
 intro a W hN hD hF hS;refine wpIn_mono (h a W hN hD hF hS) ?_;rintro e a' W' ⟨rfl,h1,h2,h3,h4⟩;exact k a' W' h1 h2 h3 h4
theorem PJ.mid{E':Env}(hE:Sub E' E):PJ C (Y4 C E' D G L H) .normal E D G L H:=λa W hN hD hF hS=>⟨rfl,hN,hD,hE.fits hF,hS⟩
end
def Y5 (x:Ch):Prop:=((x.kind=1/\(eg x.pub/\eg x.ver)/\x.cut=0)\/(x.kind=2/\x.pub=0/\x.ver=0/\(0<=x.cut/\x.cut<=1048576))\/(x.kind=3/\(eg x.pub/\eg x.ver)/\(0<=x.cut/\x.cut<=1048576)))/\dd x.dev
def OQ (kv:List (Int×Bool)) (x:Ch):List (Int×Bool):=dM kv x.dev true
def OR (l:List Ch):List (Int×Bool):=l.foldl OQ []
variable {x:Ch} {l:List Ch}
theorem nxg(hx:l[j]? =some x):OR (l.take (j+1))=dM (OR (l.take j)) x.dev true:=by rw[np hx];simp[OR,OQ,Jk]
def RE (l:List Ch) (i:Nat) (x:Ch):Prop:=Y5 x/\(aF (OR (l.take i)) x.dev).getD false=false
def zl (l:List Ch) (j:Nat):Prop:=∀i x,i<j->l[i]? =some x->RE l i x
theorem zl.next(h:zl l j)(hx:l[j]? =some x)(hk:RE l j x):zl l (j+1):=by
 exact zgi
def K8 (l:List Ch):Prop:=zl l l.length/\l.length<=64
open Classical in
noncomputable def jP (l:List Ch):Bool:=decide (K8 l)
theorem OS:jP l=true↔K8 l:=by unfold jP;simp
theorem nqc(hx:l[j]? =some x)(h:¬RE l j x):bG= .bool (jP l):=vb (by
 cases e:jP l with
 |false=>rfl
 |true=>exact absurd ((OS.1 e).1 j x (nq hx) hx) h)
theorem nDh(h:zl l j)(hj:¬j<l.length):Value.bool (decide ((l.length:Int)<=64))= .bool (jP l):=vb (by
 have h1:zl l l.length:=λi x hi hx=>h i x aa hx;cases e:jP l with
 |false=>exact decide_eq_false (λh2=>absurd (OS.2 ⟨h1,by omega⟩) (by rw[e];decide))
 |true=>have:=(OS.1 e).2;exact decide_eq_true aa)
theorem nSc(l:List Ch)(hxl:l.length<=1000000)(N:Nat)(a:Option Addr)(cp:Nat)(w:World)(hN:N<=w.heap.size)(aH:ai gK 5 N w a l):Calls prog 196 #[.slice a l.length cp] w (aP w (.bool (jP l))):=by
 refine ef 7 func196 ntmps196 ?_;refine KO Value.bool rfl rfl ?_;refine yW ?_;intro b9 xP uj;refine B 12 ?_;refine CJ.lp (α:=Mp×Nat) [0,3,10,11] (λp=>[(12,ab (p.2:Int))]) (λp=>[(b9,p.1.obj Value.bool (OR (l.take p.2)))]) (λp=>p.2<=l.length/\p.1.Ok (OR (l.take p.2))/\zl l p.2) (λp=>l.length-p.2) (⟨[],0⟩,0) ⟨cY _,Mp.nil,λi x hi=>absurd hi aa⟩ ?_;rintro⟨m,j⟩ ⟨hj,hm,dP⟩;dsimp only at hj hm dP ⊢;refine aG 6 ?_ ?_
 ·intro av;refine B 5 ?_;obtain⟨bo,oo,cs0,to,fC,rfl,fE,bW,aS⟩:=aH.get aa;obtain⟨x,hx⟩:=ng l j aa;obtain⟨e1,uu⟩:∃e,(if eg x.pub then(0:Int)else 40)=e:=⟨_,rfl⟩;obtain⟨e2,Jh⟩:∃e,(if eg x.ver then(0:Int)else 40)=e:=⟨_,rfl⟩;have RF:=Y0 x.pub;rw[uu]at RF;have RG:=Y0 x.ver;rw[Jh]at RG;refine B 2 ?_;refine VU ?_;refine yW ?_;intro b5 rF rG;refine B 4 ?_;refine CJ.mid (t:=6) (v:=.bool (decide (e1=0/\e2=0))) (E0:=[(0,_),(3,_),(5,_),(10,_),(11,_),(12,_),(13,_),(14,_),(15,_)]) zR ?_ ?_
  ·refine B 3 ?_;refine call call65 rfl rfl rfl (λW hS=>by rw[<-uu];exact nP _ W) (v:=ab e1) ?_;refine B 2 ?_;refine ni (t:=20) rfl (λaR=>?_) (λaR=>?_)
   ·replace aR:=ya aR;refine B 2 ?_;refine call call65 rfl rfl rfl (λW hS=>by rw[<-Jh];exact nP _ W) (v:=ab e2) ?_;refine B 4 ?_;exact zYh
   replace aR:=ya aR;refine B 7 ?_;exact zYh
  refine B 2 ?_;refine CJ.mid (t:=7) (v:=.bool (decide (0<=x.cut/\x.cut<=1048576))) (E0:=[(0,_),(3,_),(5,_),(6,_),(10,_),(11,_),(12,_),(13,_),(14,_),(15,_)]) zR ?_ ?_
  ·refine B 5 ?_;refine ni (t:=29) rfl (λdm=>?_) (λdm=>?_)
   ·exact zoh
   exact zoh
  refine B 13 ?_;refine CJ.mid (t:=8) (v:=.bool (decide ((x.kind=1/\(e1=0/\e2=0)/\x.cut=0)\/(x.kind=2/\x.pub=0/\x.ver=0/\(0<=x.cut/\x.cut<=1048576))\/(x.kind=3/\(e1=0/\e2=0)/\(0<=x.cut/\x.cut<=1048576))))) (E0:=[(0,_),(3,_),(5,_),(6,_),(7,_),(10,_),(11,_),(12,_),(13,_),(14,_),(15,_),(34,_),(35,_)]) zR ?_ ?_
  ·refine aG 7 ?_ ?_
   ·intro je;refine B 3 ?_;refine ni (t:=39) rfl (λib=>?_) (λib=>?_)
    ·replace ib:=ya ib;refine B 7 ?_;exact Y6
    replace ib:=ya ib;refine B 7 ?_;exact Y6
   intro je;refine aG 6 ?_ ?_
   ·intro kX;refine B 5 ?_;refine ni (t:=49) rfl (λjW=>?_) (λjW=>?_)
    ·replace jW:=ya jW;refine B 5 ?_;refine ni (t:=54) rfl (λDO=>?_) (λDO=>?_)
     ·replace DO:=ya DO;exact zvi
     replace DO:=ya DO;exact zvi
    replace jW:=ya jW;refine B 10 ?_;exact Y6
   intro kX;refine aG 6 ?_ ?_
   ·intro ph;refine B 3 ?_;refine ni (t:=60) rfl (λrE=>?_) (λrE=>?_)
    ·replace rE:=ya rE;exact zvi
    replace rE:=ya rE;exact zvi
   intro ph;refine B 2 ?_;exact Y6
  refine B 7 ?_;refine ni (t:=65) rfl (λmC=>?_) (λmC=>?_)
  ·replace mC:=ya mC;refine B 26 ?_;exact zng
  replace mC:=ya mC;refine B 2 ?_;refine call call222 rfl rfl rfl (λW hS=>VN _ W) ?_;refine B 3 ?_;refine ni (t:=71) rfl (λkg=>?_) (λkg=>?_)
  ·replace kg:=ya kg;refine B 20 ?_;exact zng
  replace kg:=ya kg;refine B 3 ?_;refine rq (.bool ((aF (OR (l.take j)) x.dev).getD false)) (oe (ev:=Value.bool) underlying307 underlying3 zeroValue4 hm (bE.own (i:=1) rfl) rfl rfl) (nkk _) ?_;refine aG 3 ?_ ?_
  ·intro mD;refine B 12 ?_;exact zng
  intro mD;refine B 6 ?_;refine OG (i:=1) (ev:=Value.bool) (v:=true) rfl hm underlying307 underlying3 rfl rfl rfl rfl ?_;intro m3 cX;refine xW ?_;refine PJ.again (m3,j+1) ⟨by dsimp only;omega,by rw[nxg hx];exact cX,dP.next hx ⟨⟨by rw[<-RF,<-RG];assumption,by assumption⟩,by assumption⟩⟩ zW zR (by rw[nxg hx];rfl) rfl zJ
 intro av;refine B 14 ?_;exact zng
theorem rW{C:Cx}{E:Env}{G:Gh}{T U:Nat}{x y:Operand}{a b:Bool}(hU:C.P.underlying T=some .bool)(hx:ev E x=some (.bool a))(hy:ev E y=some (.bool b)):RV C G L H E (.binOp .neq T x y U) (.bool (a != b)):=λd ty pos aC g ac W hF _=>by
 have h1:(Op.equalIn (9999+1) T (.bool a) (.bool b)).run C.P W= .ok (a==b) W:=by
  generalize 9999=n;simp[Op.equalIn,run_underlying hU]
 have h2:(binOp .neq T (.bool a) (.bool b)).run C.P W= .ok (.bool (a != b)) W:=by
  have e:binOp .neq T (.bool a) (.bool b)=(do pure (.bool (!(<-Op.equalIn (9999+1) T (.bool a) (.bool b))))):=rfl;rw[e,Sem.run_bind,h1];rfl
 have h3:(eqGuard .neq T x y (.bool a) (.bool b)).run C.P W= .ok () W:=by simp[eqGuard]
 simp only[execOp,hF.ev hx,hF.ev hy,Sem.run_bind,h3,h2,Result.andThen];rfl
def zm (g:Gp) (own:Bool) (au:Int) (x:Ch):Bool:=(gD g.ms x.dev==decide (x.kind=1))||(own&&decide (x.dev=au))
def lU (g:Gp) (au:Int) (l:List Ch):Bool:= !((gD g.ms au != decide (0<g.epoch))||(decide (g.epoch=0)&&(decide (l.length=0)|| !decide ((l[0]?.map (·.dev))=some au))))&& !(l.any (zm g (gD g.ms au) au))
section
variable (G:Gv)(N:Nat)(w:World)(hN:N<=w.heap.size)(hG:cj N w G)
include hN hG
theorem nYd(d:Int):Calls prog 199 #[.agg (bF G),ab d] w (aP w (.tuple #[ab (pH G.g.ms d:Int),.bool (gD G.g.ms d)])):=by
 refine eN func199 ntmps199 ?_;refine cH 2 ?_;intro b2 w2 dw bX fB dJ dH;refine B 9 ?_;refine call call263 rfl rfl rfl (λW hS=>ntp G.g.ms (by have:=hG.mn;omega) N G.ma G.mc W cJ (hG.ms.up (aj _) hS.sm) d) ?_;refine B 7 ?_;refine nT results199 rfl rfl A1 ?_ ?_;all_goals rfl
theorem nIi(b1 b2 b3:Nat)(own:Bool)(au:Int)(hb1:w.heap[b1]? =some (oC (bF G) 53))(dw:w.heap[b2]? =some (oC #[.bool own] 4))(dA:w.heap[b3]? =some (oC #[ab au] 3))(x:Ch):Calls prog 259 #[.agg (gK x),ptr b1 0,ptr b2 0,ptr b3 0] w (aP w (.bool (zm G.g own au x))):=by
 have cK:¬Gh.no.X b1:=λh=>h;have bX:¬Gh.no.X b2:=λh=>h;have cX:¬Gh.no.X b3:=λh=>h;refine eN func259 ntmps259 ?_;refine cH 2 ?_;intro b4 w4 DX BR Vg iT iU;refine Y7 ?_;refine B 2 ?_;refine call call199 rfl rfl rfl (λW hS=>nYd G N W cJ (hG.up (aj _) hS.sm) x.dev) ?_;refine B 13 ?_;refine rv rfl rfl rfl (RH underlying4 rfl rfl) ?_;refine B 1 ?_;refine ni (t:=20) rfl (λav=>?_) (λav=>?_)
 ·replace av:=ya av;refine B 12 ?_;exact zxh
 replace av:=ya av;refine B 2 ?_;refine ni (t:=22) rfl (λaR=>?_) (λaR=>?_)
 ·replace aR:=ya aR;refine B 10 ?_;exact zxh
 replace aR:=ya aR;refine B 10 ?_;exact zxh
theorem n4e(l:List Ch)(hxl:l.length<=1000000)(a:Option Addr)(cp:Nat)(aH:ai gK 5 N w a l)(au:Int):Calls prog 197 #[.agg (bF G),ab au,.slice a l.length cp] w (aP w (.bool (lU G.g au l))):=by
 refine eN func197 ntmps197 ?_;refine cH 2 ?_;intro b3 w3 dA cX fT eC ff;refine yX ?_;intro b4 w4 DX BR Vg iT iU;refine Y7 ?_;refine B 1 ?_;refine call call199 rfl rfl rfl (λW hS=>nYd G N W cJ (hG.up (aj _) hS.sm) au) ?_;refine bH 4 ?_;intro b8 CZ Jc;refine B 6 ?_;by_cases h1:gD G.g.ms au≠decide (0<G.g.epoch)
 ·refine eA 19 (pb:=by exact zU 4 (k:=by exact aJ (X.v (RV.re (v':=bZ) (rW underlying4 rfl rfl) (vb Dg))) zT)) (k:=?_);refine B 14 ?_;exact Y8
 by_cases h2:¬G.g.epoch=0
 ·refine eA 19 (pb:=by exact zU 4 (k:=by exact aJ (X.v (RV.re (v':=bG) (rW underlying4 rfl rfl) (vb Dg))) zT)) (sp:=(_::_::_::_::_::_::_::_::(some bG)::_)) (k:=?_);refine B 19 ?_;refine z5c ?_;refine B 5 ?_;exact Y8
 by_cases h3:l.length=0
 ·refine eA 19 (pb:=by exact zU 4 (k:=by exact aJ (X.v (RV.re (v':=bG) (rW underlying4 rfl rfl) (vb Dg))) zT)) (sp:=[_,_,_,_,_,_,_,_,some bZ,_,_,_,some bZ,_,_,_,_,_,_]) (k:=?_);refine B 14 ?_;exact Y8
 obtain⟨bo,oo,cs0,to,fC,rfl,fE,bW,aS⟩:=aH.get aa;obtain⟨x,hx⟩:=ng l 0 aa;refine eA 19 (pb:=by exact zU 4 (k:=by exact aJ (X.v (RV.re (v':=bG) (rW underlying4 rfl rfl) (vb Dg))) (zU 12 (k:=by exact aJ (X.v (ar (v:=ab x.dev) isAgg3 rfl A2 bW zI zz (by have:=vh aS hx (i:=0) rfl 1 zA;simpa[gK]using this))) zT)))) (sp:=[_,_,_,_,_,_,_,_,some bZ,_,_,_,some bG,_,_,_,_,_,_]) (k:=?_);refine aG 6 ?_ ?_
 ·intro av;refine B 7 ?_;exact Y8
 intro av;refine B 12 ?_;refine z5c ?_;refine B 5 ?_;exact Y8
end
noncomputable def lV (ns:List Nd) (d:Int):List Nd:=if jF ns=0/\(aF (di ns) (512+d)).isSome=true then nU (mS (di ns) d)else[]
noncomputable def pI (ns:List Nd) (d:Int):Int:=if jF ns=0 then(if(aF (di ns) (512+d)).isSome=true then 0 else 200)else 210
open Classical in
noncomputable def ll (ns:List Nd) (d p:Int):List Nd:=if jF ns=0/\eg p then nU (dM (mS (di ns) d) (512+d) p)else[]
open Classical in
noncomputable def pJ (ns:List Nd) (d p:Int):Int:=if jF ns=0 then(if eg p then 0 else 50)else 210
theorem Fe(ns:List Nd)(d:Int):(lV ns d).length<=ns.length:=by grind [lV,nkh,YP,VH]
theorem Ff(ns:List Nd)(d p:Int):(ll ns d p).length<=ns.length+1:=by grind [ll,nkh,Yw,YP,VH]
section
variable (ns:List Nd)(hn:ns.length<=100000)(N:Nat)(a:Option Addr)(cp:Nat)(w:World)(hN:N<=w.heap.size)(aH:ai fV 2 N w a ns)
include hn cp hN aH
theorem n1d(d:Int)(hd:dd d):Calls prog 35 #[.agg #[.slice a ns.length cp],ab d] w (aD w ie 2 240 (lV ns d) (λs=>.tuple #[.agg #[s],ab (pI ns d)])):=by
 rcases nBh ns with h|h
 ·by_cases h2:(aF (di ns) (512+d)).isSome=true
  ·have e1:lV ns d=nU (mS (di ns) d):=by unfold lV;rw[if_pos ⟨h,h2⟩]
   have e2:pI ns d=0:=by unfold pI;rw[if_pos h,if_pos h2]
   rw[e1,e2];exact n7p ns hn N a cp w hN aH h d hd h2
  have e1:lV ns d=[]:=by unfold lV;rw[if_neg λg=>h2 g.2]
  have e2:pI ns d=200:=by unfold pI;rw[if_pos h,if_neg h2]
  rw[e1,e2];exact npp ns hn N a cp w hN aH h d hd K9
 have e1:lV ns d=[]:=by unfold lV;rw[if_neg λg=>by have:=g.1;omega]
 have e2:pI ns d=210:=by unfold pI;rw[if_neg aa]
 rw[e1,e2];exact nWo ns hn N a cp w hN aH h d
theorem nxf(d p:Int)(hd:dd d)(yZ:ns.length<100000):Calls prog 34 #[.agg #[.slice a ns.length cp],ab d,ab p] w (aD w ie 2 240 (ll ns d p) (λs=>.tuple #[.agg #[s],ab (pJ ns d p)])):=by
 rcases nBh ns with h|h
 ·by_cases h2:eg p
  ·have e1:ll ns d p=nU (dM (mS (di ns) d) (512+d) p):=by unfold ll;rw[if_pos ⟨h,h2⟩]
   have e2:pJ ns d p=0:=by unfold pJ;rw[if_pos h,if_pos h2]
   rw[e1,e2];exact Rm ns hn N a cp w hN aH h d p hd yZ (if_pos h2)
  have e1:ll ns d p=[]:=by unfold ll;rw[if_neg λg=>h2 g.2]
  have e2:pJ ns d p=50:=by unfold pJ;rw[if_pos h,if_neg h2]
  rw[e1,e2];exact KY ns hn N a cp w hN aH h d p hd (if_neg h2)
 have e1:ll ns d p=[]:=by unfold ll;rw[if_neg λg=>by have:=g.1;omega]
 have e2:pJ ns d p=210:=by unfold pJ;rw[if_neg aa]
 rw[e1,e2];exact KX ns hn N a cp w hN aH h d p
end
noncomputable def tI (ns:List Nd) (x:Ch):List Nd:=if x.kind=2 then lV ns x.dev else ll ns x.dev x.pub
noncomputable def aN (ns:List Nd) (l:List Ch):List Nd:=l.foldl tI ns
theorem nch(hx:l[j]? =some x):aN ns (l.take (j+1))=tI (aN ns (l.take j)) x:=by rw[np hx];simp[aN,Jk]
theorem VV(hx:l[j]? =some x)(h:x.kind=2):aN ns (l.take (j+1))=lV (aN ns (l.take j)) x.dev:=by rw[nch hx];unfold tI;rw[if_pos h]
theorem VW(hx:l[j]? =some x)(h:¬x.kind=2):aN ns (l.take (j+1))=ll (aN ns (l.take j)) x.dev x.pub:=by rw[nch hx];unfold tI;rw[if_neg h]
theorem OT(l:List Ch):∀ns:List Nd,(aN ns l).length<=ns.length+l.length:=by induction l<;>grind [aN,tI,Fe,Ff]
theorem nXg(ns:List Nd)(l:List Ch)(j:Nat)(hj:j<=l.length):(aN ns (l.take j)).length<=ns.length+l.length:=by grind [OT]
theorem nfi(ns:List Nd)(l:List Ch)(j:Nat)(h:¬j<l.length):aN ns (l.take j)=aN ns l:=by rw[iz aa]
theorem ai.to{α:Type}{enc:α->Array Value}{xs:List α}(h:ai enc n N w a xs)(hS:St Gh.no L H W)(hw:w∈L)(hN:N<=w.heap.size)(ho:∀b off,a=some ⟨b,off,none⟩->xs=[]\/bM H b):ai enc n W.heap.size W a xs:=by
 by_cases h0:xs=[]
 ·exact .inl h0
 exact h.blk λb off e hb=>⟨by have:=(hS.links w hw).size;omega,(hS.links w hw).block b aa (λhx=>hx.elim id ((ho b off e).resolve_left h0).mem)⟩
abbrev Y9 {α:Type} (N:Nat) (w:World) (enc:α->Array Value) (n:Nat) (xs:List α) (v:Value->Value):Ending->World->Prop:=cZ w (λq:Option Addr×Nat=>v (.slice q.1 xs.length q.2)) (λq w'=>ai enc n w'.heap.size w' q.1 xs/\∀b off,q.1=some ⟨b,off,none⟩->xs=[]\/b<N\/w.heap.size<=b)
theorem ai.lt{α:Type}{enc:α->Array Value}{xs:List α}(h:ai enc n N w a xs){off:Nat}(e:a=some ⟨b,off,none⟩):xs=[]\/b<N:=by
 rcases h with h|⟨b',off',cs,t,fr,h1,h2,_⟩;all_goals grind
theorem nzc(G:Gv)(N:Nat)(w:World)(hN:N<=w.heap.size)(hG:cj N w G)(l:List Ch)(hxl:l.length<=1000000)(a:Option Addr)(cp:Nat)(aH:ai gK 5 N w a l)(AM:l.length<=64)(lq:∀x∈l,dd x.dev):Calls prog 140 #[.agg (bF G),.slice a l.length cp] w (Y9 N w fV 2 (aN G.g.ns l) (λs=>.agg #[s])):=by
 have Vu:=hG.nn;refine eN func140 ntmps140 ?_;refine cH 2 ?_;intro b2 w2 dw bX fB dJ dH;refine bH 1 ?_;intro b4 iT iU;refine aE 5 (.agg #[.slice G.na G.g.ns.length G.nc]) ?_;refine bH 1 ?_;intro b5 rF rG;refine B 12 ?_;refine CJ.loop (α:=(Option Addr×Nat)×World×Nat) (λp=>[(4,ptr b4 0),(5,ptr b5 0),(10,.slice a l.length cp),(11,ab (l.length:Int)),(12,ab (p.2.2:Int))]) (λp=>[(b5,oC #[.slice p.1.1 (aN G.g.ns (l.take p.2.2)).length p.1.2] 51),(b4,oC #[ak] 51)]) (λp=>[p.2.1,w]) (λp=>Gh.no) (λp=>p.2.2<=l.length/\w.heap.size<=p.2.1.heap.size/\ai fV 2 p.2.1.heap.size p.2.1 p.1.1 (aN G.g.ns (l.take p.2.2))/\∀b off,p.1.1=some ⟨b,off,none⟩->aN G.g.ns (l.take p.2.2)=[]\/(b≠b5/\b≠b4/\(b<N\/w.heap.size<=b))) (λp=>l.length-p.2.2) ((G.na,G.nc),w,0) ⟨cY _,aj _,hG.ns.up hN R2,λb off e=>by rcases hG.ns.lt e with h|h;(exact .inl h);exact .inr aa⟩ zR rfl rfl zJ ?_;rintro⟨⟨ta,tc⟩,wk,j⟩ ⟨hj,tJ,eV,dP⟩;dsimp only at hj tJ eV dP ⊢;refine aG 6 ?_ ?_
 ·intro av;refine B 5 ?_;obtain⟨bo,oo,cs0,to,fC,rfl,fE,bW,aS⟩:=aH.get aa;obtain⟨x,hx⟩:=ng l j aa;have hd:=lq x (cA hx);have La:=nXg G.g.ns l j aa;refine B 2 ?_;refine VU ?_;refine yW ?_;intro b7 kh v7;refine aG 10 ?_ ?_
  ·intro aR;refine B 4 ?_;refine OJ.dropAt (i:=0) rfl zC ?_;refine nH (enc:=ie) (m:=2) (t:=240) (xs:=lV (aN G.g.ns (l.take j)) x.dev) (v:=λs=>.tuple #[.agg #[s],ab (pI (aN G.g.ns (l.take j)) x.dev)]) (first:=[]) (cap:=[]) rfl call35 rfl rfl rfl KJ (λW hS=>n1d (aN G.g.ns (l.take j)) aa W.heap.size ta tc W (aj _) (eV.to hS A0 (aj _) (λb off e=>by rcases dP b off e with h9|h9;(exact .inl h9);rcases eV.lt e with h8|h8;(exact .inl h8);refine .inr ?_;simp only[bM,dx,ec,rO,and_true];omega)) x.dev hd) ?_;intro W9 a9 Fg Jo cC xY jQ kC;have RI:=cC.under;simp only[I9,dx,ec,rO,and_true]at RI;have Za:=xY.size;have XE:=(cC.links w A1).size;refine B 11 ?_;refine PJ.again ((a9,Fg),Jo,j+1) ⟨by dsimp only;omega,by dsimp only;omega,by dsimp only;rw[VV hx cV];exact jQ,λb off e=>by have:=kC _ e;dsimp only at this;exact .inr aa⟩ zW zR (by rw[VV hx cV];rfl) rfl zJ
  intro aR;refine B 6 ?_;refine OJ.dropAt (i:=0) rfl zC ?_;refine nH (enc:=ie) (m:=2) (t:=240) (xs:=ll (aN G.g.ns (l.take j)) x.dev x.pub) (v:=λs=>.tuple #[.agg #[s],ab (pJ (aN G.g.ns (l.take j)) x.dev x.pub)]) (first:=[]) (cap:=[]) rfl call34 rfl rfl rfl KJ (λW hS=>nxf (aN G.g.ns (l.take j)) aa W.heap.size ta tc W (aj _) (eV.to hS A0 (aj _) (λb off e=>by rcases dP b off e with h9|h9;(exact .inl h9);rcases eV.lt e with h8|h8;(exact .inl h8);refine .inr ?_;simp only[bM,dx,ec,rO,and_true];omega)) x.dev x.pub hd aa) ?_;intro W9 a9 Fg Jo cC xY jQ kC;have RI:=cC.under;simp only[I9,dx,ec,rO,and_true]at RI;have Za:=xY.size;have XE:=(cC.links w A1).size;refine B 11 ?_;refine PJ.again ((a9,Fg),Jo,j+1) ⟨by dsimp only;omega,by dsimp only;omega,by dsimp only;rw[VW hx cV];exact jQ,λb off e=>by have:=kC _ e;dsimp only at this;exact .inr aa⟩ zW zR (by rw[VW hx cV];rfl) rfl zJ
 intro av;refine B 6 ?_;rw[nfi _ _ _ aa]at eV dP ⊢;refine B 6 ?_;exact bQ (.inl rfl) results140 bB λW hS=>⟨(ta,tc),rfl,hS.base A1 zF,eV.to hS A0 (aj _) (λb off e=>by rcases dP b off e with h9|h9;(exact .inl h9);exact .inr zz),λb off e=>(dP b off e).imp id (λh=>h.2.2)⟩
noncomputable def qL (ns:List Nd) (au:Int) (i:Nat):List (Int×Int):=(List.range i).flatMap λ(t:Nat)=>(oX ns (((ki au)[t]?).getD 0)).map λn=>((t:Int)+1,n)
noncomputable def lu (ns:List Nd) (au:Int):List (Int×Int):=qL ns au 9
theorem nQm(ns:List Nd)(au:Int){s:Int}(hs:(ki au)[i]? =some s):qL ns au (i+1)=qL ns au i++(oX ns s).map λn=>((i:Int)+1,n):=by simp[qL,List.range_succ,hs]
theorem nkm(ns:List Nd)(au:Int)(i:Nat):∀k,qL ns au i <+:qL ns au (i+k)
 |0=>List.prefix_refl _
 |k+1=>(nkm ns au i k).trans (by
  have:qL ns au (i+(k+1))=qL ns au (i+k)++(oX ns (((ki au)[i+k]?).getD 0)).map λn=>(((i+k:Nat):Int)+1,n):=by rw[<-Nat.add_assoc];simp[qL,List.range_succ]
  rw[this];exact List.prefix_append _ _)
theorem Lb{s:Int}(hs:(ki au)[i]? =some s)(hi:i<9){p:List (Int×Int)}(h:p <+:(oX ns s).map λn=>((i:Int)+1,n)):qL ns au i++p <+:lu ns au:=by
 have h1:qL ns au i++p <+:qL ns au (i+1):=by rw[nQm ns au hs];exact(List.prefix_append_right_inj _).2 h
 refine h1.trans ?_;have h2:=nkm ns au (i+1) (8-i);rw[show i+1+(8-i)=9 by omega]at h2;exact h2
theorem nfo(ns:List Nd)(au:Int):∀i,(qL ns au i).length<=1024*i
 |0=>by simp[qL]
 |i+1=>by
  have h1:=nfo ns au i;have h2:=n2k ns (((ki au)[i]?).getD 0);have:qL ns au (i+1)=qL ns au i++(oX ns (((ki au)[i]?).getD 0)).map λn=>((i:Int)+1,n):=by simp[qL,List.range_succ]
  rw[this,cO,eO];omega
theorem Fh(ns:List Nd)(au:Int):(lu ns au).length<=9216:=nfo ns au 9
noncomputable def Jp (ns:List Nd) (i:Nat) (s:Int) (j:Nat):List (Int×Int):=((oX ns s).take j).map λn=>((i:Int)+1,n)
theorem Fi(ns:List Nd)(i:Nat)(s:Int):Jp ns i s 0=[]:=rfl
theorem n1l{s:Int}{n:Int}(h:(oX ns s)[j]? =some n):Jp ns i s (j+1)=Jp ns i s j++[((i:Int)+1,n)]:=by unfold Jp;rw[np h];simp
theorem Lc(ns:List Nd)(i:Nat)(s:Int)(h:¬j<(oX ns s).length):Jp ns i s j=(oX ns s).map λn=>((i:Int)+1,n):=by unfold Jp;rw[iz aa]
theorem Ld(ns:List Nd)(i:Nat)(s:Int)(j:Nat):Jp ns i s j <+:(oX ns s).map λn=>((i:Int)+1,n):=(List.take_prefix _ _).map _
def Zb (p:Int×Int):List Value:=[ab p.1,ab p.2]
def Zc (b1 b2:Nat) (ns:List Nd) (ta:Option Addr):aI:=λk=>k=b1\/k=b2\/(ns≠ []/\∃off,ta=some ⟨k,off,none⟩)
theorem ai.toG{α:Type}{enc:α->Array Value}{xs:List α}{G:Gh}(h:ai enc n N w a xs)(hS:St G L H W)(hw:w∈L)(hN:N<=w.heap.size)(ho:∀b off,a=some ⟨b,off,none⟩->xs=[]\/(b<N->¬G.X b/\bM H b)):ai enc n W.heap.size W a xs:=by
 by_cases h0:xs=[]
 ·exact .inl h0
 exact h.blk λb off e hb=>⟨by have:=(hS.links w hw).size;omega,(hS.links w hw).block b aa (λhx=>hx.elim ((ho b off e).resolve_left h0 hb).1 ((ho b off e).resolve_left h0 hb).2.mem)⟩
theorem nnn(ns:List Nd)(hn:ns.length<=100000)(au:Int)(tD:dd au)(b1 b2:Nat)(NT:Nat)(ta:Option Addr)(tc:Nat)(W:World)(hNW:NT<=W.heap.size)(eV:ai fV 2 NT W ta ns)(hb1:W.heap[b1]? =some (oC #[ab au] 3))(dw:W.heap[b2]? =some (oC #[.slice ta ns.length tc] 51)):uT prog 260 [ptr b1 0,ptr b2 0] Zb (CW (lu ns au)) (Is (lu ns au)) (λ_=>False) (Zc b1 b2 ns ta) W:=by
 intro l M I X0 hM hI hX hy h0;have cK:¬(dD hM (λ_=>False) (hI [] _)).X b1:=by rintro(h|h);exact(hM _ h).2.2 (.inl rfl);exact h.elim
 have bX:¬(dD hM (λ_=>False) (hI [] _)).X b2:=by rintro(h|h);exact(hM _ h).2.2 (.inr (.inl rfl));exact h.elim
 have mw:=(bA.1 hb1).1;have Jm:=(bA.1 dw).1;have mA:=n2p tD;refine nB (dD hM (λ_=>False) (hI [] _)) [] (vs:=[_,_,_]) func260 rfl ntmps260 rfl (Oi hM (hI [] _) h0 zJ (by simp[lO]) zJ) ?_;refine B 3 ?_;refine nH (enc:=az) (m:=1) (t:=3) (xs:=ki au) (v:=λs=>.tuple #[s,ab 0]) (first:=[]) (cap:=[]) rfl call261 rfl rfl rfl ny (λW hS=>ncm au tD W) ?_;intro Wq aq cpq wq Cf RJ oi OU;have Zd:=Cf.sizes;replace Zd:=yb Zd;have hzq:=RJ.size;have Ze:=Cf.under;replace Ze:=yg Ze;refine B 15 ?_;refine CJ.loop (α:=Nat×aI) (λp=>[(0,yv l),(1,ptr b1 0),(2,ptr b2 0),(17,.slice aq (ki au).length cpq),(18,ab ((ki au).length:Int)),(19,ab (p.1:Int))]) (λp=>[]) (λp=>[wq,W]) (λp=>dD hM p.2 (hI (qL ns au p.1) p.2)) (λp=>p.1<=9/\∀k,p.2 k->wq.heap.size<=k) (λp=>9-p.1) (0,λ_=>False) ⟨cY _,λ_ h=>h.elim⟩ zR rfl rfl zJ ?_;rintro⟨i,V⟩ ⟨hi,hV⟩;dsimp only at hi hV ⊢;have apj:W.heap.size<=wq.heap.size:=by omega
 clear cK bX;have cK:¬(dD hM V (hI (qL ns au i) V)).X b1:=by rintro(h|h);(exact(hM _ h).2.2 (.inl rfl));(have:=hV _ h;omega)
 have bX:¬(dD hM V (hI (qL ns au i) V)).X b2:=by rintro(h|h);(exact(hM _ h).2.2 (.inr (.inl rfl)));(have:=hV _ h;omega)
 refine aG 6 ?_ ?_
 ·intro av;refine B 5 ?_;obtain⟨bq,oq,Ri,tq,Rj,rfl,pG,zf,qI⟩:=oi.get aa;obtain⟨sb,Vm⟩:=ng (ki au) i aa;have aip:=OU _ rfl;dsimp only at aip;refine B 3 ?_;refine rv rfl rfl rfl (ar (v:=ab sb) isAgg3 rfl A0 zf (λhx=>by rcases hx with hx|hx;(have:=(hM _ hx).1;omega);(have:=hV _ hx;omega)) trivial (by have:=nJ (enc:=λx=>(az x).toArray) (n:=1) qI Vm rfl zA;simpa[az]using this)) ?_;refine aE 6 (.agg #[.slice ta ns.length tc]) ?_;refine B 1 ?_;refine nH (enc:=az) (m:=1) (t:=3) (xs:=oX ns sb) (v:=λs=>.tuple #[s,ab (OO ns sb)]) (first:=[]) (cap:=[]) rfl call262 rfl rfl rfl ny (λW2 hS=>nWg ns hn W2.heap.size ta tc W2 (aj _) (eV.toG hS A1 hNW (λb off e=>by by_cases h0:ns=[];(exact .inl h0);exact .inr (λhb=>⟨λhx=>by rcases hx with hx|hx;(exact(hM _ hx).2.2 (.inr (.inr ⟨h0,off,e⟩)));(have:=hV _ hx;omega),trivial⟩))) sb) ?_;intro Wr a8 OM wr VX hBr vd B6;have La:=n2k ns sb;have rX:=hBr.size;have apk:=(VX.links wq A0).size;have hVr:∀j,V j->j<Wr.heap.size:=λj hj=>VX.xlt j (.inr hj);refine B 15 ?_;refine CJ.loop (α:=Nat×aI) (λp=>[(0,yv l),(1,ptr b1 0),(2,ptr b2 0),(6,ab (i:Int)),(17,.slice (some ⟨bq,oq,none⟩) (ki au).length cpq),(18,ab ((ki au).length:Int)),(19,ab (i:Int)),(30,.slice a8 (oX ns sb).length OM),(31,ab ((oX ns sb).length:Int)),(32,ab (p.1:Int))]) (λp=>[]) (λp=>[wr,wq,W]) (λp=>dD hM p.2 (hI (qL ns au i++Jp ns i sb p.1) p.2)) (λp=>p.1<=(oX ns sb).length/\∀k,p.2 k->V k\/wr.heap.size<=k) (λp=>(oX ns sb).length-p.1) (0,V) ⟨cY _,λ_ h=>.inl h⟩ zR rfl (by rw[Fi,ee]) zJ ?_
  rintro⟨j,V1⟩ ⟨hj,uU⟩;dsimp only at hj uU ⊢;have Zg:∀k,V1 k->W.heap.size<=k:=λk hk=>by rcases uU k hk with h|h;(have:=hV k h;omega);omega
  refine aG 6 ?_ ?_
  ·intro aR;refine B 5 ?_;obtain⟨bn,on,csn,tn,OA,rfl,mX,ais,ait⟩:=vd.get aa;obtain⟨n,yZ⟩:=ng (oX ns sb) j aa;have aiu:=B6 _ rfl;dsimp only at aiu;refine B 2 ?_;refine rv rfl rfl rfl (ar (v:=ab n) isAgg3 rfl A0 ais (λhx=>by rcases hx with hx|hx;(have:=(hM _ hx).1;omega);(rcases uU _ hx with h|h;(have:=hVr _ h;omega);omega)) trivial (by have:=nJ (enc:=λx=>(az x).toArray) (n:=1) ait yZ rfl zA;simpa[az]using this)) ?_;refine B 9 ?_;refine YX (λ_=>False) id Zh (V:=V1) (λV=>hI ((qL ns au i++Jp ns i sb j)++[((i:Int)+1,n)]) V) hX Zg rfl rfl rfl rfl (λW1 hw1 lI=>hy (qL ns au i++Jp ns i sb j) ((i:Int)+1,n) V1 W1 (by rw[jh,<-n1l yZ];exact Lb Vm aa (Ld ns i sb (j+1))) hw1 lI) ?_ ?_
   ·intro V2 lK wY;have RK:=wY wr A0;refine B 11 ?_;refine PJ.again (j+1,V2) ⟨by dsimp only;omega,λk hk=>by rcases RK k hk with h|h;(exact uU k h);exact .inr h⟩ zW zR rfl (by rw[n1l yZ,<-jh];rfl) zJ
   intro V2 lK wY;have RK:=wY wr A0;refine B 13 ?_;exact BP (.inl rfl) results260 A2 (λk hk=>by rcases RK k hk with h|h;(exact Zg k h);omega) (by intro k hk hx;simp at hx) (λA hA=>.inr hA)
  intro aR;refine B 10 ?_;refine PJ.again (i+1,V1) ⟨by dsimp only;omega,λk hk=>by rcases uU k hk with h|h;(exact hV k h);omega⟩ zW zR rfl (by rw[nQm ns au Vm,Lc ns i sb aa]) zJ
 intro av;refine B 4 ?_;exact BP (.inr rfl) results260 A1 (λk hk=>by have:=hV k hk;omega) (by intro k hk hx;simp at hx) (λA hA=>.inl ⟨qL ns au i,by unfold lu;rw[show i=9 by omega],hA⟩)
def tK (p:Int×Int):List Value:=[ab p.2,ab p.1,ab 0,ak]
def RL (p:Int×Int):Array Value:=#[ab p.2,ab p.1,ab 0,ak]
theorem VY(p:Int×Int):(tK p).length=4:=rfl
theorem Le(p:Int×Int):∀u∈tK p,u.oneCell'=true:=by intro u hu;simp[tK]at hu;rcases hu with rfl|rfl|rfl|rfl<;>rfl
theorem Lf:prog.info? 110=some Tryz.t110:=by kernel_rfl
theorem Zi:jN prog 56 110 4:=⟨underlying56,Tryz.t110,.agg #[ab 0,ab 0,ab 0,ak],Lf,rfl,rfl,rfl,by decide⟩
noncomputable def xZ (g:Gp) (au:Int) (l:List Ch):Bool:=jP l&&lU g au l
noncomputable def gE (g:Gp) (au:Int) (l:List Ch):List (Int×Int):=if dX g=true/\xZ g au l=true then lu (aN g.ns l) au else[]
noncomputable def fk (g:Gp) (au:Int) (l:List Ch):Int:=if dX g=true then(if xZ g au l=true then 0 else 221)else 1
theorem Zj(h:jP l=true):(∀x∈l,dd x.dev)/\l.length<=64:=⟨λx hx=>by obtain⟨i,hi⟩:=jG.1 hx;exact((OS.1 h).1 i x (nq hi) hi).1.2,(OS.1 h).2⟩
theorem nCj(ta:Option Addr)(n tc:Nat)(au:Int)(w:World):Calls prog 198 #[.agg #[.slice ta n tc],ab au] w (cZ w (λq:Nat×Nat=>.func (.func 260) #[] #[ptr q.1 0,ptr q.2 0]) (λq w1=>w.heap.size<=q.1/\w.heap.size<=q.2/\w1.heap[q.1]? =some (oC #[ab au] 3)/\w1.heap[q.2]? =some (oC #[.slice ta n tc] 51))):=by
 refine eN func198 ntmps198 ?_;refine cH 2 ?_;intro b2 w2 dw bX fB dJ dH;refine yX ?_;intro b3 w3 dA cX fT eC ff;refine B 10 ?_;refine sQ (b3,b2) results198 rfl A2 rfl ?_;exact λW hS=>⟨by have:=eC.2.1;omega,by have:=dJ.1;omega,hS.old A0 dA cX trivial,hS.old A1 dw bX trivial⟩
section
variable (G:Gv)(N:Nat)(w:World)(hN:N<=w.heap.size)(hG:cj N w G)(l:List Ch)(hxl:l.length<=1000000)(a:Option Addr)(cp:Nat)(aH:ai gK 5 N w a l)(au:Int)
include hN hG hxl cp aH
theorem nkj(hv:dX G.g=false):Calls prog 134 #[.agg (bF G),ab au,.slice a l.length cp] w (aD w tK 4 110 [] (λs=>.tuple #[s,ab 1])):=by
 refine eN func134 ntmps134 ?_;refine cH 2 ?_;intro b3 w3 dA cX fT eC ff;refine bH 1 ?_;intro b6 ky ri;refine aE 6 (.agg (bF G)) ?_;refine zwe ?_;refine B 11 ?_;exact zMg
theorem nzn(hv:dX G.g=true)(hf:jP l=false):Calls prog 134 #[.agg (bF G),ab au,.slice a l.length cp] w (aD w tK 4 110 [] (λs=>.tuple #[s,ab 221])):=by
 refine eN func134 ntmps134 ?_;refine cH 2 ?_;intro b3 w3 dA cX fT eC ff;refine bH 1 ?_;intro b6 ky ri;refine Zk ?_;refine B 9 ?_;refine zfe ?_;refine rq bZ (kq rfl) (by rw[hf];rfl) ?_;refine B 18 ?_;exact zMg
theorem nai(hv:dX G.g=true)(hf:jP l=true)(hp:lU G.g au l=false):Calls prog 134 #[.agg (bF G),ab au,.slice a l.length cp] w (aD w tK 4 110 [] (λs=>.tuple #[s,ab 221])):=by
 refine eN func134 ntmps134 ?_;refine cH 2 ?_;intro b3 w3 dA cX fT eC ff;refine bH 1 ?_;intro b6 ky ri;refine zpf ?_;refine aE 1 (.agg (bF G)) ?_;refine B 2 ?_;refine zRe ?_;refine rq bZ (kq rfl) (by rw[hp];rfl) ?_;refine B 12 ?_;exact zMg
theorem n0p(tD:dd au)(hv:dX G.g=true)(hf:jP l=true)(hp:lU G.g au l=true):Calls prog 134 #[.agg (bF G),ab au,.slice a l.length cp] w (aD w tK 4 110 (lu (aN G.g.ns l) au) (λs=>.tuple #[s,ab 0])):=by
 obtain⟨lq,AM⟩:=Zj hf;have Vu:=hG.nn;have La:=OT l G.g.ns;obtain⟨T,hT⟩:∃T,aN G.g.ns l=T:=⟨_,rfl⟩;rw[hT]at La ⊢;have wZ:=Fh T au;refine Qk Gh.no [] (vs:=[_,_,_]) func134 rfl ntmps134 rfl (JU w) ?_;refine cH 2 ?_;intro b3 w3 dA cX fT eC ff;refine bH 1 ?_;intro b6 ky ri;refine zpf ?_;refine aE 1 (.agg (bF G)) ?_;refine B 2 ?_;refine zRe ?_;refine rq bG (kq rfl) (by rw[hp];rfl) ?_;refine aE 9 (.agg (bF G)) ?_;refine B 1 ?_;refine nv (α:=Option Addr×Nat) (v:=λq=>.agg #[.slice q.1 T.length q.2]) (Φ:=λW q w1=>ai fV 2 w1.heap.size w1 q.1 T/\∀b off,q.1=some ⟨b,off,none⟩->T=[]\/b<N\/W.heap.size<=b) call140 rfl rfl rfl (λW hS=>by rw[<-hT];exact nzc G N W cJ (hG.up (aj _) hS.sm) l hxl a cp (aH.up (aj _) hS.sm) AM lq) ?_;rintro Wr ⟨ta,tc⟩ wr VX hBr ⟨sW,iC⟩;dsimp only at sW iC ⊢;have hUr:=VX.under;replace hUr:=yg hUr;have rX:=hBr.size;have apl:=(VX.links w A1).size;refine B 1 ?_;refine nv (α:=Nat×Nat) (v:=λq:Nat×Nat=>.func (.func 260) #[] #[ptr q.1 0,ptr q.2 0]) (Φ:=λW q w1=>W.heap.size<=q.1/\W.heap.size<=q.2/\w1.heap[q.1]? =some (oC #[ab au] 3)/\w1.heap[q.2]? =some (oC #[.slice ta T.length tc] 51)) call198 rfl rfl rfl (λW hS=>nCj ta _ tc au W) ?_;rintro Wn q wn tM AS ⟨xX,uB,E8,E9⟩;try dsimp only at xX uB E8 E9
 have Rs:=(bA.1 E8).1;have Rt:=(bA.1 E9).1;have VZ:=AS.size;have apm:=(tM.links wr A0).size;have uC:=tM.under;replace uC:=yg uC;have hOt:∀b off,ta=some ⟨b,off,none⟩->T=[]\/b≠b6:=λb off e=>by rcases iC b off e with h|h|h;(exact .inl h);(exact .inr aa);(exact .inr aa)
 refine B 3 ?_;refine XA (f:=260) (cap:=[ptr q.1 0,ptr q.2 0]) (α:=Int×Int) (enc:=Zb) (Pre:=CW (lu T au)) (Fin:=Is (lu T au)) (RO:=Zc q.1 q.2 T ta) (MI:=λ_=>False) rfl call260 (λW' W2 hS hB=>by have mw:=(hS.links wn A0).size;have Jm:=(hS.links wr A1).size;exact nnn T aa au tD q.1 q.2 W'.heap.size ta tc W2 hB.size ((sW.toG hS A1 (aj _) (λb off e=>(hOt b off e).imp id (λh _=>⟨λhx=>hx,by simp only[bM,and_true];omega⟩))).up (aj _) (λk hk=>hB.block k hk)) (by rw[hB.block q.1 aa];exact hS.old A0 E8 zI zz) (by rw[hB.block q.2 aa];exact hS.old A0 E9 zI zz)) (λ_ _ _ hk=>hk.elim) (λW' hS k hk=>by have mw:=(hS.links wn A0).size;have Jm:=(hS.links wr A1).size;simp only[dL,ft,cd,dV,or_false];rcases hk with rfl|rfl|⟨h0,off,e⟩;(exact⟨by omega,by omega,λh=>h⟩);(exact⟨by omega,by omega,λh=>h⟩);exact⟨by have:=(sW.lt e).resolve_left h0;omega,(hOt _ off e).resolve_left h0,λh=>h⟩) (λ_=>rfl) (λpre G' Hc=>G'=Gh.no/\∃r:Rw,r.Fr Gh.no [wn,wr,w3,w]/\r.Fit 4 pre/\Hc=[(b6,oC #[r.val pre.length] 56)]++(r.hp tK 110 pre++[])) (λ_ _ _=>False) ⟨rfl,.nil,True.intro,rfl,rfl⟩ zA ?_ ?_ ?_
 ·rintro pre x G' Hc l Dk rec W1 M V Wy p7 xN eK ⟨rfl,r,aM,ae,rfl⟩ jf mm Qm yG dK DS;simp only[ah]at jf yG;have bJ:r.ge wn.heap.size:=Rw.ge_of aM A0;have gj:=eK.length_le;simp only[cO,dO,fO]at gj;have EF:∀p∈r.hp tK 110 pre,M p.1\/V p.1:=λp hp=>dK.loc.h p VC;refine B 8 ?_;refine Om p7 ?_;refine aE 5 (.agg #[ab x.2,ab x.1,ab 0,ak]) ?_;refine kp underlying56 sizeOf110 zeroValue110 rfl rfl rfl rfl rfl rfl rfl ?_;refine yW ?_;intro fG jR aix;refine kz (r:=r) (xs:=pre) (zs:=[x]) (enc:=tK) (m:=4) (H0:=[(fG,oC #[ab x.2,ab x.1,ab 0,ak] 110),(b6,oC #[r.val pre.length] 56)]) (H1:=(l,.loop {rec with state:=.busy})::ji Dk) zX Zi VY rfl rfl rfl rfl (cD.one (z:=x) VY Le underlying56 (bE.own (i:=0) rfl)) ae (Rw.Fr_ext EF) zJ y9 ?_;intro ot iv iW lW iG;replace lW:=yb lW;refine B 3 ?_;refine qF ?_;refine JW (G2:=Gh.no) (Hc2:=[(b6,oC #[(Rw.row ot iv iW).val (pre++[x]).length] 56)]++((Rw.row ot iv iW).hp tK 110 (pre++[x])++[])) dK mm ⟨λ_ h=>h,λ_ h=>.inl h,λ_ h=>.inl h,(VD rfl (lW.imp id (λh=>h.1))),zTc⟩ (JX p7 xN) ?_;exact⟨rfl,.row ot iv iW,lW.elim (λh=>Rw.Fr_at aM h) (λh=>.inr h.2),iG,rfl⟩
 ·rintro qB l Dk rec G' Hc rfl jf mm ⟨rfl,r,aM,ae,rfl⟩;replace jf:=yb jf;have bJ:r.ge wn.heap.size:=Rw.ge_of aM A0;refine QZ λWd yF=>?_;have mX:=VE yF;refine B 5 ?_;refine jO (i:=0) rfl sizeOf56 rfl rfl rfl (Rw.val_size _ _) rfl (Rw.val_one _ _) ?_;refine B 4 ?_;have hq:=λ(k:Nat)=>Rw.mem_ge (enc:=tK) (t:=110) (xs:=lu T au) (k:=k) bJ;refine PJ.reH (H':=(b6,oC #[r.val (lu T au).length] 56)::(r.hp tK 110 (lu T au)++(l,.loop rec)::ji Dk)) VF ?_;refine EG (b:=b6) (r:=r) (xs:=lu T au) (.inl rfl) results134 isAgg56 rfl rfl zJ A0 (mX _ A0).1 rfl ae (λp hp=>⟨.tail _ (aY.2 (.inl hp)),(mX p (aY.2 (.inr (aY.2 (.inl hp))))).1⟩) (Rw.ge_of aM A3) (λW H' hS aW=>(hS.links w A3).below λk hk hx=>?_);exact Yr
 exact Qo
theorem nBb(tD:dd au):Calls prog 134 #[.agg (bF G),ab au,.slice a l.length cp] w (aD w tK 4 110 (gE G.g au l) (λs=>.tuple #[s,ab (fk G.g au l)])):=by
 cases hv:dX G.g with
 |false=>rw[show gE G.g au l=[] by simp[gE,hv],show fk G.g au l=1 by simp[fk,hv]];exact nkj G N w hN hG l hxl a cp aH au hv
 |true=>cases hf:jP l with
  |false=>rw[show gE G.g au l=[] by simp[gE,xZ,hf],show fk G.g au l=221 by simp[fk,xZ,hv,hf]];exact nzn G N w hN hG l hxl a cp aH au hv hf
  |true=>cases hp:lU G.g au l with
   |false=>rw[show gE G.g au l=[] by simp[gE,xZ,hp],show fk G.g au l=221 by simp[fk,xZ,hv,hp]];exact nai G N w hN hG l hxl a cp aH au hv hf hp
   |true=>rw[show gE G.g au l=lu (aN G.g.ns l) au by simp[gE,xZ,hv,hf,hp],show fk G.g au l=0 by simp[fk,xZ,hv,hf,hp]];exact n0p G N w hN hG l hxl a cp aH au tD hv hf hp
end
structure Dh where
 u:Int
 ba:Option Addr
 bc:Nat
 body:List UInt8
def wrA (x:Dh):Array Value:=#[ab x.u,.slice x.ba x.body.length x.bc]
structure Bx where
 node:Int
 level:Int
 w:Dh
def tN (x:Bx):Array Value:=#[ab x.node,ab x.level,ab x.w.u,.slice x.w.ba x.w.body.length x.w.bc]
structure We where
 dev:Int
 w:Dh
def vj (x:We):Array Value:=#[ab x.dev,ab x.w.u,.slice x.w.ba x.w.body.length x.w.bc]
structure Cm where
 folder:Int
 epoch:Int
 par:Nat->Int
 author:Int
 chs:List Ch
 ca:Option Addr
 cc:Nat
 path:List Int
 pa:Option Addr
 pc:Nat
 bxs:List Bx
 ba:Option Addr
 bc:Nat
 wes:List We
 wa:Option Addr
 wc:Nat
 conf:Nat->Int
 sr:Int
 ss:Int
def cM (c:Cm):Array Value:=(ab c.folder::ab c.epoch::lJ c.par (ab c.author:: .slice c.ca c.chs.length c.cc:: .slice c.pa c.path.length c.pc:: .slice c.ba c.bxs.length c.bc:: .slice c.wa c.wes.length c.wc::lJ c.conf [ab c.sr,ab c.ss])).toArray
def vk (N:Nat) (w:World) (x:Dh):Prop:=x.body=[]\/∃b off,x.ba=some ⟨b,off,none⟩/\b<N/\cx w b off x.body
theorem vk.up{N':Nat}{w':World}{x:Dh}(h:vk N w x)(hN:N<=N')(hw:∀k,k<N->w'.heap[k]? =w.heap[k]?):vk N' w' x:=by
 exact z1h
structure dB (N:Nat) (w:World) (c:Cm):Prop where
 chs:ai gK 5 N w c.ca c.chs
 path:ai encI 1 N w c.pa c.path
 bxs:ai tN 4 N w c.ba c.bxs
 wes:ai vj 3 N w c.wa c.wes
 bb:∀x∈c.bxs,vk N w x.w
 wb:∀x∈c.wes,vk N w x.w
structure qe (c:Cm):Prop where
 bp:eu c.par
 bf:eu c.conf
 chs:c.chs.length<=10
 path:c.path.length<=12
 bxs:c.bxs.length<=40
 wes:c.wes.length<=10
 bb:∀x∈c.bxs,x.w.body.length<=200
 wb:∀x∈c.wes,x.w.body.length<=200
variable {c:Cm}
theorem dB.up{N':Nat}{w':World}(h:dB N w c)(hN:N<=N')(hw:∀k,k<N->w'.heap[k]? =w.heap[k]?):dB N' w' c:=⟨h.chs.up hN hw,h.path.up hN hw,h.bxs.up hN hw,h.wes.up hN hw,λx hx=>(h.bb x hx).up hN hw,λx hx=>(h.wb x hx).up hN hw⟩
def Cg (x:Dh):Prop:=eg x.u/\16<=x.body.length/\x.body.length<=65552
open Classical in
noncomputable def zo (x:Dh):Int:=if Cg x then 0 else 90
theorem nw{x:Dh}:zo x=0↔Cg x:=by unfold zo;split<;>simp_all
theorem Zl{x:Dh}(h:¬Cg x):ab 90=ab (zo x):=by unfold zo;rw[if_neg h]
theorem npj{x:Dh}(h:Cg x):ab 0=ab (zo x):=by unfold zo;rw[if_pos h]
def qf {α:Type} (p:Nat->α->Prop) (xs:List α) (j:Nat):Prop:=∀i x,i<j->xs[i]? =some x->p i x
theorem qf.next{α:Type}{p:Nat->α->Prop}{xs:List α}{x:α}(h:qf p xs j)(hx:xs[j]? =some x)(hp:p j x):qf p xs (j+1):=by
 exact zfi
theorem qf.all{α:Type}{p:Nat->α->Prop}{xs:List α}(h:qf p xs j)(hj:¬j<xs.length):∀i x,xs[i]? =some x->p i x:=λi x hx=>h i x VJ hx
def Zm (x:Bx):Prop:=(1<=x.node/\x.node<1024/\1<=x.level/\x.level<=9)/\Cg x.w
def Zn (l:List We) (i:Nat) (x:We):Prop:=dd x.dev/\(∀y,0<i->l[i-1]? =some y->y.dev<x.dev)/\Cg x.w
structure CkP (c:Cm):Prop where
 fo:qK c.folder
 e1:1<=c.epoch
 e2:c.epoch<=1099511627776
 au:dd c.author
 ch:jP c.chs=true
 pl:c.path.length=10
 bl:c.bxs.length<=1024
 wl:c.wes.length<=512
 path:∀(i:Nat) x,c.path[i]? =some x->eg x
 box:∀(i:Nat) x,c.bxs[i]? =some x->Zm x
 wel:∀i x,c.wes[i]? =some x->Zn c.wes i x
open Classical in
noncomputable def sX (c:Cm):Int:=if CkP c then 0 else 220
theorem OV:sX c=0↔CkP c:=by unfold sX;split<;>simp_all
theorem Lg(c:Cm):sX c=0\/sX c=220:=by unfold sX;split<;>simp
theorem nb(h:¬CkP c):ab 220=ab (sX c):=by unfold sX;rw[if_neg h]
theorem nqb(h:CkP c):ab 0=ab (sX c):=by unfold sX;rw[if_pos h]
theorem nBe(x:Dh)(w:World):Calls prog 71 #[.agg (wrA x)] w (aP w (ab (zo x))):=by
 obtain⟨e,he⟩:∃e,(if eg x.u then(0:Int)else 40)=e:=⟨_,rfl⟩;have Jn:=Y0 x.u;rw[he]at Jn;refine eN func71 ntmps71 ?_;refine cH 2 ?_;intro b1 w1 hb1 cK gS fX jK;refine B 16 ?_;refine zVd ?_;refine B 2 ?_;refine ni (t:=11) rfl (λav=>?_) (λav=>?_)
 ·replace av:=ya av;refine B 17 ?_;exact zzg
 replace av:=ya av;refine B 4 ?_;refine ni (t:=15) rfl (λaR=>?_) (λaR=>?_)
 ·replace aR:=ya aR;refine B 13 ?_;exact zzg
 replace aR:=ya aR;refine aG 5 ?_ ?_
 ·intro dm;refine B 7 ?_;exact zzg
 intro dm;refine B 8 ?_;exact zzg
theorem nvb(c:Cm)(qg:qe c)(N:Nat)(w:World)(hN:N<=w.heap.size)(hC:dB N w c):Calls prog 149 #[.agg (cM c)] w (aP w (ab (sX c))):=by
 have AN:=qg.chs;have yU:=qg.path;have QF:=qg.bxs;have V4:=qg.wes;have zp:=hC.chs;have pF:=hC.path;have RM:=hC.bxs;have Lh:=hC.wes;refine eN func149 ntmps149 ?_;refine cH 2 ?_;intro b1 w1 hb1 cK gS fX jK;refine B 8 ?_;refine call call217 rfl rfl rfl (λW hS=>nPl _ W) ?_;refine B 2 ?_;refine ni (t:=13) rfl (λav=>?_) (λav=>?_)
 ·replace av:=ya av;refine B 49 ?_;exact Jq
 replace av:=ya av;refine B 5 ?_;refine ni (t:=18) rfl (λaR=>?_) (λaR=>?_)
 ·replace aR:=ya aR;refine B 44 ?_;exact Jq
 replace aR:=ya aR;refine B 5 ?_;refine ni (t:=23) rfl (λdm=>?_) (λdm=>?_)
 ·replace dm:=ya dm;refine B 39 ?_;exact Jq
 replace dm:=ya dm;refine B 2 ?_;refine call call222 rfl rfl rfl (λW hS=>VN _ W) ?_;refine B 3 ?_;refine ni (t:=29) rfl (λje=>?_) (λje=>?_)
 ·replace je:=ya je;refine B 33 ?_;exact Jq
 replace je:=ya je;refine B 2 ?_;refine call call196 rfl rfl rfl (λW hS=>nSc c.chs aa N c.ca c.cc W cJ (hC.chs.up (aj _) hS.sm)) ?_;refine B 3 ?_;refine ni (t:=35) rfl (λib=>?_) (λib=>?_)
 ·replace ib:=ya ib;refine B 27 ?_;exact Jq
 replace ib:=ya ib;refine B 6 ?_;refine ni (t:=41) rfl (λkX=>?_) (λkX=>?_)
 ·replace kX:=ya kX;refine B 21 ?_;exact Jq
 replace kX:=ya kX;refine B 6 ?_;refine ni (t:=47) rfl (λjW=>?_) (λjW=>?_)
 ·replace jW:=ya jW;refine B 15 ?_;exact Jq
 replace jW:=ya jW;refine aG 7 ?_ ?_
 ·intro DO;refine B 7 ?_;exact Jq
 intro DO;refine B 12 ?_;refine CJ.lp (α:=Nat) [1,55] (λj=>[(54,.slice c.pa c.path.length c.pc),(56,ab (j:Int))]) (λj=>[]) (λj=>j<=c.path.length/\qf (λ_ x=>eg x) c.path j) (λj=>c.path.length-j) 0 ⟨cY _,λi x hi=>absurd hi aa⟩ ?_;rintro j ⟨hj,dP⟩;refine aG 6 ?_ ?_
 ·intro ph;refine B 5 ?_;obtain⟨bo,oo,cs0,to,fC,eZ,fE,bW,aS⟩:=pF.get aa;obtain⟨y,hy⟩:=ng c.path j aa;rw[eZ];obtain⟨e,he⟩:∃e,(if eg y then(0:Int)else 40)=e:=⟨_,rfl⟩;have Jn:=Y0 y;rw[he]at Jn;refine B 2 ?_;refine rv rfl rfl rfl (ar (v:=ab y) isAgg3 rfl A1 bW zI trivial (by have:=nJ aS hy rfl zA;simpa[encI]using this)) ?_;refine B 6 ?_;refine zVd ?_;refine aG 3 ?_ ?_
  ·intro rE;refine B 11 ?_;exact Jq
  intro rE;refine B 7 ?_;refine ag (j+1) ⟨by omega,dP.next hy (Jn.1 aa)⟩
 intro ph;refine B 15 ?_;have hA1:=dP.all aa;refine CJ.lp (α:=Nat) [1,66] (λj=>[(65,.slice c.ba c.bxs.length c.bc),(67,ab (j:Int))]) (λj=>[]) (λj=>j<=c.bxs.length/\qf (λ_ x=>Zm x) c.bxs j) (λj=>c.bxs.length-j) 0 ⟨cY _,λi x hi=>absurd hi aa⟩ ?_;rintro j ⟨hj,dP⟩;refine aG 6 ?_ ?_
 ·intro mC;refine B 5 ?_;obtain⟨bo,oo,cs0,to,fC,eZ,fE,bW,aS⟩:=RM.get aa;obtain⟨x,hx⟩:=ng c.bxs j aa;rw[eZ];refine aE 2 (.agg (tN x)) ?_;refine bH 1 ?_;intro b6 ky ri;refine B 9 ?_;refine ni (t:=74) rfl (λkg=>?_) (λkg=>?_)
  ·replace kg:=ya kg;refine B 34 ?_;exact RN
  replace kg:=ya kg;refine B 5 ?_;refine ni (t:=79) rfl (λmD=>?_) (λmD=>?_)
  ·replace mD:=ya mD;refine B 29 ?_;exact RN
  replace mD:=ya mD;refine B 5 ?_;refine ni (t:=84) rfl (λuS=>?_) (λuS=>?_)
  ·replace uS:=ya uS;refine B 24 ?_;exact RN
  replace uS:=ya uS;refine B 5 ?_;refine ni (t:=89) rfl (λpj=>?_) (λpj=>?_)
  ·replace pj:=ya pj;refine B 19 ?_;exact RN
  replace pj:=ya pj;refine aE 1 (.agg (wrA x.w)) ?_;refine call call71 rfl rfl rfl (λW hS=>nBe x.w W) ?_;refine aG 4 ?_ ?_
  ·intro DP;exact zxi
  intro DP;refine xW ?_;refine ag (j+1) ⟨by omega,dP.next hx ⟨by omega,nw.1 aa⟩⟩
 intro mC;refine B 15 ?_;have Zo:=dP.all aa;refine CJ.lp (α:=Nat) [1,98] (λj=>[(97,.slice c.wa c.wes.length c.wc),(99,ab (j:Int))]) (λj=>[]) (λj=>j<=c.wes.length/\qf (Zn c.wes) c.wes j) (λj=>c.wes.length-j) 0 ⟨cY _,λi x hi=>absurd hi aa⟩ ?_;rintro j ⟨hj,dP⟩;refine aG 6 ?_ ?_
 ·intro RP;refine B 5 ?_;obtain⟨bo,oo,cs0,to,fC,eZ,fE,bW,aS⟩:=Lh.get aa;obtain⟨x,hx⟩:=ng c.wes j aa;rw[eZ];refine aE 3 (.agg (vj x)) ?_;refine bH 1 ?_;intro b8 CZ Jc;refine B 5 ?_;by_cases h1:¬dd x.dev
  ·refine eA 17 (pb:=by exact zU 2 (k:=by exact aJ (nf call222 rfl rfl (λW hS _=>by have h9:=VN x.dev W;rw[decide_eq_false h1]at h9;exact h9) (λ_=>rfl)) zT)) (sp:=(_::_::(some (bG))::(some bZ)::_)) (k:=?_);refine B 23 ?_;exact RN
  by_cases h2:j=0
  ·refine eA 17 (pb:=by exact zU 2 (k:=by exact aJ (nf call222 rfl rfl (λW hS _=>by have h9:=VN x.dev W;rw[decide_eq_true (Classical.not_not.1 h1)]at h9;exact h9) (λ_=>rfl)) zT)) (sp:=(_::_::(some (bZ))::(some bG)::_::_::(some bG)::_)) (k:=?_);refine B 5 ?_;refine zXe ?_;refine aG 4 ?_ ?_
   ·intro RQ;exact zxi
   intro RQ;exact z5g
  obtain⟨y,hy⟩:=ng c.wes (j-1) aa;by_cases h3:x.dev<=y.dev
  ·refine eA 17 (pb:=by exact zU 2 (k:=by exact aJ (nf call222 rfl rfl (λW hS _=>by have h9:=VN x.dev W;rw[decide_eq_true (Classical.not_not.1 h1)]at h9;exact h9) (λ_=>rfl)) (zU 6 (k:=by exact aJ (X.v (RV.re (v':=.slice (some ⟨bo,oo,none⟩) c.wes.length c.wc) (ar isAgg57 rfl A0 hb1 cK zz rfl) (congrArg (λq=>Value.slice q c.wes.length c.wc) eZ))) (zU 4 (k:=by exact aJ (X.v (ar (v:=ab y.dev) isAgg3 rfl A1 bW zI zz (by have:=vh (i:=(j:Int)-1) aS hy aa 0 zA;simpa[vj]using this))) zT)))))) (sp:=(_::_::(some (bZ))::(some bG)::_::_::(some bZ)::_)) (k:=?_);refine dp bZ ?_;refine B 22 ?_;exact RN
  refine eA 17 (pb:=by exact zU 2 (k:=by exact aJ (nf call222 rfl rfl (λW hS _=>by have h9:=VN x.dev W;rw[decide_eq_true (Classical.not_not.1 h1)]at h9;exact h9) (λ_=>rfl)) (zU 6 (k:=by exact aJ (X.v (RV.re (v':=.slice (some ⟨bo,oo,none⟩) c.wes.length c.wc) (ar isAgg57 rfl A0 hb1 cK zz rfl) (congrArg (λq=>Value.slice q c.wes.length c.wc) eZ))) (zU 4 (k:=by exact aJ (X.v (ar (v:=ab y.dev) isAgg3 rfl A1 bW zI zz (by have:=vh (i:=(j:Int)-1) aS hy aa 0 zA;simpa[vj]using this))) zT)))))) (sp:=(_::_::(some (bZ))::(some bG)::_::_::(some bZ)::_)) (k:=?_);refine dp bG ?_;refine B 4 ?_;refine zXe ?_;refine aG 4 ?_ ?_
  ·intro zq;exact zxi
  intro zq;exact z5g
 intro RP;refine B 11 ?_;exact Jq
abbrev qM (l:List UInt8):ByteArray:=strOfNums (l.map λu=>(u.toNat:Int))
theorem Fj(l:List UInt8):(qM l).size=l.length:=by rw[strOfNums_size,eO]
def gF (N:Nat) (w:World) (a:Option Addr) (l:List UInt8):Prop:=l=[]\/∃b off,a=some ⟨b,off,none⟩/\b<N/\cx w b off l
theorem nuf{P:Program}(w:World)(src e:Nat)(hs:P.underlying src=some (.slice e))(he:P.underlying e=some (.int .u8))(a:Option Addr)(cap:Nat)(dst:Nat)(hd:P.underlying dst=some .string):(convert src dst (.slice a 0 cap)).run P w= .ok (.string (strOfNums [])) w:=by
 cases a with
 |none=>
  have hr:=run_convert_bytes_nil (P:=P) w src e hs he 0 cap dst hd;rw[hr];rfl
 |some a=>
  have hl:(loadCells a 0).run P w= .ok (([]:List Int).map (Value.int .u8)).toArray w:=by simp[loadCells,loadCellsFrom]
  rw[run_convert_bytes_string w src dst e _ 0 cap hs he hd,run_bytesToString w _ 0 cap [] hl,foldl_push_bytes];simp[strOfNums,ByteArray.empty,ByteArray.emptyWithCapacity];rfl
theorem RR{C:Cx}{G:Gh}{E:Env}{x:Operand}{src dst e c:Nat}{l:List UInt8}{w1:World}(hs:C.P.underlying src=some (.slice e))(he:C.P.underlying e=some (.int .u8))(hd:C.P.underlying dst=some .string)(hx:ev E x=some (.slice a l.length c))(hm:w1∈L)(hb:gF N w1 a l)(hG:∀b,b<N->¬G.X b/\bM H b):RV C G L H E (.convert src dst x) (.string (qM l)):=λd ty pos aC g ac W hF hS=>by
 rcases hb with h1|⟨b,off,h1,h2,cs,t,fr,h3,h4,h5⟩
 ·subst h1;have hr:=nuf (P:=C.P) W src e hs he a c dst hd;simp only[fO]at hx;simp[execOp,hF.ev hx,hr];rfl
 subst h1;have hW:=hS.old hm h3 (hG b h2).1 (hG b h2).2;have hr:=run_convert_bytes_arg (P:=C.P) W src e hs he b off l.length c (l.map λu=>(u.toNat:Int)) zJ (λi hi=>by
  rw[Lj hW,h5 i hi];simp[fU,List.getD,hi]) dst hd
 simp[execOp,hF.ev hx,hr]
theorem nGb(n:Int)(w:World):Calls prog 89 #[ab n] w (aP w (vI n)):=by
 refine eN func89 ntmps89 ?_;refine bH 3 ?_;intro b2 dJ dH;refine B 10 ?_;refine cu (.inl rfl) results89 bB A0 zB ?_;rfl
theorem Zp(l:List UInt8)(N:Nat)(a:Option Addr)(c:Nat)(w:World)(hN:N<=w.heap.size)(hb:gF N w a l):Calls prog 90 #[.slice a l.length c] w (aP w (vT (qM l))):=by
 refine eN func90 ntmps90 ?_;refine bH 3 ?_;intro b2 dJ dH;refine B 5 ?_;refine zpe ?_;refine B 5 ?_;refine cu (.inl rfl) results90 bB A0 zB ?_;rfl
theorem Zq(base:Option Addr)(n c:Nat)(w:World):Calls prog 86 #[.slice base n c] w (aP w (vL base n c)):=by
 refine eN func86 ntmps86 ?_;refine bH 3 ?_;intro b2 dJ dH;refine B 10 ?_;refine cu (.inl rfl) results86 bB A0 zB ?_;rfl
def vl (n:Int):List Value:=[ab 1,ab n,Vp,ak]
theorem ngo(n:Int):(vl n).length=4:=rfl
theorem Lk(n:Int):∀u∈vl n,u.oneCell'=true:=by intro u hu;simp[vl]at hu;rcases hu with rfl|rfl|rfl|rfl<;>rfl
theorem RT:prog.info? 200=some Tryz.t200:=by kernel_rfl
theorem Zr:jN prog 134 200 4:=⟨underlying134,Tryz.t200,.agg #[ab 0,ab 0,Vp,ak],RT,rfl,rfl,rfl,by decide⟩
theorem nOi(xs:List Int)(hxl:xs.length<=1000)(N:Nat)(a:Option Addr)(cp:Nat)(w:World)(hN:N<=w.heap.size)(aH:ai encI 1 N w a xs):Calls prog 88 #[.slice a xs.length cp] w (aD w vl 4 200 xs id):=by
 refine ef 19 func88 ntmps88 ?_;refine CJ.loop (α:=Rw×Nat) (λp=>[(3,p.1.val (xs.take p.2).length),(6,.slice a xs.length cp),(7,ab (xs.length:Int)),(8,ab (p.2:Int))]) (λp=>p.1.hp vl 200 (xs.take p.2)++[]) (λp=>[w]) (λp=>Gh.no) (λp=>p.2<=xs.length/\p.1.Fr Gh.no [w]/\p.1.Fit 4 (xs.take p.2)) (λp=>xs.length-p.2) (.nil,0) ⟨cY _,True.intro,rfl⟩ zR rfl rfl zJ ?_;rintro⟨r,j⟩ ⟨hj,aM,ae⟩;dsimp only at hj aM ae ⊢;have bJ:r.ge w.heap.size:=Rw.ge_of aM A0;refine aG 6 ?_ ?_
 ·intro av;refine B 5 ?_;obtain⟨bo,oo,cs0,to,fC,rfl,fE,bW,aS⟩:=aH.get aa;obtain⟨x,hx⟩:=ng xs j aa;refine B 2 ?_;refine rv rfl rfl rfl (ar (v:=ab x) isAgg3 rfl A0 bW zI zz (by have:=nJ aS hx rfl zA;simpa[encI]using this)) ?_;refine B 6 ?_;refine call call89 rfl rfl rfl (λW hS=>nGb _ W) ?_;refine Zs ?_;refine yW ?_;intro dS Fk Ll;refine kz (r:=r) (xs:=(xs.take j)) (zs:=[x]) (enc:=vl) (m:=4) (H0:=[(dS,oC #[ab 1,ab x,Vp,ak] 200)]) (H1:=[]) zX Zr ngo rfl rfl rfl rfl (cD.one (z:=x) ngo Lk underlying134 (bE.own (i:=0) rfl)) ae aM zJ (by simp only[jM,dO,fO];omega) ?_;intro V5 RU RW zt zu;replace zt:=yb zt;refine B 8 ?_;refine qF ?_;refine PJ.again (Rw.row V5 RU RW,j+1) ⟨by dsimp only;omega,zt.elim (λh=>Rw.Fr_at aM h) (λh=>.inr h),by rw[np hx];exact zu⟩ zW ⟨by rw[np hx];rfl,rfl,rfl,rfl,trivial⟩ (by rw[np hx];rfl) rfl zJ
 intro av;refine B 6 ?_;have cF:xs.take j=xs:=iz aa;rw[cF]at ae ⊢;refine B 6 ?_;exact nQ (H0:=[]) (H1:=[]) (r:=r) (.inl rfl) results88 bB A0 Ys rfl ae (Rw.ge_of aM A0) zJ
abbrev El:=Nat×Nat
def jX (n:Nat) (e:El):List Value:=[ab 3,ab 0,Vp,.slice (ao e.1) n e.2]
theorem OW(n:Nat)(e:El):(jX n e).length=4:=rfl
theorem nph(n:Nat)(e:El):∀u∈jX n e,u.oneCell'=true:=by intro u hu;simp[jX]at hu;rcases hu with rfl|rfl|rfl|rfl<;>rfl
def iX (F:ad) (n:Nat) (es:List El) (ls:List (List V)):Prop:=es.length=ls.length/\∀(i:Nat) (e:El) (l:List V),es[i]? =some e->ls[i]? =some l->l.length=n/\l.all wh=true/\n<=e.2/\∃sp t fr,(e.1,Obj.cells (nM l++sp).toArray t fr)∈F
theorem iX.nil{F:ad}:iX F n [] []:=⟨rfl,λi e l h=>by simp at h⟩
variable {es:List El}
theorem iX.up{F F':ad}(h:iX F n es ls)(hF:∀p∈F,p∈F'):iX F' n es ls:=⟨h.1,λi e l h1 h2=>by
 obtain⟨g1,g2,g3,sp,t,fr,g4⟩:=h.2 i e l h1 h2;exact⟨g1,g2,g3,sp,t,fr,hF _ g4⟩⟩
theorem ngm{α:Type}{xs:List α}{y z:α}(h:(xs++[y])[i]? =some z):xs[i]? =some z\/(i=xs.length/\z=y):=by grind
theorem iX.snoc{F F':ad}{c:Nat}{l:List V}(h:iX F n es ls)(hF:∀p∈F,p∈F')(hl:l.length=n)(hf:l.all wh=true)(hc:n<=c)(hp:(b,Obj.cells (nM l++sp).toArray t fr)∈F'):iX F' n (es++[(b,c)]) (ls++[l]):=by
 refine⟨by simp[h.1],λi e l' h1 h2=>?_⟩;have e1:=h.1;rcases ngm h1 with h1|⟨rfl,rfl⟩
 ·rcases ngm h2 with h2|⟨rfl,rfl⟩
  ·exact(h.up hF).2 i e l' h1 h2
  have:=nq h1;omega
 all_goals grind
theorem nso{N:Nat}{w:World}:∀(l:List V) (ys:List (List Value)) (pre Fl:List Value),l.length=ys.length->(∀(i:Nat) (x:V) (y:List Value),l[i]? =some x->ys[i]? =some y->y.length=4/\fu N w x (.agg y.toArray))->gT N w (pre++(ys.flatten++Fl)).toArray pre.length l
 | [],_,pre,Fl,_,_=>by simp[gT]
 |x::l,[],pre,Fl,hl,_=>by simp at hl
 |x::l,y::ys,pre,Fl,hl,h=>by
  obtain⟨h1,h2⟩:=h 0 x y rfl rfl;have ih:=nso (N:=N) (w:=w) l ys (pre++y) Fl K7 (λi x' y' hx hy=>h (i+1) x' y' (by simpa using hx) (by simpa using hy));have e:pre++y++(ys.flatten++Fl)=pre++((y::ys).flatten++Fl):=by simp
  rw[e]at ih;simp only[gT];have hc:cut (pre++((y::ys).flatten++Fl)).toArray pre.length 4=y.toArray:=by
   unfold cut;simp only[List.flatten_cons,jh];rw[List.drop_left,<-h1,List.take_left]
  refine⟨?_,by rw[hc];exact h2,?_⟩
  ·simp only[rh,cO,List.flatten_cons];omega
  rw[cO,h1]at ih;exact ih
theorem nSm{α:Type}{enc:α->List Value}{xs:List α}{l:List V}{r:Rw}(hl:l.length=xs.length)(he:∀(i:Nat) (x:α) (y:V),xs[i]? =some x->l[i]? =some y->(enc x).length=4/\fu N w y (.agg (enc x).toArray))(hr:∀p∈r.hp enc t xs,p.1<N/\w.heap[p.1]? =some p.2)(hf:r.Fit 4 xs):fu N w (.list l) (.agg (dQ (r.val xs.length))):=by
 simp only[fu];cases r with
 |nil=>
  have h0:xs=[]:=hf;subst h0;have h1:l=[]:=my K7;subst h1;exact⟨none,0,rfl,aj _,.inl rfl⟩
 |row b cap sp=>
  obtain⟨f1,f2⟩:=hf;obtain⟨g1,g2⟩:=hr (b,bj enc t xs sp) oV;refine⟨some ⟨b,0,none⟩,cap,by rw[hl];rfl,by omega,.inr ⟨b,_,t,(0,0),rfl,g1,g2,?_⟩⟩;have h2:=nso (N:=N) (w:=w) l (xs.map enc) [] sp K7 (λi x y hx hy=>by
   rw[mY]at hy;cases OY:xs[i]? with
   |none=>rw[OY]at hy;cases hy
   |some z=>rw[OY]at hy;cases hy;exact he i z x OY hx)
  simpa[iB,List.flatMap]using h2
theorem iX.vat{F:ad}{r:Rw}(h:iX F n es ls)(hw:∀p∈F,p.1<N/\w.heap[p.1]? =some p.2)(hr:∀p∈r.hp (jX n) t es,p∈F)(hf:r.Fit 4 es):fu N w (.list (ls.map V.list)) (.agg (dQ (r.val es.length))):=
 nSm (by rw[eO];exact h.1.symm) (λi e y hx hy=>⟨rfl,by
  rw[mY]at hy;cases hl:ls[i]? with
  |none=>rw[hl]at hy;cases hy
  |some l=>
   rw[hl]at hy;cases hy;obtain⟨g1,g2,g3,sp,t',fr,g4⟩:=h.2 i e l hx hl;obtain⟨k1,k2⟩:=hw _ g4;have:=KA (cap:=e.2) g2 k1 aa k2;rw[g1]at this;exact this⟩) (λp hp=>hw p (hr p hp)) hf
theorem Fm{xs:List Int}{r:Rw}(hr:∀p∈r.hp vl t xs,p.1<N/\w.heap[p.1]? =some p.2)(hf:r.Fit 4 xs):fu N w (.list (xs.map V.int)) (.agg (dQ (r.val xs.length))):=
 nSm zJ (λi x y hx hy=>⟨rfl,by rw[mY,hx]at hy;cases hy;simp only[fu];rfl⟩) hr hf
def Ci (x:Ch):List V:=[.int x.kind,.int x.dev,.int x.pub,.int x.ver,.int x.cut]
def vm (x:Bx):List V:=[.int x.node,.int x.level,.int x.w.u,.text (qM x.w.body)]
def vn (x:We):List V:=[.int x.dev,.int x.w.u,.text (qM x.w.body)]
def ou (c:Cm):List V:=[.int c.folder,.int c.epoch,.text (qM (cI c.par)),.int c.author,.list ((c.chs.map Ci).map V.list),.list (c.path.map V.int),.list ((c.bxs.map vm).map V.list),.list ((c.wes.map vn).map V.list),.text (qM (cI c.conf)),.int c.sr,.int c.ss]
theorem njg{α β:Type}(f:α->β){xs:List α}{x:α}(hx:xs[j]? =some x):(xs.take (j+1)).map f=(xs.take j).map f++[f x]:=by rw[np hx];simp
theorem cx.dgo{off:Nat}{f:Nat->Int}(h:w.heap[b]? =some (.cells cs t fr))(hc:cut cs off 32=Px.dg f)(hs:off+32<=cs.size)(hf:eu f):cx w b off (cI f):=
 ⟨cs,t,fr,h,by rw[nI];exact hs,λi hi=>by
  rw[nI]at hi;rw[Vv f hf i hi,<-rI f i hi,<-hc];unfold cut;rw[<-OZ,<-OZ];simp only[RX hi,RY]⟩
theorem Fp{xs:List Int}(h:W.heap[b]? =some (.cells (xs.map ab).toArray t fr)):ai encI 1 W.heap.size W (ao b) xs:=by
 refine .inr ⟨b,0,_,t,fr,rfl,(bA.1 h).1,h,λi hi=>⟨by simp;omega,?_⟩⟩;all_goals grind [cut,encI]
theorem Jr(N:Nat)(w:World)(n:Int):fu N w (.int n) (vI n):=by simp only[fu]
theorem V6(N:Nat)(w:World)(s:ByteArray):fu N w (.text s) (vT s):=by simp only[fu]
theorem Fq{r:Rw}(W:World):Calls prog 86 #[r.val n] W (aP W (.agg (dQ (r.val n)))):=by cases r<;>exact Zq _ _ _ W
theorem n6l(l:List V){cap:Nat}(hl:l.length<=cap)(h:w.heap[b]? =some (.cells cs t fr))(hb:b<N)(hv:gT N w cs 0 l):fu N w (.list l) (vL (ao b) l.length cap):=by grind [fu]
theorem tO{off:Nat}{x:V}{l:List V}(h1:off+4<=cs.size)(h2:fu N w x (.agg (cut cs off 4)))(h3:gT N w cs (off+4) l):gT N w cs off (x::l):=by
 simp only[gT];exact⟨h1,h2,h3⟩
theorem nNl{off:Nat}:gT N w cs off []:=by simp only[gT]
theorem nS(f:Nat->Int):(cI f).length=32:=nI f
theorem gF.up{N':Nat}{w':World}{l:List UInt8}(h:gF N w a l)(hN:N<=N')(hw:∀k,k<N->w'.heap[k]? =w.heap[k]?):gF N' w' a l:=by
 exact z1h
theorem ndd(c:Cm)(qg:qe c)(N:Nat)(w:World)(hN:N<=w.heap.size)(hC:dB N w c):Calls prog 45 #[.agg (cM c)] w (cZ w (λb:Nat=>.slice (ao b) 11 11) (λb w1=>w.heap.size<=b/\fu w1.heap.size w1 (.list (ou c)) (vL (ao b) 11 11))):=by
 have AN:=qg.chs;have yU:=qg.path;have QF:=qg.bxs;have V4:=qg.wes;have zp:=hC.chs;have pF:=hC.path;have RM:=hC.bxs;have Lh:=hC.wes;refine nB (dF []) [] (vs:=[_]) func45 rfl ntmps45 rfl (Lm w) ?_;refine cH 2 ?_;intro b1 w1 hb1 cK gS fX jK;refine B 5 ?_;refine zme ?_;refine zme ?_;refine zme ?_;refine bH 1 ?_;intro b3 eC ff;refine bH 1 ?_;intro b4 iT iU;refine bH 1 ?_;intro b5 rF rG;refine B 15 ?_;refine CJ.loop (α:=((Rw×List El)×ad)×Nat) (λp=>[(1,ptr b1 0),(3,ptr b3 0),(4,ptr b4 0),(5,ptr b5 0),(16,.slice c.ca c.chs.length c.cc),(17,ab (c.chs.length:Int)),(18,ab (p.2:Int))]) (λp=>[(b5,oC (dQ (ak)) 200),(b4,oC (dQ (ak)) 200),(b3,oC (dQ (p.1.1.1.val p.1.1.2.length)) 200)]++(p.1.1.1.hp (jX 5) 200 p.1.1.2++[])) (λp=>[w1,w]) (λp=>dF p.1.2) (λp=>p.2<=c.chs.length/\p.1.1.1.Fr (dF p.1.2) [w1,w]/\p.1.1.1.Fit 4 p.1.1.2/\iX p.1.2 5 p.1.1.2 ((c.chs.take p.2).map Ci)/\∀q∈([]:ad),q∈p.1.2) (λp=>c.chs.length-p.2) (((.nil,[]),([]:ad)),0) ⟨cY _,True.intro,rfl,iX.nil,λq h=>h⟩ zR rfl rfl zJ ?_;rintro⟨⟨⟨r1,jk⟩,F1⟩,j1⟩ ⟨hj,aM,ae,pK,O0⟩;dsimp only at hj aM ae pK O0 ⊢;have bJ:r1.ge w1.heap.size:=Rw.ge_fz aM A0;have hel:jk.length<=50:=by rw[pK.1,eO,jM];omega
 refine aG 6 ?_ ?_
 ·intro av;refine B 5 ?_;obtain⟨bo,oo,cs0,to,fC,eZ,fE,bW,aS⟩:=zp.get aa;obtain⟨x,hx⟩:=ng c.chs j1 aa;rw[eZ];refine B 2 ?_;refine VU ?_;refine yW ?_;intro b7 kh v7;refine B 3 ?_;refine CJ.less (E':=[(1,_),(3,_),(4,_),(5,_),(7,_),(16,_),(17,_),(18,_),(19,_),(20,_),(21,_)]) zR ?_;refine CJ.chn 16 [12,13,14,15] [_,_,_,_,_,_,_,_,_,_,_,_,none,none,none,none] (λcv L' H'=>let eo:ad:=[(b7,oC (gK x) 99),(b5,oC (dQ (ak)) 200),(b4,oC (dQ (ak)) 200),(b3,oC (dQ (r1.val jk.length)) 200)]++(r1.hp (jX 5) 200 jk++[]);match cv with| []=>L'=[w1,w]/\H'=eo| [v1]=>∃(mT:Nat),v1= .slice (ao mT) 5 5/\L'=[w1,w]/\H'=(mT,oC #[ab x.kind,ab x.dev,ab x.pub,ab x.ver,ab x.cut] 3)::eo/\ah [w1,w] mT| [v1,v2]=>∃(mT:Nat) (bn:Nat) (cn:Nat) (sn:List Value),v1= .slice (ao mT) 5 5/\v2= .slice (ao bn) 5 cn/\L'=[w1,w]/\H'=(bn,bj vl 200 [x.kind,x.dev,x.pub,x.ver,x.cut] sn)::(mT,oC #[ab x.kind,ab x.dev,ab x.pub,ab x.ver,ab x.cut] 3)::eo/\ah [w1,w] mT/\ah [w1,w] bn/\5<=cn| [v1,v2,v3]=>∃(mT:Nat) (bn:Nat) (cn:Nat) (sn:List Value),v1= .slice (ao mT) 5 5/\v2= .slice (ao bn) 5 cn/\v3=vL (ao bn) 5 cn/\L'=[w1,w]/\H'=(bn,bj vl 200 [x.kind,x.dev,x.pub,x.ver,x.cut] sn)::(mT,oC #[ab x.kind,ab x.dev,ab x.pub,ab x.ver,ab x.cut] 3)::eo/\ah [w1,w] mT/\ah [w1,w] bn/\5<=cn| [v1,v2,v3,v4]=>∃(mT:Nat) (bn:Nat) (cn:Nat) (sn:List Value) (ov:Nat),v1= .slice (ao mT) 5 5/\v2= .slice (ao bn) 5 cn/\v3=vL (ao bn) 5 cn/\v4= .slice (ao ov) 1 1/\L'=[w1,w]/\H'=(ov,oC (dQ (.slice (ao bn) 5 cn)) 200)::(bn,bj vl 200 [x.kind,x.dev,x.pub,x.ver,x.cut] sn)::(mT,oC #[ab x.kind,ab x.dev,ab x.pub,ab x.ver,ab x.cut] 3)::eo/\ah [w1,w] mT/\ah [w1,w] bn/\5<=cn/\ah [w1,w] ov|_=>False) (pc X9 (pc V7 (pc Ln (pc V7 (pc Ln (pc V7 (pc Ln (pc V7 (pc Ln (pc V7 (pc Ln (pc V7 (pk (pk (pk (pk (pn))))))))))))))))) ?_ ?_
  ·refine ss rfl ?_ ?_
   ·intro cv L' H' hl hP F Q' hk;obtain rfl:=my hl;obtain⟨rfl,rfl⟩:=hP;refine EL ?_;intro b_ pL iw;exact OJ.done (hk _ _ _ ⟨b_,rfl,rfl,rfl,pL⟩)
   refine ss rfl ?_ ?_
   ·intro cv L' H' hl hP F Q' hk;obtain⟨v1,rfl⟩:=jv hl;obtain⟨mT,rfl,rfl,rfl,lx⟩:=hP;refine Jj (enc:=vl) (m:=4) (t:=200) (xs:=[x.kind,x.dev,x.pub,x.ver,x.cut]) (v:=id) (first:=[]) (cap:=[]) rfl call88 rfl rfl rfl (λW hS=>nOi [x.kind,x.dev,x.pub,x.ver,x.cut] zJ W.heap.size (ao mT) 5 W (aj _) (Fp (xs:=[x.kind,x.dev,x.pub,x.ver,x.cut]) (hS.own _ A0))) ?_;intro r_ V8 iH;obtain⟨b_,c_,s_,rfl⟩:=Rw.row_of iH zJ;exact OJ.done (hk _ _ _ ⟨mT,b_,c_,s_,rfl,rfl,rfl,rfl,lx,V8.elim (λh=>h.elim) id,iH.1⟩)
   refine ss rfl ?_ ?_
   ·intro cv L' H' hl hP F Q' hk;obtain⟨v1,v2,rfl⟩:=rP hl;obtain⟨mT,bn,cn,sn,rfl,rfl,rfl,rfl,lx,hfn,uD⟩:=hP;refine call call86 rfl rfl rfl (λW hS=>Zq (ao bn) 5 cn W) ?_;exact OJ.done (hk _ _ _ ⟨mT,bn,cn,sn,rfl,rfl,rfl,rfl,rfl,lx,hfn,uD⟩)
   refine ss rfl ?_ ?_
   ·intro cv L' H' hl hP F Q' hk;obtain⟨v1,v2,v3,rfl⟩:=py hl;obtain⟨mT,bn,cn,sn,rfl,rfl,rfl,rfl,rfl,lx,hfn,uD⟩:=hP;refine Zs ?_;intro b_ pL iw;exact OJ.done (hk _ _ _ ⟨mT,bn,cn,sn,b_,rfl,rfl,rfl,rfl,rfl,rfl,lx,hfn,uD,pL⟩)
   exact nn
  intro cv L' H' hl hP;obtain⟨v1,v2,v3,v4,rfl⟩:=vo hl;obtain⟨mT,bn,cn,sn,ov,rfl,rfl,rfl,rfl,rfl,rfl,lx,hfn,uD,sY⟩:=hP;refine kz (r:=r1) (xs:=jk) (zs:=[((bn,cn):El)]) (enc:=jX 5) (m:=4) (H0:=[(ov,oC (dQ (.slice (ao bn) 5 cn)) 200),(bn,bj vl 200 [x.kind,x.dev,x.pub,x.ver,x.cut] sn),(mT,oC #[ab x.kind,ab x.dev,ab x.pub,ab x.ver,ab x.cut] 3),(b7,oC (gK x) 99),(b5,oC (dQ (ak)) 200),(b4,oC (dQ (ak)) 200),(b3,oC (dQ (r1.val jk.length)) 200)]) (H1:=[]) rfl Zr (OW 5) rfl rfl rfl rfl (cD.one (z:=((bn,cn):El)) (OW 5) (nph 5) underlying134 (bE.own (i:=0) rfl)) ae aM zJ y9 ?_;intro br cr sr jY rY;refine B 1 ?_;refine kT (i:=6) rfl sizeOf134 rfl rfl rfl rfl (eh rfl) rfl ?_;refine B 7 ?_;refine PJ.reH (H':=[(ov,oC (dQ (.slice (ao bn) 5 cn)) 200),(bn,bj vl 200 [x.kind,x.dev,x.pub,x.ver,x.cut] sn),(mT,oC #[ab x.kind,ab x.dev,ab x.pub,ab x.ver,ab x.cut] 3),(b7,oC (gK x) 99),(b5,oC (dQ (ak)) 200),(b4,oC (dQ (ak)) 200),(b3,oC (dQ ((Rw.row br cr sr).val (jk++[((bn,cn):El)]).length)) 200)]++((br,bj (jX 5) 200 (jk++[((bn,cn):El)]) sr)::[])) rfl ?_;refine V9 ?_;refine PJ.fz [(bn,bj vl 200 [x.kind,x.dev,x.pub,x.ver,x.cut] sn)] (H':=[(mT,oC #[ab x.kind,ab x.dev,ab x.pub,ab x.ver,ab x.cut] 3),(b7,oC (gK x) 99),(b5,oC (dQ (ak)) 200),(b4,oC (dQ (ak)) 200),(b3,oC (dQ ((Rw.row br cr sr).val (jk++[((bn,cn):El)]).length)) 200)]++((br,bj (jX 5) 200 (jk++[((bn,cn):El)]) sr)::[])) (List.Perm.refl _) zec ?_
  refine PJ.dropAt (i:=0) rfl lx ?_;refine qF ?_;refine ag (((Rw.row br cr sr,(jk++[((bn,cn):El)])),(bn,bj vl 200 [x.kind,x.dev,x.pub,x.ver,x.cut] sn)::F1),j1+1) ⟨by dsimp only;omega,jY.elim (λh=>Rw.Fr_at aM h) (λh=>.inr h),rY,by dsimp only;rw[njg Ci hx];exact pK.snoc (λp hp=>.tail _ hp) rfl rfl uD A0,λq hq=>.tail _ (O0 q hq)⟩
 intro av;refine B 7 ?_;have Fs:c.chs.take j1=c.chs:=iz aa;rw[Fs]at pK;have iI:=ae;refine CJ.fz (r1.hp (jX 5) 200 jk) (H':=[(b5,oC (dQ (ak)) 200),(b4,oC (dQ (ak)) 200),(b3,oC (dQ (r1.val jk.length)) 200)]) Zt (Rw.fz_above aM) ?_;refine B 8 ?_;refine CJ.loop (α:=((Rw×List El)×ad)×Nat) (λp=>[(1,ptr b1 0),(3,ptr b3 0),(4,ptr b4 0),(5,ptr b5 0),(42,.slice c.ba c.bxs.length c.bc),(43,ab (c.bxs.length:Int)),(44,ab (p.2:Int))]) (λp=>[(b5,oC (dQ (ak)) 200),(b4,oC (dQ (p.1.1.1.val p.1.1.2.length)) 200),(b3,oC (dQ (r1.val jk.length)) 200)]++(p.1.1.1.hp (jX 4) 200 p.1.1.2++[])) (λp=>[w1,w]) (λp=>dF p.1.2) (λp=>p.2<=c.bxs.length/\p.1.1.1.Fr (dF p.1.2) [w1,w]/\p.1.1.1.Fit 4 p.1.1.2/\iX p.1.2 4 p.1.1.2 ((c.bxs.take p.2).map vm)/\∀q∈(r1.hp (jX 5) 200 jk++F1),q∈p.1.2) (λp=>c.bxs.length-p.2) (((.nil,[]),(r1.hp (jX 5) 200 jk++F1)),0) ⟨cY _,True.intro,rfl,iX.nil,λq h=>h⟩ zR rfl rfl zJ ?_;rintro⟨⟨⟨r2,rZ⟩,F2⟩,j2⟩ ⟨hj,aM,ae,tP,AT⟩;dsimp only at hj aM ae tP AT ⊢;have bJ:r2.ge w1.heap.size:=Rw.ge_fz aM A0;have hel:rZ.length<=50:=by rw[tP.1,eO,jM];omega
 refine aG 6 ?_ ?_
 ·intro aR;refine B 5 ?_;obtain⟨bo,oo,cs0,to,fC,eZ,fE,bW,aS⟩:=RM.get aa;obtain⟨x,hx⟩:=ng c.bxs j2 aa;rw[eZ];have hq:=λ(k:Nat)=>Rw.mem_ge (enc:=jX 4) (t:=200) (xs:=rZ) (k:=k) bJ;have rk:gF N w x.w.ba x.w.body:=hC.bb x (cA hx);refine aE 2 (.agg (tN x)) ?_;refine bH 1 ?_;intro b9 xP uj;refine B 3 ?_;refine CJ.less (E':=[(1,_),(3,_),(4,_),(5,_),(9,_),(42,_),(43,_),(44,_),(45,_),(46,_),(47,_)]) zR ?_;refine CJ.chn 19 [16,17,18] [_,_,_,_,_,_,_,_,_,_,_,_,_,_,_,some (vT (qM x.w.body)),none,none,none] (λcv L' H'=>let eo:ad:=[(b9,oC (tN x) 110),(b5,oC (dQ (ak)) 200),(b4,oC (dQ (r2.val rZ.length)) 200),(b3,oC (dQ (r1.val jk.length)) 200)]++(r2.hp (jX 4) 200 rZ++[]);match cv with| []=>L'=[w1,w]/\H'=eo| [v1]=>∃(bn:Nat),v1= .slice (ao bn) 4 4/\L'=[w1,w]/\H'=(bn,oC (nM (vm x)++[]).toArray 200)::eo/\ah [w1,w] bn| [v1,v2]=>∃(bn:Nat),v1= .slice (ao bn) 4 4/\v2=vL (ao bn) 4 4/\L'=[w1,w]/\H'=(bn,oC (nM (vm x)++[]).toArray 200)::eo/\ah [w1,w] bn| [v1,v2,v3]=>∃(bn:Nat) (ov:Nat),v1= .slice (ao bn) 4 4/\v2=vL (ao bn) 4 4/\v3= .slice (ao ov) 1 1/\L'=[w1,w]/\H'=(ov,oC (dQ (.slice (ao bn) 4 4)) 200)::(bn,oC (nM (vm x)++[]).toArray 200)::eo/\ah [w1,w] bn/\ah [w1,w] ov|_=>False) (pc X9 (pc yh (pc (by exact λcv L' H' hd hP=>X.v (cR underlying110 rfl sizeOf3 rfl)) (pc yh (pc z4 (pc (by exact λcv L' H' hd hP=>X.v (cR underlying110 rfl sizeOf3 rfl)) (pc yh (pc z4 (pc (by exact λcv L' H' hd hP=>X.v (cR underlying110 rfl sizeOf108 rfl)) (pc zac (pc yh (pc z4 (pc (by exact λcv L' H' hd hP=>X.v (cR underlying110 rfl sizeOf108 rfl)) (pc z7b (pc yh (pc yh (pk (pk (pk (pn)))))))))))))))))))) ?_ ?_
  ·refine ss rfl ?_ ?_
   ·exact zGg
   refine ss rfl ?_ ?_
   ·intro cv L' H' hl hP F Q' hk;obtain⟨v1,rfl⟩:=jv hl;obtain⟨bn,rfl,rfl,rfl,hfn⟩:=hP;refine call call86 rfl rfl rfl (λW hS=>Zq (ao bn) 4 4 W) ?_;exact z5h
   exact zwg
  intro cv L' H' hl hP;obtain⟨v1,v2,v3,rfl⟩:=py hl;obtain⟨bn,ov,rfl,rfl,rfl,rfl,rfl,hfn,sY⟩:=hP;refine kz (r:=r2) (xs:=rZ) (zs:=[((bn,4):El)]) (enc:=jX 4) (m:=4) (H0:=[(ov,oC (dQ (.slice (ao bn) 4 4)) 200),(bn,oC (nM (vm x)++[]).toArray 200),(b9,oC (tN x) 110),(b5,oC (dQ (ak)) 200),(b4,oC (dQ (r2.val rZ.length)) 200),(b3,oC (dQ (r1.val jk.length)) 200)]) (H1:=[]) rfl Zr (OW 4) rfl rfl rfl rfl (cD.one (z:=((bn,4):El)) (OW 4) (nph 4) underlying134 (bE.own (i:=0) rfl)) ae aM zJ y9 ?_;intro br cr sr jY rY;refine B 1 ?_;refine kT (i:=4) rfl sizeOf134 rfl rfl rfl rfl (eh rfl) rfl ?_;refine B 7 ?_;refine PJ.reH (H':=[(ov,oC (dQ (.slice (ao bn) 4 4)) 200),(bn,oC (nM (vm x)++[]).toArray 200),(b9,oC (tN x) 110),(b5,oC (dQ (ak)) 200),(b4,oC (dQ ((Rw.row br cr sr).val (rZ++[((bn,4):El)]).length)) 200),(b3,oC (dQ (r1.val jk.length)) 200)]++((br,bj (jX 4) 200 (rZ++[((bn,4):El)]) sr)::[])) rfl ?_;refine V9 ?_;refine PJ.fz [(bn,oC (nM (vm x)++[]).toArray 200)] (H':=[(b9,oC (tN x) 110),(b5,oC (dQ (ak)) 200),(b4,oC (dQ ((Rw.row br cr sr).val (rZ++[((bn,4):El)]).length)) 200),(b3,oC (dQ (r1.val jk.length)) 200)]++((br,bj (jX 4) 200 (rZ++[((bn,4):El)]) sr)::[])) (List.Perm.refl _) zec ?_;refine qF ?_;refine ag (((Rw.row br cr sr,(rZ++[((bn,4):El)])),(bn,oC (nM (vm x)++[]).toArray 200)::F2),j2+1) ⟨by dsimp only;omega,jY.elim (λh=>Rw.Fr_at aM h) (λh=>.inr h),rY,by dsimp only;rw[njg vm hx];exact tP.snoc (λp hp=>.tail _ hp) rfl rfl (aj _) A0,λq hq=>.tail _ (AT q hq)⟩
 intro aR;refine B 7 ?_;have Ft:c.bxs.take j2=c.bxs:=iz aa;rw[Ft]at tP;have eM:=ae;refine CJ.fz (r2.hp (jX 4) 200 rZ) (H':=[(b5,oC (dQ (ak)) 200),(b4,oC (dQ (r2.val rZ.length)) 200),(b3,oC (dQ (r1.val jk.length)) 200)]) Zt (Rw.fz_above aM) ?_;refine B 8 ?_;refine CJ.loop (α:=((Rw×List El)×ad)×Nat) (λp=>[(1,ptr b1 0),(3,ptr b3 0),(4,ptr b4 0),(5,ptr b5 0),(71,.slice c.wa c.wes.length c.wc),(72,ab (c.wes.length:Int)),(73,ab (p.2:Int))]) (λp=>[(b5,oC (dQ (p.1.1.1.val p.1.1.2.length)) 200),(b4,oC (dQ (r2.val rZ.length)) 200),(b3,oC (dQ (r1.val jk.length)) 200)]++(p.1.1.1.hp (jX 3) 200 p.1.1.2++[])) (λp=>[w1,w]) (λp=>dF p.1.2) (λp=>p.2<=c.wes.length/\p.1.1.1.Fr (dF p.1.2) [w1,w]/\p.1.1.1.Fit 4 p.1.1.2/\iX p.1.2 3 p.1.1.2 ((c.wes.take p.2).map vn)/\∀q∈(r2.hp (jX 4) 200 rZ++F2),q∈p.1.2) (λp=>c.wes.length-p.2) (((.nil,[]),(r2.hp (jX 4) 200 rZ++F2)),0) ⟨cY _,True.intro,rfl,iX.nil,λq h=>h⟩ zR rfl rfl zJ ?_;rintro⟨⟨⟨r3,vq⟩,F3⟩,j3⟩ ⟨hj,aM,ae,Cj,AU⟩;dsimp only at hj aM ae Cj AU ⊢;have bJ:r3.ge w1.heap.size:=Rw.ge_fz aM A0;have hel:vq.length<=50:=by rw[Cj.1,eO,jM];omega
 refine aG 6 ?_ ?_
 ·intro dm;refine B 5 ?_;obtain⟨bo,oo,cs0,to,fC,eZ,fE,bW,aS⟩:=Lh.get aa;obtain⟨x,hx⟩:=ng c.wes j3 aa;rw[eZ];have hq:=λ(k:Nat)=>Rw.mem_ge (enc:=jX 3) (t:=200) (xs:=vq) (k:=k) bJ;have rk:gF N w x.w.ba x.w.body:=hC.wb x (cA hx);refine aE 2 (.agg (vj x)) ?_;refine bH 1 ?_;intro gB uZ yQ;refine B 3 ?_;refine CJ.less (E':=[(1,_),(3,_),(4,_),(5,_),(11,_),(71,_),(72,_),(73,_),(74,_),(75,_),(76,_)]) zR ?_;refine CJ.chn 16 [13,14,15] [_,_,_,_,_,_,_,_,_,_,_,_,some (vT (qM x.w.body)),none,none,none] (λcv L' H'=>let eo:ad:=[(gB,oC (vj x) 114),(b5,oC (dQ (r3.val vq.length)) 200),(b4,oC (dQ (r2.val rZ.length)) 200),(b3,oC (dQ (r1.val jk.length)) 200)]++(r3.hp (jX 3) 200 vq++[]);match cv with| []=>L'=[w1,w]/\H'=eo| [v1]=>∃(bn:Nat),v1= .slice (ao bn) 3 3/\L'=[w1,w]/\H'=(bn,oC (nM (vn x)++[]).toArray 200)::eo/\ah [w1,w] bn| [v1,v2]=>∃(bn:Nat),v1= .slice (ao bn) 3 3/\v2=vL (ao bn) 3 3/\L'=[w1,w]/\H'=(bn,oC (nM (vn x)++[]).toArray 200)::eo/\ah [w1,w] bn| [v1,v2,v3]=>∃(bn:Nat) (ov:Nat),v1= .slice (ao bn) 3 3/\v2=vL (ao bn) 3 3/\v3= .slice (ao ov) 1 1/\L'=[w1,w]/\H'=(ov,oC (dQ (.slice (ao bn) 3 3)) 200)::(bn,oC (nM (vn x)++[]).toArray 200)::eo/\ah [w1,w] bn/\ah [w1,w] ov|_=>False) (pc X9 (pc yh (pc (by exact λcv L' H' hd hP=>X.v (cR underlying114 rfl sizeOf3 rfl)) (pc yh (pc z4 (pc (by exact λcv L' H' hd hP=>X.v (cR underlying114 rfl sizeOf108 rfl)) (pc zac (pc yh (pc z4 (pc (by exact λcv L' H' hd hP=>X.v (cR underlying114 rfl sizeOf108 rfl)) (pc z7b (pc yh (pc yh (pk (pk (pk (pn))))))))))))))))) ?_ ?_
  ·refine ss rfl ?_ ?_
   ·exact zGg
   refine ss rfl ?_ ?_
   ·intro cv L' H' hl hP F Q' hk;obtain⟨v1,rfl⟩:=jv hl;obtain⟨bn,rfl,rfl,rfl,hfn⟩:=hP;refine call call86 rfl rfl rfl (λW hS=>Zq (ao bn) 3 3 W) ?_;exact z5h
   exact zwg
  intro cv L' H' hl hP;obtain⟨v1,v2,v3,rfl⟩:=py hl;obtain⟨bn,ov,rfl,rfl,rfl,rfl,rfl,hfn,sY⟩:=hP;refine kz (r:=r3) (xs:=vq) (zs:=[((bn,3):El)]) (enc:=jX 3) (m:=4) (H0:=[(ov,oC (dQ (.slice (ao bn) 3 3)) 200),(bn,oC (nM (vn x)++[]).toArray 200),(gB,oC (vj x) 114),(b5,oC (dQ (r3.val vq.length)) 200),(b4,oC (dQ (r2.val rZ.length)) 200),(b3,oC (dQ (r1.val jk.length)) 200)]) (H1:=[]) rfl Zr (OW 3) rfl rfl rfl rfl (cD.one (z:=((bn,3):El)) (OW 3) (nph 3) underlying134 (bE.own (i:=0) rfl)) ae aM zJ y9 ?_;intro br cr sr jY rY;refine B 1 ?_;refine kT (i:=3) rfl sizeOf134 rfl rfl rfl rfl (eh rfl) rfl ?_;refine B 7 ?_;refine PJ.reH (H':=[(ov,oC (dQ (.slice (ao bn) 3 3)) 200),(bn,oC (nM (vn x)++[]).toArray 200),(gB,oC (vj x) 114),(b5,oC (dQ ((Rw.row br cr sr).val (vq++[((bn,3):El)]).length)) 200),(b4,oC (dQ (r2.val rZ.length)) 200),(b3,oC (dQ (r1.val jk.length)) 200)]++((br,bj (jX 3) 200 (vq++[((bn,3):El)]) sr)::[])) rfl ?_;refine V9 ?_;refine PJ.fz [(bn,oC (nM (vn x)++[]).toArray 200)] (H':=[(gB,oC (vj x) 114),(b5,oC (dQ ((Rw.row br cr sr).val (vq++[((bn,3):El)]).length)) 200),(b4,oC (dQ (r2.val rZ.length)) 200),(b3,oC (dQ (r1.val jk.length)) 200)]++((br,bj (jX 3) 200 (vq++[((bn,3):El)]) sr)::[])) (List.Perm.refl _) zec ?_
  refine qF ?_;refine ag (((Rw.row br cr sr,(vq++[((bn,3):El)])),(bn,oC (nM (vn x)++[]).toArray 200)::F3),j3+1) ⟨by dsimp only;omega,jY.elim (λh=>Rw.Fr_at aM h) (λh=>.inr h),rY,by dsimp only;rw[njg vn hx];exact Cj.snoc (λp hp=>.tail _ hp) rfl rfl (aj _) A0,λq hq=>.tail _ (AU q hq)⟩
 intro dm;refine B 6 ?_;have Zu:c.wes.take j3=c.wes:=iz aa;rw[Zu]at Cj;have mZ:=ae;refine CJ.fz (r3.hp (jX 3) 200 vq) (H':=[(b5,oC (dQ (r3.val vq.length)) 200),(b4,oC (dQ (r2.val rZ.length)) 200),(b3,oC (dQ (r1.val jk.length)) 200)]) Zt (Rw.fz_above aM) ?_;refine CJ.less (E':=[(1,_),(3,_),(4,_),(5,_),(71,_),(72,_),(73,_),(74,_)]) zR ?_;refine CJ.chn 30 [15,16] [_,_,_,_,_,_,_,_,some (vT (qM (cI c.par))),_,_,_,some (.agg (dQ (r1.val jk.length))),_,_,none,none,some (.agg (dQ (r2.val rZ.length))),some (.agg (dQ (r3.val vq.length))),_,_,some (vT (qM (cI c.conf))),_,_,_,_,_,_,_,_] (λcv L' H'=>let eo:ad:=[(b5,oC (dQ (r3.val vq.length)) 200),(b4,oC (dQ (r2.val rZ.length)) 200),(b3,oC (dQ (r1.val jk.length)) 200)];match cv with| []=>L'=[w1,w]/\H'=eo| [v1]=>∃(yi:Rw),v1=yi.val c.path.length/\L'=[w1,w]/\H'=eo++(yi.hp vl 200 c.path++[])/\yi.ge w1.heap.size/\yi.Fit 4 c.path| [v1,v2]=>∃(yi:Rw),v1=yi.val c.path.length/\v2= .agg (dQ (yi.val c.path.length))/\L'=[w1,w]/\H'=eo++(yi.hp vl 200 c.path++[])/\yi.ge w1.heap.size/\yi.Fit 4 c.path|_=>False) (pc Zv (pc Fu (pc z4 (pc Zv (pc Fu (pc z4 (pc (by exact λcv L' H' hd hP=>X.v (cR underlying61 rfl sizeOf33 rfl)) (pc zYb (pc Fu (pc Zv (pc Fu (pc z4 (pc Fu (pc z9b (pc Fu (pk (pk (pc Fu (pc Fu (pc (by exact λcv L' H' hd hP=>X.v (cR underlying61 rfl sizeOf33 rfl)) (pc zYb (pc Fu (pc (by exact λcv L' H' hd hP=>X.v (cR underlying61 rfl sizeOf59 rfl)) (pc zcc (pc Fu (pc z4 (pc (by exact λcv L' H' hd hP=>X.v (cR underlying61 rfl sizeOf59 rfl)) (pc zcc (pc Fu (pc z4 (pn))))))))))))))))))))))))))))))) ?_ ?_
 ·refine ss rfl ?_ ?_
  ·intro cv L' H' hl hP F Q' hk;obtain rfl:=my hl;obtain⟨rfl,rfl⟩:=hP;refine VL (enc:=vl) (m:=4) (t:=200) (xs:=c.path) (v:=id) (first:=[]) (cap:=[]) rfl call88 rfl rfl rfl (λW hS=>nOi c.path aa N c.pa c.pc W cJ (pF.up (aj _) (λk hk=>(hS.links w A1).block k aa (λhx=>by rcases hx with hx|hx;(exact hx);simp only[dL,ft,cd,dV,or_false]at hx;omega)))) ?_;intro r_ V8 iH;exact OJ.done (hk _ _ _ ⟨r_,rfl,rfl,rfl,Rw.ge_fz V8 A0,iH⟩)
  refine ss rfl ?_ ?_
  ·intro cv L' H' hl hP F Q' hk;obtain⟨v1,rfl⟩:=jv hl;obtain⟨yi,rfl,rfl,rfl,r7,sa⟩:=hP;refine call call86 rfl rfl rfl (λW hS=>Fq W) ?_;exact OJ.done (hk _ _ _ ⟨yi,rfl,rfl,rfl,rfl,r7,sa⟩)
  exact nn
 intro cv L' H' hl hP;obtain⟨v1,v2,rfl⟩:=rP hl;obtain⟨yi,rfl,rfl,rfl,rfl,r7,sa⟩:=hP;refine Zs ?_;refine yW ?_;intro Zw aoH aoI;refine B 4 ?_;refine bQ (.inl rfl) results45 bB λW hS=>⟨Zw,rfl,(hS.links w A1).below (λk hk hx=>by rcases hx with hx|hx;(exact hx);simp only[gL,dL,ft,im,eX,ee,aY,cd,dV,or_false]at hx;rcases hx with hx|hx|hx|hx|hx<;>first|omega|(have:=Rw.mem_ge r7 hx;omega)),by omega,?_⟩;have hF:∀p∈(r3.hp (jX 3) 200 vq++F3),p.1<W.heap.size/\W.heap[p.1]? =some p.2:=λp hp=>⟨(bA.1 (hS.fzAt p hp)).1,hS.fzAt p hp⟩;have hb:=hS.own (Zw,_) A0;have h15:∀p∈yi.hp vl 200 c.path,p.1<W.heap.size/\W.heap[p.1]? =some p.2:=λp hp=>by have h:=hS.own p (by simp[hp]);exact⟨(bA.1 h).1,h⟩
 have i3:∀p∈F3,p∈(r3.hp (jX 3) 200 vq++F3):=λp hp=>aY.2 (.inr hp);have i2:∀p∈F2,p∈(r3.hp (jX 3) 200 vq++F3):=λp hp=>i3 p (AU p (aY.2 (.inr hp)));have i1:∀p∈F1,p∈(r3.hp (jX 3) 200 vq++F3):=λp hp=>i2 p (AT p (aY.2 (.inr hp)));have v1:=iX.vat (t:=200) (pK.up i1) hF (λp hp=>i2 p (AT p (aY.2 (.inl hp)))) iI;have v2x:=iX.vat (t:=200) (tP.up i2) hF (λp hp=>i3 p (AU p (aY.2 (.inl hp)))) eM;have v3x:=iX.vat (t:=200) (Cj.up i3) hF (λp hp=>aY.2 (.inl hp)) mZ;have vp:=Fm (t:=200) h15 sa;exact n6l (ou c) (aj 11) hb (bA.1 hb).1 (tO (eh rfl) (Jr _ _ _) (tO (eh rfl) (Jr _ _ _) (tO (eh rfl) (V6 _ _ _) (tO (eh rfl) (Jr _ _ _) (tO (eh rfl) v1 (tO (eh rfl) vp (tO (eh rfl) v2x (tO (eh rfl) v3x (tO (eh rfl) (V6 _ _ _) (tO (eh rfl) (Jr _ _ _) (tO (eh rfl) (Jr _ _ _) (nNl))))))))))))
theorem V.fineL_take{l:List V}(h:V.fineL l):∀k,V.fineL (l.take k):=by
 induction l with
 |nil=>intro k;simp[V.fineL]
 |cons x l ih=>
  intro k;cases k with
  |zero=>simp[V.fineL]
  |succ k=>simp only[Zx,V.fineL]at h ⊢;exact⟨h.1,ih h.2 k⟩
theorem V.depthL_take_le(l:List V):∀k,V.depthL (l.take k)<=V.depthL l:=by
 induction l with
 |nil=>intro k;simp
 |cons x l ih=>
  intro k;cases k with
  |zero=>simp[V.depthL]
  |succ k=>simp only[Zx,V.depthL];have:=ih k;omega
theorem Zy(n:Nat)(hn:n<=100):∀ls:List (List V),(∀l∈ls,l.all wh=true/\l.length<=n)->V.fineL (ls.map V.list)->(V.encL (ls.map V.list)).length<=ls.length*(n*1000000020+11)/\V.depthL (ls.map V.list)<=1
 | [],_,_=>by simp[V.encL,V.depthL]
 |l::ls,h,hf=>by
  simp only[dL,V.fineL,V.fine]at hf;obtain⟨h1,h2⟩:=Zy n hn ls (λl' hl'=>h l' (by simp[hl'])) hf.2;obtain⟨h3,h4⟩:=h l zJ;obtain⟨h5,h6⟩:=ntf l h3 hf.1.2.2;have h7:=C4 (u:=l.length) aa;have h8:l.length*1000000020<=n*1000000020:=w6 _ h4;simp only[dL,V.encL,V.depthL,V.enc,V.depth,cO,dO,h6,qh];refine⟨by omega,by omega⟩
theorem RZ(c:Cm)(qg:qe c)(hf:V.fineL (ou c)):(V.encL (ou c)).length<=700000000000/\V.depthL (ou c)<=2:=by
 have f1:=qg.chs;have f2:=qg.path;have f3:=qg.bxs;have f4:=qg.wes;simp only[ou,V.fineL]at hf;obtain⟨g1,g2,g3,g4,g5,g6,g7,g8,g9,g10,g11,_⟩:=hf;have e5:=Zy 5 zA (c.chs.map Ci) (λl hl=>by obtain⟨x,_,rfl⟩:=bT.1 hl;exact⟨rfl,aj 5⟩) (by simp only[V.fine]at g5;exact g5.2.2);have e7:=Zy 4 zA (c.bxs.map vm) (λl hl=>by obtain⟨x,_,rfl⟩:=bT.1 hl;exact⟨rfl,aj 4⟩) (by simp only[V.fine]at g7;exact g7.2.2);have e8:=Zy 3 zA (c.wes.map vn) (λl hl=>by obtain⟨x,_,rfl⟩:=bT.1 hl;exact⟨rfl,aj 3⟩) (by simp only[V.fine]at g8;exact g8.2.2);have e6:=ntf (c.path.map V.int) (by simp[wh]) (by simp only[V.fine]at g6;exact g6.2.2);have i1:=B0 _ rfl g1;have i2:=B0 _ rfl g2;have i3:=B0 _ rfl g3;have i4:=B0 _ rfl g4;have i9:=B0 _ rfl g9;have i10:=B0 _ rfl g10;have i11:=B0 _ rfl g11;have n5:=C4 (u:=((c.chs.map Ci).map V.list).length) mV;have n6:=C4 (u:=(c.path.map V.int).length) mV;have n7:=C4 (u:=((c.bxs.map vm).map V.list).length) mV;have n8:=C4 (u:=((c.wes.map vn).map V.list).length) mV;have m5:(c.chs.map Ci).length*(5*1000000020+11)<=10*(5*1000000020+11):=w6 _ (by rw[eO];exact f1);have m6:(c.path.map V.int).length*1000000020<=12*1000000020:=w6 _ (by rw[eO];exact f2);have m7:(c.bxs.map vm).length*(4*1000000020+11)<=40*(4*1000000020+11):=w6 _ (by rw[eO];exact f3)
 have m8:(c.wes.map vn).length*(3*1000000020+11)<=10*(3*1000000020+11):=w6 _ (by rw[eO];exact f4);have l5:(V.list ((c.chs.map Ci).map V.list)).enc.length<=11+(V.encL ((c.chs.map Ci).map V.list)).length:=by simp only[V.enc,dO,cO];omega
 have l6:(V.list (c.path.map V.int)).enc.length<=11+(V.encL (c.path.map V.int)).length:=by simp only[V.enc,dO,cO];omega
 have l7:(V.list ((c.bxs.map vm).map V.list)).enc.length<=11+(V.encL ((c.bxs.map vm).map V.list)).length:=by simp only[V.enc,dO,cO];omega
 have l8:(V.list ((c.wes.map vn).map V.list)).enc.length<=11+(V.encL ((c.wes.map vn).map V.list)).length:=by simp only[V.enc,dO,cO];omega
 refine⟨?_,?_⟩
 ·unfold ou;simp only[V.encL,cO,fO];omega
 unfold ou;simp only[V.depthL,V.depth,e6.2];have d5:=e5.2;have d7:=e7.2;have d8:=e8.2;omega
theorem Zz(c:Cm)(qg:qe c)(hf:V.fineL (ou c))(k:Nat):(V.list ((ou c).take k)).fine/\(V.list ((ou c).take k)).depth<=16/\(V.list ((ou c).take k)).enc.length<=800000000000:=by grind [RZ,V.depthL_take_le,ou,V.encL_take_le,C4,V.fine,V.fineL_take,V.depth,V.enc,List.length_cons]
theorem nXk{N:Nat}{w:World}{cs:Array Value}:∀{l:List V} {off:Nat} (k:Nat),gT N w cs off l->gT N w cs off (l.take k)
 | [],off,k,h=>by simpa using h
 |x::l,off,0,h=>by simp[gT]
 |x::l,off,k+1,h=>by
  simp only[Zx,gT]at h ⊢;exact⟨h.1,h.2.1,nXk k h.2.2⟩
theorem nrm{cap:Nat}{l:List V}(hn:l.length=n)(hn0:0<n)(k:Nat)(hk:k<=n)(h:fu N w (.list l) (vL (ao b) n cap)):fu N w (.list (l.take k)) (vL (ao b) k cap):=by grind [fu,nXk]
theorem nZe(hZ:FxOk Z)(s:ByteArray)(hs0:s.size<1000)(l:List V)(dW:(V.list l).fine)(hd:(V.list l).depth<=16)(ju:(V.list l).enc.length<=800000000000)(N bl lc:Nat)(w:World)(hN:N<=w.heap.size)(xS:fu N w (.list l) (vL (ao bl) l.length lc))(hg:Glb w):Calls prog 44 #[.string s,.slice (ao bl) l.length lc] w (aP w (.agg (dg (Z.tg s (V.list l).enc)))):=by
 have hg4:=hg.lt;obtain⟨df,lz⟩:∃df,Z.tg s (V.list l).enc=df:=⟨_,rfl⟩;refine eN func44 ntmps44 ?_;refine bH 3 ?_;intro b4 iT iU;refine B 5 ?_;refine zme ?_;refine zje ?_;intro gd Je Kj lT pC aiM yY;replace lT:=yb lT;replace pC:=yd pC;refine B 11 ?_;refine z7d ?_;refine B 4 ?_;refine cu (.inl rfl) results44 bB A0 zB ?_;rw[lz];rfl
def aB (Z:Fx) (c:Cm):Nat->Int:=Z.tg (⟨#[99,111,109,109,105,116]⟩:ByteArray) (V.list (ou c)).enc
def ow (Z:Fx) (c:Cm):Nat->Int:=Z.tg (⟨#[99,111,109,109,105,116,32,115,105,103,110]⟩:ByteArray) (V.list ((ou c).take 9)).enc
structure bN (c:Cm):Prop where
 few:qe c
 fine:V.fineL (ou c)
section
variable (hZ:FxOk Z)(c:Cm)(dE:bN c)(N:Nat)(w:World)(hN:N<=w.heap.size)(hC:dB N w c)(hg:Glb w)
include hZ dE hN hC hg
theorem ZA:Calls prog 23 #[.agg (cM c)] w (aP w (.agg (dg (aB Z c)))):=by
 have hg4:=hg.lt;obtain⟨df,lz⟩:∃df,aB Z c=df:=⟨_,rfl⟩;have vr:=Zz c dE.few dE.fine 11;have e11:(ou c).take 11=ou c:=rfl;rw[e11]at vr;refine eN func23 ntmps23 ?_;refine cH 2 ?_;intro b1 w1 hb1 cK gS fX jK;refine bH 1 ?_;intro b2 dJ dH;refine aE 4 (.agg (cM c)) ?_;refine zRd ?_;rintro W5 b5 w5 Wb hB5 ⟨hq5,hv5⟩;have ZB:=Wb.sizes;replace ZB:=yb ZB;have aiN:=hB5.size;have hU5:=Wb.under;simp only[I9,dx,ec,and_true]at hU5;have aiP:=(hB5.block b2 aa).trans (Wb.own _ A0);refine call call44 rfl rfl rfl (λW hS=>by rw[<-lz];exact nZe hZ (⟨#[99,111,109,109,105,116]⟩:ByteArray) zA (ou c) vr.1 vr.2.1 vr.2.2 w5.heap.size b5 11 W (hS.links w5 A0).size (fu.up (aj _) (λk hk=>by by_cases e2:k=b2;(rw[e2,aiP];exact hS.own _ A0);exact(hS.links w5 A0).block k hk (λhx=>by rcases hx with hx|hx;(exact hx);simp at hx;exact e2 hx)) _ _ hv5) (hg.old hS A2 zH zF)) (v:=.agg (dg df)) ?_;refine B 4 ?_;refine cu (.inl rfl) results23 bB A2 zB ?_;rw[lz];rfl
theorem nxc:Calls prog 147 #[.agg (cM c)] w (cZ w (λb:Nat=>.slice (ao b) 32 32) (λb w1=>w.heap.size<=b/\w1.heap[b]? =some (oC (dg (ow Z c)) 33))):=by
 have hg4:=hg.lt;obtain⟨df,lz⟩:∃df,ow Z c=df:=⟨_,rfl⟩;have vr:=Zz c dE.few dE.fine 9;refine eN func147 ntmps147 ?_;refine cH 2 ?_;intro b1 w1 hb1 cK gS fX jK;refine aE 5 (.agg (cM c)) ?_;refine zRd ?_;rintro W5 b5 w5 Wb hB5 ⟨hq5,hv5⟩;have ZB:=Wb.sizes;replace ZB:=yb ZB;have aiN:=hB5.size;have hU5:=Wb.under;simp only[I9,dx,ec,and_true]at hU5;refine rv rfl rfl rfl (eL (h:=9) underlying134 sizeOf200 rfl ⟨_,_,rfl,rfl⟩ aa) ?_;refine call call44 rfl rfl rfl (λW hS=>by rw[<-lz];exact nZe hZ (⟨#[99,111,109,109,105,116,32,115,105,103,110]⟩:ByteArray) zA ((ou c).take 9) vr.1 vr.2.1 vr.2.2 w5.heap.size b5 11 W (hS.links w5 A0).size (fu.up (aj _) (hS.same A0 (aj _) zH trivial) _ _ (nrm (n:=11) rfl zA 9 zA hv5)) (hg.old hS A2 zH zF)) (v:=.agg (dg df)) ?_;refine bH 1 ?_;intro b3 eC ff;refine B 5 ?_;refine zye ?_;refine B 4 ?_;exact bQ (.inl rfl) results147 bB (λW hS=>⟨b3,rfl,hS.base A2 zB,by omega,by rw[lz];exact hS.own _ A0⟩)
end
def lA (g:Gp) (au:Int) (l:List Ch):Int:=if gD g.ms au=true then((g.ms[pH g.ms au]?).map (·.ver)).getD 0 else((l[0]?).map (·.ver)).getD 0
theorem nGm{x:Mb}(h:gD g.ms au=true)(hx:g.ms[pH g.ms au]? =some x):x.ver=lA g au l:=by unfold lA;rw[if_pos h,hx];rfl
theorem nHo(h:gD g.ms au=false)(hx:l[0]? =some x):x.ver=lA g au l:=by unfold lA;rw[if_neg (by rw[h];decide),hx];rfl
theorem nPc(G:Gv)(N:Nat)(w:World)(hN:N<=w.heap.size)(hG:cj N w G)(l:List Ch)(hxl:l.length<=1000000)(a:Option Addr)(cp:Nat)(aH:ai gK 5 N w a l)(au:Int)(DL:gD G.g.ms au=false->0<l.length):Calls prog 135 #[.agg (bF G),ab au,.slice a l.length cp] w (aP w (ab (lA G.g au l))):=by
 refine eN func135 ntmps135 ?_;refine cH 2 ?_;intro b3 w3 dA cX fT eC ff;refine aE 6 (.agg (bF G)) ?_;refine B 1 ?_;refine call call199 rfl rfl rfl (λW hS=>nYd G N W cJ (hG.up (aj _) hS.sm) au) ?_;refine aG 12 ?_ ?_
 ·intro av;refine B 1 ?_;have hmn:=hG.mn;have hlt:=K5 cV;have EX:=hG.ms;obtain⟨bo,oo,cs0,to,fC,eZ,fE,bW,aS⟩:=EX.get aa;obtain⟨x,hx⟩:=ng G.g.ms (pH G.g.ms au) hlt;refine B 2 ?_;refine rq (.slice (some ⟨bo,oo,none⟩) G.g.ms.length G.mc) (ar isAgg48 rfl A0 dA cX trivial rfl) (congrArg (λq=>Value.slice q G.g.ms.length G.mc) eZ) ?_;refine B 3 ?_;refine rv rfl rfl rfl (ar (v:=ab x.ver) isAgg3 rfl A1 bW zI trivial (by have:=vh aS hx rfl 2 zA;simpa[qJ]using this)) ?_;refine B 5 ?_;exact z6h
 intro av;refine B 3 ?_;have mw:=DL AR;obtain⟨bo,oo,cs0,to,fC,rfl,fE,bW,aS⟩:=aH.get aa;obtain⟨x,hx⟩:=ng l 0 aa;refine B 4 ?_;refine rv rfl rfl rfl (ar (v:=ab x.ver) isAgg3 rfl A1 bW zI trivial (by have:=vh aS hx (i:=0) rfl 3 zA;simpa[gK]using this)) ?_;refine B 4 ?_;exact z6h
def lB {α β:Type} (r:α->β->Bool) (xs:List α) (ys:List β):Bool:=decide (xs.length=ys.length)&&(xs.zip ys).all λp=>r p.1 p.2
def Ck {α β:Type} (r:α->β->Bool) (xs:List α) (ys:List β) (j:Nat):Prop:=∀(i:Nat) (x:α) (y:β),i<j->xs[i]? =some x->ys[i]? =some y->r x y=true
section
variable {α β:Type}{r:α->β->Bool}{xs:List α}{ys:List β}
include α β r ys
theorem Ck.next{x:α}{y:β}(h:Ck r xs ys j)(hx:xs[j]? =some x)(hy:ys[j]? =some y)(e:r x y=true):Ck r xs ys (j+1):=by
 exact zEh
theorem nDe(hl:xs.length=ys.length)(h:Ck r xs ys j)(hj:¬j<xs.length):true=lB r xs ys:=by
 unfold lB;rw[decide_eq_true hl,Bool.true_and,eq_comm,uF];rintro⟨x,y⟩ hp;obtain⟨i,hi⟩:=jG.1 hp;rw[List.getElem?_zip_eq_some]at hi;exact h i x y (by have:=nq hi.1;omega) hi.1 hi.2
theorem nNf{x:α}{y:β}(hx:xs[j]? =some x)(hy:ys[j]? =some y)(h:r x y=false):false=lB r xs ys:=by
 unfold lB;have:((xs.zip ys).all λp=>r p.1 p.2)=false:=by
  rw[List.all_eq_false];exact⟨(x,y),jG.2 ⟨j,List.getElem?_zip_eq_some.2 ⟨hx,hy⟩⟩,by simp[h]⟩
 rw[this,Bool.and_false]
theorem nHe(hl:¬xs.length=ys.length):false=lB r xs ys:=by unfold lB;rw[decide_eq_false hl];rfl
end
def Js (x:Bx) (p:Int×Int):Bool:=decide (x.node=p.2)&&decide (x.level=p.1)
def Wg (x:We) (y:Ch):Bool:=decide (x.dev=y.dev)
theorem R0(x:Bx)(p:Int×Int)(w:World):Calls prog 150 #[.agg (tN x),.agg (RL p)] w (aP w (.bool (Js x p))):=by
 refine eN func150 ntmps150 ?_;refine cH 2 ?_;intro b2 w2 dw bX fB dJ dH;refine yX ?_;intro b3 w3 dA cX fT eC ff;refine B 11 ?_;refine ni (t:=10) rfl (λav=>?_) (λav=>?_)
 ·exact zPh
 exact zPh
theorem R1(x:We)(y:Ch)(w:World):Calls prog 151 #[.agg (vj x),.agg (gK y)] w (aP w (.bool (Wg x y))):=by
 refine eN func151 ntmps151 ?_;refine cH 2 ?_;intro b2 w2 dw bX fB dJ dH;refine yX ?_;intro b3 w3 dA cX fT eC ff;refine B 14 ?_;refine aK results151 rfl A2 ?_;rfl
theorem ZC(xs:List Bx)(hxl:xs.length<=1000000)(N:Nat)(a:Option Addr)(cp:Nat)(w:World)(hN:N<=w.heap.size)(aH:ai tN 4 N w a xs)(ys:List (Int×Int))(a2:Option Addr)(Y1:Nat)(Fc:ai RL 4 N w a2 ys):Calls prog 152 #[.slice a xs.length cp,.slice a2 ys.length Y1,.func (.func 150) #[] #[]] w (aP w (.bool (lB Js xs ys))):=by
 refine eN func152 ntmps152 ?_;refine aG 15 ?_ ?_
 ·intro av;refine B 7 ?_;refine aK results152 rfl A0 ?_;exact Wh
 intro av;refine B 11 ?_;refine CJ.lp (α:=Nat) [1,2,15,16] (λj=>[(17,ab (j:Int))]) (λj=>[]) (λj=>j<=xs.length/\Ck Js xs ys j) (λj=>xs.length-j) 0 ⟨cY _,λi x y hi=>absurd hi aa⟩ ?_;rintro j ⟨hj,dP⟩;refine aG 6 ?_ ?_
 ·intro aR;refine B 5 ?_;obtain⟨bo,oo,cs0,to,fC,rfl,fE,bW,aS⟩:=aH.get aa;obtain⟨x,hx⟩:=ng xs j aa;refine aE 3 (.agg (tN x)) ?_;refine bH 1 ?_;intro b8 CZ Jc;refine B 5 ?_;obtain⟨bp,op,csp,tp,frp,rfl,BL,RB,RC⟩:=Fc.get aa;obtain⟨y,hy⟩:=ng ys j aa;refine aE 4 (.agg (RL y)) ?_;refine bH 1 ?_;intro b9 xP uj;refine B 8 ?_;refine CY (f:=150) (cap:=[]) rfl call150 rfl rfl rfl (λW hS=>R0 x y W) ?_;refine aG 3 ?_ ?_
  ·intro dm;refine B 11 ?_;refine cu (.inl rfl) results152 bB A0 zB ?_;exact Wh
  exact zmi
 intro aR;refine B 11 ?_;refine aK results152 rfl A0 ?_;exact Wh
theorem ntd(xs:List We)(hxl:xs.length<=1000000)(N:Nat)(a:Option Addr)(cp:Nat)(w:World)(hN:N<=w.heap.size)(aH:ai vj 3 N w a xs)(ys:List Ch)(a2:Option Addr)(Y1:Nat)(Fc:ai gK 5 N w a2 ys):Calls prog 153 #[.slice a xs.length cp,.slice a2 ys.length Y1,.func (.func 151) #[] #[]] w (aP w (.bool (lB Wg xs ys))):=by
 refine eN func153 ntmps153 ?_;refine aG 15 ?_ ?_
 ·intro av;refine B 7 ?_;refine aK results153 rfl A0 ?_;exact Wh
 intro av;refine B 11 ?_;refine CJ.lp (α:=Nat) [1,2,15,16] (λj=>[(17,ab (j:Int))]) (λj=>[]) (λj=>j<=xs.length/\Ck Wg xs ys j) (λj=>xs.length-j) 0 ⟨cY _,λi x y hi=>absurd hi aa⟩ ?_;rintro j ⟨hj,dP⟩;refine aG 6 ?_ ?_
 ·intro aR;refine B 5 ?_;obtain⟨bo,oo,cs0,to,fC,rfl,fE,bW,aS⟩:=aH.get aa;obtain⟨x,hx⟩:=ng xs j aa;refine aE 3 (.agg (vj x)) ?_;refine bH 1 ?_;intro b8 CZ Jc;refine B 5 ?_;obtain⟨bp,op,csp,tp,frp,rfl,BL,RB,RC⟩:=Fc.get aa;obtain⟨y,hy⟩:=ng ys j aa;refine aE 4 (.agg (gK y)) ?_;refine bH 1 ?_;intro b9 xP uj;refine B 8 ?_;refine CY (f:=151) (cap:=[]) rfl call151 rfl rfl rfl (λW hS=>R1 x y W) ?_;refine aG 3 ?_ ?_
  ·intro dm;refine B 11 ?_;refine cu (.inl rfl) results153 bB A0 zB ?_;exact Wh
  exact zmi
 intro aR;refine B 11 ?_;refine aK results153 rfl A0 ?_;exact Wh
def sg (au:Int) (x:Ch):Bool:=decide (x.kind=2\/x.dev=au)
def gM (l:List Ch) (x:Mb):Bool:=l.any λy=>decide (y.dev=x.dev)
theorem nHp(au:Int)(b:Nat)(x:Ch)(w:World)(hb1:w.heap[b]? =some (oC #[ab au] 3)):Calls prog 212 #[.agg (gK x),ptr b 0] w (aP w (.bool (sg au x))):=by
 have cK:¬Gh.no.X b:=λh=>h;have mw:=(bA.1 hb1).1;refine eN func212 ntmps212 ?_;refine cH 2 ?_;intro b2 w2 dw bX fB dJ dH;refine B 9 ?_;refine ni (t:=7) rfl (λav=>?_) (λav=>?_)
 ·exact zAh
 exact zAh
theorem Lo(y:Ch)(b:Nat)(x:Mb)(w:World)(hb1:w.heap[b]? =some (oC (qJ x) 131)):Calls prog 157 #[.agg (gK y),ptr b 0] w (aP w (.bool (decide (y.dev=x.dev)))):=by
 have cK:¬Gh.no.X b:=λh=>h;have mw:=(bA.1 hb1).1;refine eN func157 ntmps157 ?_;refine cH 2 ?_;intro b2 w2 dw bX fB dJ dH;refine B 14 ?_;refine aK results157 rfl A1 ?_;rfl
theorem R4(c:Cm)(qg:qe c)(N:Nat)(b:Nat)(x:Mb)(w:World)(hN:N<=w.heap.size)(hC:dB N w c)(hb1:w.heap[b]? =some (oC (cM c) 61)):Calls prog 155 #[.agg (qJ x),ptr b 0] w (aP w (.bool (gM c.chs x))):=by
 have cK:¬Gh.no.X b:=λh=>h;have mw:=(bA.1 hb1).1;have AN:=qg.chs;refine eN func155 ntmps155 ?_;refine cH 2 ?_;intro b2 w2 dw bX fB dJ dH;refine aE 6 (.slice c.ca c.chs.length c.cc) ?_;refine B 1 ?_;refine call call156 rfl rfl rfl (λW hS=>nEd (λy=>decide (y.dev=x.dev)) 157 [ptr b2 0] call157 c.chs aa N c.ca c.cc W cJ (hC.chs.up (aj _) hS.sm) (λj y hy W2 hB=>Lo y b2 x W2 (by have h2:=(hS.links w2 A0).size;rw[hB.block b2 aa];exact hS.old A0 dw bX trivial))) ?_;refine B 4 ?_;refine aK results155 rfl A1 ?_;rfl
theorem R5:jN prog 54 99 5:=⟨underlying54,Tryz.t99,.agg #[ab 0,ab 0,ab 0,ab 0,ab 0],K3,rfl,rfl,rfl,by decide⟩
theorem Fv:jN prog 48 131 3:=⟨underlying48,Tryz.t131,.agg #[ab 0,ab 0,ab 0],K2,rfl,rfl,rfl,by decide⟩
theorem nLm(n c:Nat)(w:World):Calls prog 138 #[.slice none n c] w (aD w oj 5 99 ([]:List Ch) id):=by
 refine ef 9 func138 ntmps138 ?_;refine rr bZ (vt underlying54 rfl rfl) ?_;refine B 10 ?_;exact nQ (H0:=[]) (H1:=[]) (r:=.nil) (.inl rfl) results138 bB A0 trivial rfl rfl True.intro rfl
theorem ncl(xs:List Ch)(hxl:xs.length<=100000)(N:Nat)(q:Addr)(cp:Nat)(w:World)(hN:N<=w.heap.size)(aH:ai gK 5 N w (some q) xs):Calls prog 138 #[.slice (some q) xs.length cp] w (aD w oj 5 99 xs id):=by
 refine ef 9 func138 ntmps138 ?_;refine rr bG (vw underlying54 rfl rfl) ?_;refine B 7 ?_;refine kp underlying54 sizeOf99 zeroValue99 rfl rfl rfl rfl rfl rfl rfl ?_;refine yW ?_;intro b5 rF rG;refine B 1 ?_;refine apR (xs:=([]:List Ch)) (zs:=xs) (enc:=oj) (m:=5) (H0:=[]) (H1:=[]) (sp:=[]) (by rfl) R5 Ce rfl rfl rfl rfl (cD.sl Ce nmk underlying54 A0 aH (λb hb=>⟨λh=>h,by simp only[bM,and_true];omega⟩)) ⟨aj _,rfl⟩ (.inr zC) mV ?_;intro b7 Dc ZD uq qj;have Fw:w.heap.size<=b7:=by rcases uq with h|h;(omega);exact h.not A0
 rw[eX]at qj ⊢;refine B 4 ?_;exact nQ (H0:=[]) (H1:=[]) (r:=.row b7 Dc ZD) (.inl rfl) results138 bB A0 (by simp only[eX,Over,and_true];omega) rfl qj Fw (by rfl)
theorem nul(xs:List Ch)(hxl:xs.length<=100000)(N:Nat)(a:Option Addr)(cp:Nat)(w:World)(hN:N<=w.heap.size)(aH:ai gK 5 N w a xs):Calls prog 138 #[.slice a xs.length cp] w (aD w oj 5 99 xs id):=by
 cases a with
 |none=>
  have h0:xs=[]:=by rcases aH with h|⟨b,off,cs,t,fr,h,_⟩;(exact h);cases h
  subst h0;exact nLm 0 cp w
 |some q=>exact ncl xs hxl N q cp w hN aH
theorem nHm(n c:Nat)(w:World):Calls prog 159 #[.slice none n c] w (aD w oY 3 131 ([]:List Mb) id):=by
 refine ef 9 func159 ntmps159 ?_;refine rr bZ (vt underlying48 rfl rfl) ?_;refine B 10 ?_;exact nQ (H0:=[]) (H1:=[]) (r:=.nil) (.inl rfl) results159 bB A0 trivial rfl rfl True.intro rfl
theorem n9k(xs:List Mb)(hxl:xs.length<=100000)(N:Nat)(q:Addr)(cp:Nat)(w:World)(hN:N<=w.heap.size)(aH:ai qJ 3 N w (some q) xs):Calls prog 159 #[.slice (some q) xs.length cp] w (aD w oY 3 131 xs id):=by
 refine ef 9 func159 ntmps159 ?_;refine rr bG (vw underlying48 rfl rfl) ?_;refine B 7 ?_;refine kp underlying48 sizeOf131 zeroValue131 rfl rfl rfl rfl rfl rfl rfl ?_;refine yW ?_;intro b5 rF rG;refine B 1 ?_;refine apR (xs:=([]:List Mb)) (zs:=xs) (enc:=oY) (m:=3) (H0:=[]) (H1:=[]) (sp:=[]) (by rfl) Fv Cc rfl rfl rfl rfl (cD.sl Cc nOh underlying48 A0 aH (λb hb=>⟨λh=>h,by simp only[bM,and_true];omega⟩)) ⟨aj _,rfl⟩ (.inr zC) mV ?_;intro b7 Dc ZD uq qj;have Fw:w.heap.size<=b7:=by rcases uq with h|h;(omega);exact h.not A0
 rw[eX]at qj ⊢;refine B 4 ?_;exact nQ (H0:=[]) (H1:=[]) (r:=.row b7 Dc ZD) (.inl rfl) results159 bB A0 (by simp only[eX,Over,and_true];omega) rfl qj Fw (by rfl)
theorem Fy(xs:List Mb)(hxl:xs.length<=100000)(N:Nat)(a:Option Addr)(cp:Nat)(w:World)(hN:N<=w.heap.size)(aH:ai qJ 3 N w a xs):Calls prog 159 #[.slice a xs.length cp] w (aD w oY 3 131 xs id):=by
 cases a with
 |none=>
  have h0:xs=[]:=by rcases aH with h|⟨b,off,cs,t,fr,h,_⟩;(exact h);cases h
  subst h0;exact nHm 0 cp w
 |some q=>exact n9k xs hxl N q cp w hN aH
section
variable {α:Type}{p:α->Bool}{xs:List α}
include α p
theorem nLg(h:gC p xs k):(xs.take k).filter (λx=> !p x)=xs.take k:=by
 rw[List.filter_eq_self];intro x hx;obtain⟨i,hi⟩:=jG.1 hx;have hl:=nq hi;rw[jM]at hl;rw[RX aa]at hi;simp[h i x aa hi]
theorem Lp(h:xs.any p=false):xs.filter (λx=> !p x)=xs:=by simp_all
theorem R6{x:α}(hx:xs[j]? =some x):(xs.take (j+1)).filter (λx=> !p x)=(xs.take j).filter (λx=> !p x)++(if p x=true then[]else[x]):=by
 rw[np hx,List.filter_append];congr 1;cases h:p x<;>simp[h]
end
theorem R7{α:Type}{enc:α->List Value}{m:Nat}{cur:List α}{x:α}(hm:∀x,(enc x).length=m)(hx:cur[j]? =some x):cut (iB enc cur++sp).toArray (0+((j:Int)).toNat*m) m=(enc x).toArray:=by grind [cut,ZE]
theorem R8{α:Type}{enc:α->List Value}{m:Nat}{cur:List α}(hm:∀x,(enc x).length=m)(hj:j<cur.length):0+((j:Int)).toNat*m+m<=(iB enc cur++sp).toArray.size:=by
 have h2:(j+1)*m<=cur.length*m:=w6 _ hj;all_goals grind [sT]
theorem Fz:∀l:List Value,(∀u∈l,yN u=true)->bD l=true:=
 by intro x;induction x<;>(intros;grind [bD])
theorem FA:∀{l:List Value},bD l=true->∀u∈l,yN u=true:=
 by intro x;induction x<;>(intros;grind [bD])
theorem nsf{zs:Array Value}(h:bD zs.toList=true)(n:Nat):bD (Builtin.zeroCells zs n).toList=true:=by
 refine Fz _ λu hu=>?_;simp only[Builtin.zeroCells,Array.toList_map,bT]at hu;obtain⟨i,hi,rfl⟩:=hu;have Wj:i<n*zs.size:=by simpa using hi
 have hp:0<zs.size:=by
  rcases Nat.eq_zero_or_pos zs.size with h0|h0
  ·rw[h0]at Wj;omega
  exact h0
 have hlt:i%zs.size<zs.size:=Nat.mod_lt _ hp;all_goals grind [FA]
theorem FB{W2:World}(h1:aQ (· =b) w W)(h2:Below W.heap.size W W2):aQ (· =b) w W2:=h1.trans (aQ.of_below h2)
theorem n8c{α:Type}{cur:List α}{x:α}(h:i<cur.length):(cur.set i x).take (i+1)=cur.take i++[x]:=by
 have h1:(cur.set i x)[i]? =some x:=by simp[h]
 rw[np h1,List.take_set_of_le (aj i)]
theorem n3d{α:Type}{cur:List α}{x:α}(h:i<j):(cur.set i x).drop j=cur.drop j:=List.drop_set_of_lt h
theorem ZF{α:Type}{cur xs:List α}{x:α}(h:cur.drop j=xs.drop j)(hx:xs[j]? =some x):cur[j]? =some x/\cur.drop (j+1)=xs.drop (j+1):=by
 have h1:(cur.drop j)[0]? =(xs.drop j)[0]? :=by rw[h]
 rw[RY,RY,Nat.add_zero,hx]at h1;refine⟨h1,?_⟩;have:=congrArg (List.drop 1) h;rwa[Wo,Wo]at this
theorem n6k(p:Ch->Bool)(f:Nat)(cap:List Value)(aA:eU prog f)(xs:List Ch)(hxl:xs.length<=100000)(b cp:Nat)(sp:List Value)(w:World)(hb:w.heap[b]? =some (bj oj 99 xs sp))(bP:(Rw.row b cp sp).Fit 5 xs)(hp:∀(j:Nat) (x:Ch),xs[j]? =some x->∀W,aQ (· =b) w W->b<W.heap.size->Calls prog f (.agg (gK x)::cap).toArray W (aP W (.bool (p x)))):Calls prog 211 #[.slice (ao b) xs.length cp,.func (.func f) #[] cap.toArray] w (λe w'=>∃bY,e= .returned ((λr=>r.val (xs.filter (λx=> !p x)).length) (Rw.row b cp bY))/\aQ (· =b) w w'/\(Rw.row b cp bY).Fit 5 (xs.filter (λx=> !p x))/\w'.heap[b]? =some (bj oj 99 (xs.filter (λx=> !p x)) bY)):=by
 have iI:=bP.1;have eM:=bP.2;have jr:=(bA.1 hb).1;refine nB (Gh.lent (· =b)) [(b,bj oj 99 xs sp)] (vs:=[_,_]) func211 rfl ntmps211 rfl (Ef hb) ?_;refine B 9 ?_;refine nv (α:=Int) (v:=λi:Int=>ab i) (Φ:=λ_ i _=>fF p xs i) call225 rfl rfl rfl (λW hS=>?_) ?_
 ·have zw:=hS.own (b,_) A0;have jQ:ai gK 5 W.heap.size W (ao b) xs:=by
   obtain⟨a9,c9,e9,h9⟩:=(Rw.row b cp sp).sl (enc:=oj) (t:=99) (N:=W.heap.size) (w:=W) Ce bP zw (aj _);exact zHh
  exact nXe p f cap aA xs aa W.heap.size (ao b) cp W (aj _) jQ (λj x hx W2 hB=>hp j x hx W2 (FB ((hS.links w A0).mono (λk _ hk=>by rcases hk with hk|hk;(exact hk);(simp only[dL,ft,dx,ec,cd,dV,or_false]at hk;first|exact hk|(rcases hk with hk|hk;(exfalso;omega);exact hk)))) hB) (by have:=(bA.1 zw).1;have:=hB.size;omega))
 intro Wi i wi Fa Fb hi;have hbi:=Fa.lt (b,_) A0;have hzi:=Fb.size;refine B 5 ?_;rcases hi with⟨rfl,sh⟩|⟨k,x0,rfl,tG,Wt,sV⟩
 ·refine B 2 ?_;refine Lq ?_;exact bQ (.inl rfl) results211 bB λW hS=>⟨sp,by rw[Lp sh];rfl,hS.baseX A1 OH,by rw[Lp sh];exact bP,by rw[Lp sh];exact hS.own _ A0⟩
 refine B 2 ?_;refine wX ?_;have sU:=nq tG;refine B 7 ?_;refine CJ.loop (α:=(Nat×List Ch)×Nat) (λp9=>[(0,.slice (ao b) xs.length cp),(1,.func (.func f) #[] cap.toArray),(5,ab (p9.1.1:Int)),(6,ab (p9.2:Int))]) (λp9=>[(b,bj oj 99 p9.1.2 sp)]) (λp9=>[w]) (λp9=>Gh.lent (· =b)) (λp9=>p9.1.1<p9.2/\p9.2<=xs.length/\p9.1.2.length=xs.length/\p9.1.2.take p9.1.1=(xs.take p9.2).filter (λx=> !p x)/\p9.1.2.drop p9.2=xs.drop p9.2) (λp9=>xs.length-p9.2) ((k,xs),k+1) ⟨by dsimp only;omega,by dsimp only;omega,rfl,by dsimp only;rw[R6 tG,if_pos Wt,nLg sV,ee],rfl⟩ zR rfl rfl zJ ?_;rintro⟨⟨i2,cur⟩,j⟩ ⟨vf,tE,mA,xa,zx⟩;dsimp only at vf tE mA xa zx ⊢;refine aG 9 ?_ ?_
 ·intro av;refine B 5 ?_;obtain⟨x,hx⟩:=ng xs j aa;obtain⟨wo,si⟩:=ZF zx hx;refine B 4 ?_;refine rq (.agg (gK x)) (fH (i:=0) rfl isAgg99 sizeOf99 rfl (R8 Ce aa)) (va (R7 (sp:=sp) Ce wo)) ?_;refine bH 1 ?_;intro b7 kh v7;refine B 7 ?_;refine zBd ?_;refine aG 3 ?_ ?_
  ·intro aR;refine B 6 ?_;refine Lr (enc:=oj) (m:=5) (i:=1) (j:=i2) (z:=x) rfl Ce nmk sizeOf99 rfl rfl rfl zJ aa rfl rfl ?_;exact zQg
  exact zjh
 intro av;refine B 6 ?_;have zy:j=xs.length:=by omega
 have jl:cur.take i2=(xs.filter (λx=> !p x)):=by rw[xa,zy,uw]
 refine B 3 ?_;refine rq (.slice (some ⟨b,if cp=i2 then 0 else 0+i2*5,none⟩) (cur.drop i2).length (cp-i2)) (gu (l:=i2) (h:=xs.length) underlying54 sizeOf99 rfl ⟨_,_,rfl,rfl⟩ rfl aa aa rfl) (by rw[B8,mA]) ?_;refine OJ.reH (H':=[(b,bj oj 99 (cur.take i2++cur.drop i2) sp)]) (by rw[AV]) ?_;refine AW (i:=0) rfl Ce underlying54 zeroValue99 rfl (nsf rfl _) rfl rfl zrb ?_;intro R9 zV;refine B 6 ?_;refine rq (.slice (ao b) (cur.take i2).length cp) (eL (h:=i2) underlying54 sizeOf99 rfl ⟨_,_,rfl,rfl⟩ aa) ZG ?_;refine B 4 ?_;exact bQ (.inl rfl) results211 bB λW hS=>⟨R9,by rw[<-jl];rfl,hS.baseX A0 OH,by rw[<-jl];exact⟨by rw[jM];omega,by rw[zV,B8,jM,eM,Nat.min_eq_left aa,mA,<-qh];congr 1;omega⟩,by rw[<-jl];exact hS.own _ A0⟩
theorem ngl(p:Mb->Bool)(f:Nat)(cap:List Value)(aA:eU prog f)(xs:List Mb)(hxl:xs.length<=100000)(b cp:Nat)(sp:List Value)(w:World)(hb:w.heap[b]? =some (bj oY 131 xs sp))(bP:(Rw.row b cp sp).Fit 3 xs)(hp:∀(j:Nat) (x:Mb),xs[j]? =some x->∀W,aQ (· =b) w W->b<W.heap.size->Calls prog f (.agg (qJ x)::cap).toArray W (aP W (.bool (p x)))):Calls prog 158 #[.slice (ao b) xs.length cp,.func (.func f) #[] cap.toArray] w (λe w'=>∃bY,e= .returned ((λr=>r.val (xs.filter (λx=> !p x)).length) (Rw.row b cp bY))/\aQ (· =b) w w'/\(Rw.row b cp bY).Fit 3 (xs.filter (λx=> !p x))/\w'.heap[b]? =some (bj oY 131 (xs.filter (λx=> !p x)) bY)):=by
 have iI:=bP.1;have eM:=bP.2;have jr:=(bA.1 hb).1;refine nB (Gh.lent (· =b)) [(b,bj oY 131 xs sp)] (vs:=[_,_]) func158 rfl ntmps158 rfl (Ef hb) ?_;refine B 9 ?_;refine nv (α:=Int) (v:=λi:Int=>ab i) (Φ:=λ_ i _=>fF p xs i) call118 rfl rfl rfl (λW hS=>?_) ?_
 ·have zw:=hS.own (b,_) A0;have jQ:ai qJ 3 W.heap.size W (ao b) xs:=by
   obtain⟨a9,c9,e9,h9⟩:=(Rw.row b cp sp).sl (enc:=oY) (t:=131) (N:=W.heap.size) (w:=W) Cc bP zw (aj _);exact zHh
  exact nvd p f cap aA xs aa W.heap.size (ao b) cp W (aj _) jQ (λj x hx W2 hB=>hp j x hx W2 (FB ((hS.links w A0).mono (λk _ hk=>by rcases hk with hk|hk;(exact hk);(simp only[dL,ft,dx,ec,cd,dV,or_false]at hk;first|exact hk|(rcases hk with hk|hk;(exfalso;omega);exact hk)))) hB) (by have:=(bA.1 zw).1;have:=hB.size;omega))
 intro Wi i wi Fa Fb hi;have hbi:=Fa.lt (b,_) A0;have hzi:=Fb.size;refine B 5 ?_;rcases hi with⟨rfl,sh⟩|⟨k,x0,rfl,tG,Wt,sV⟩
 ·refine B 2 ?_;refine Lq ?_;exact bQ (.inl rfl) results158 bB λW hS=>⟨sp,by rw[Lp sh];rfl,hS.baseX A1 OH,by rw[Lp sh];exact bP,by rw[Lp sh];exact hS.own _ A0⟩
 refine B 2 ?_;refine wX ?_;have sU:=nq tG;refine B 7 ?_;refine CJ.loop (α:=(Nat×List Mb)×Nat) (λp9=>[(0,.slice (ao b) xs.length cp),(1,.func (.func f) #[] cap.toArray),(5,ab (p9.1.1:Int)),(6,ab (p9.2:Int))]) (λp9=>[(b,bj oY 131 p9.1.2 sp)]) (λp9=>[w]) (λp9=>Gh.lent (· =b)) (λp9=>p9.1.1<p9.2/\p9.2<=xs.length/\p9.1.2.length=xs.length/\p9.1.2.take p9.1.1=(xs.take p9.2).filter (λx=> !p x)/\p9.1.2.drop p9.2=xs.drop p9.2) (λp9=>xs.length-p9.2) ((k,xs),k+1) ⟨by dsimp only;omega,by dsimp only;omega,rfl,by dsimp only;rw[R6 tG,if_pos Wt,nLg sV,ee],rfl⟩ zR rfl rfl zJ ?_;rintro⟨⟨i2,cur⟩,j⟩ ⟨vf,tE,mA,xa,zx⟩;dsimp only at vf tE mA xa zx ⊢;refine aG 9 ?_ ?_
 ·intro av;refine B 5 ?_;obtain⟨x,hx⟩:=ng xs j aa;obtain⟨wo,si⟩:=ZF zx hx;refine B 4 ?_;refine rq (.agg (qJ x)) (fH (i:=0) rfl isAgg131 sizeOf131 rfl (R8 Cc aa)) (va (R7 (sp:=sp) Cc wo)) ?_;refine bH 1 ?_;intro b7 kh v7;refine B 7 ?_;refine zBd ?_;refine aG 3 ?_ ?_
  ·intro aR;refine B 6 ?_;refine Lr (enc:=oY) (m:=3) (i:=1) (j:=i2) (z:=x) rfl Cc nOh sizeOf131 rfl rfl rfl zJ aa rfl rfl ?_;exact zQg
  exact zjh
 intro av;refine B 6 ?_;have zy:j=xs.length:=by omega
 have jl:cur.take i2=(xs.filter (λx=> !p x)):=by rw[xa,zy,uw]
 refine B 3 ?_;refine rq (.slice (some ⟨b,if cp=i2 then 0 else 0+i2*3,none⟩) (cur.drop i2).length (cp-i2)) (gu (l:=i2) (h:=xs.length) underlying48 sizeOf131 rfl ⟨_,_,rfl,rfl⟩ rfl aa aa rfl) (by rw[B8,mA]) ?_;refine OJ.reH (H':=[(b,bj oY 131 (cur.take i2++cur.drop i2) sp)]) (by rw[AV]) ?_;refine AW (i:=0) rfl Cc underlying48 zeroValue131 rfl (nsf rfl _) rfl rfl zrb ?_;intro R9 zV;refine B 6 ?_;refine rq (.slice (ao b) (cur.take i2).length cp) (eL (h:=i2) underlying48 sizeOf131 rfl ⟨_,_,rfl,rfl⟩ aa) ZG ?_;refine B 4 ?_;exact bQ (.inl rfl) results158 bB λW hS=>⟨R9,by rw[<-jl];rfl,hS.baseX A0 OH,by rw[<-jl];exact⟨by rw[jM];omega,by rw[zV,B8,jM,eM,Nat.min_eq_left aa,mA,<-qh];congr 1;omega⟩,by rw[<-jl];exact hS.own _ A0⟩
section
open Go.Proofs Go.Shelf Go.Lib Go.Sort
theorem Ls(a:Int)(W:World):Calls prog 169 #[ab a] W λe w'=>e= .returned (bG)/\w'=W:=by
 go_enter func169,ntmps169
 go_wp2
 go_ret
 simp
theorem AX(a b:Int)(W:World):Calls prog 103 #[ab a,ab b] W λe w'=>e= .returned (ab (du a b))/\w'=W:=by
 have key:∀v:Int,v=du a b->ab v=ab (du a b):=λv h=>by rw[h]
 go_enter func103,ntmps103
 go_wp2_with (go_at_call 169;refine(Ls _ _).mono ?_;rintro e w' ⟨rfl,rfl⟩)
 all_goals go_ret
 all_goals exact⟨congrArg Ending.returned (key _ (by unfold du;(repeat' split)<;>omega)),rfl⟩
theorem aiU(x y:Ch)(W:World):Calls prog 214 #[.agg (oj x).toArray,.agg (oj y).toArray] W λe w'=>e= .returned (ab (du x.dev y.dev))/\∃q Aa,w'=grow (W.drewN q) Aa:=by
 have oA:=λW'=>AX x.dev y.dev W';generalize du x.dev y.dev=r at oA ⊢;unfold oj
 go_enter func214,ntmps214
 go_wp2_with (go_at_call 103;refine(oA _).mono ?_;rintro e w' ⟨rfl,rfl⟩)
 go_ret
 exact zkh
theorem aiV(x y:Mb)(W:World):Calls prog 161 #[.agg (oY x).toArray,.agg (oY y).toArray] W λe w'=>e= .returned (ab (du x.dev y.dev))/\∃q Aa,w'=grow (W.drewN q) Aa:=by
 have oA:=λW'=>AX x.dev y.dev W';generalize du x.dev y.dev=r at oA ⊢;unfold oY
 go_enter func161,ntmps161
 go_wp2_with (go_at_call 103;refine(oA _).mono ?_;rintro e w' ⟨rfl,rfl⟩)
 go_ret
 exact zkh
instance:Inhabited Ch:=⟨⟨0,0,0,0,0⟩⟩
instance:Inhabited Mb:=⟨⟨0,0,0⟩⟩
def gU {α:Type} [Inhabited α] (cf:α->α->Int) (xs:List α):List α:=(pdq (ltOf cf) xs.toArray 0 xs.toArray.size (Lib.bitLen xs.toArray.size) true true).toList
theorem nIh{α:Type}(k:α->Int):SWO (ltOf λx y:α=>du (k x) (k y)):=by
 refine⟨λx=>?_,λx y z h1 h2=>?_,λx y z h1 h2=>?_⟩<;>simp only[ltOf,nuj,decide_eq_true_eq,decide_eq_false_iff_not]at* <;>omega
theorem ndo{α:Type}(q:Array α)(n:Nat)(h:q.size=n):q.extract 0 n=q:=by subst h;simp
theorem Wu{α:Type}[Inhabited α]{cf:α->α->Int}(hO:SWO (ltOf cf))(xs:List α):(gU cf xs).Perm xs:=by
 have h:=(pdq_sorts (ltOf cf) hO xs.toArray 0 xs.toArray.size (Lib.bitLen xs.toArray.size) true true (cY _) (aj _) (Or.inl rfl)).1;obtain⟨h1,_,h3⟩:=h;rw[ndo _ _ h1,ndo _ _ rfl]at h3;exact h3
theorem O1{α:Type}[Inhabited α]{cf:α->α->Int}(hO:SWO (ltOf cf))(xs:List α):(gU cf xs).length=xs.length:=(Wu hO xs).length_eq
end
abbrev Cl (xs:List Ch):List Ch:=gU (λx y=>du x.dev y.dev) xs
abbrev sj (xs:List Mb):List Mb:=gU (λx y=>du x.dev y.dev) xs
theorem nig(xs:List Ch):(Cl xs).length=xs.length:=O1 (nIh (λx:Ch=>x.dev)) xs
theorem ZH(xs:List Mb):(sj xs).length=xs.length:=O1 (nIh (λx:Mb=>x.dev)) xs
theorem ZI{xs:List Ch}(hl:xs.length<=1000000){cap:Nat}(bP:(Rw.row b cap sp).Fit 5 xs)(h:W.heap[b]? =some (bj oj 99 xs sp)):Calls prog 213 #[.slice (ao b) xs.length cap,.func (.func 214) #[] #[]] W (λe w'=>∃bY,e= .returned ((λ_=>.tuple #[]) (Rw.row b cap bY))/\aQ (· =b) W w'/\(Rw.row b cap bY).Fit 5 (Cl xs)/\w'.heap[b]? =some (bj oj 99 (Cl xs) bY)):=by
 have hc:=Go.Proofs.AnyQ.slices_SortFunc_eq Go.Proofs.Tryz.laySX 5 isAgg99 sizeOf99 oj Ce nmk (λx y=>du x.dev y.dev) (nIh (λx:Ch=>x.dev)) 214 #[] b 0 cap xs.toArray W (Go.Proofs.enters_of func214 zO rfl) (λ_ _ _ _ x y=>aiU x y _) (nlj Ce h) (bA.1 h).1 mV;change Calls prog 213 _ _ _ at hc;refine hc.mono ?_;rintro e w' ⟨rfl,n,os,rfl⟩;have hp:=ZJ (n:=n) (os:=os) Ce h (ys:=Cl xs) (nig xs);exact⟨sp,rfl,hp.1,by simp only[Rw.Fit,nig];exact bP,hp.2⟩
theorem ZK(hl:xs.length<=1000000){cap:Nat}(bP:(Rw.row b cap sp).Fit 3 xs)(h:W.heap[b]? =some (bj oY 131 xs sp)):Calls prog 160 #[.slice (ao b) xs.length cap,.func (.func 161) #[] #[]] W (λe w'=>∃bY,e= .returned ((λ_=>.tuple #[]) (Rw.row b cap bY))/\aQ (· =b) W w'/\(Rw.row b cap bY).Fit 3 (sj xs)/\w'.heap[b]? =some (bj oY 131 (sj xs) bY)):=by
 have hc:=Go.Proofs.AnyQ.slices_SortFunc_eq Go.Proofs.Tryz.laySM 3 isAgg131 sizeOf131 oY Cc nOh (λx y=>du x.dev y.dev) (nIh (λx:Mb=>x.dev)) 161 #[] b 0 cap xs.toArray W (Go.Proofs.enters_of func161 zO rfl) (λ_ _ _ _ x y=>aiV x y _) (nlj Cc h) (bA.1 h).1 mV;change Calls prog 160 _ _ _ at hc;refine hc.mono ?_;rintro e w' ⟨rfl,n,os,rfl⟩;have hp:=ZJ (n:=n) (os:=os) Cc h (ys:=sj xs) (ZH xs);exact⟨sp,rfl,hp.1,by simp only[Rw.Fit,ZH];exact bP,hp.2⟩
theorem nZh(f:Nat)(cap:List Value)(aA:eU prog f)(w:World):Calls prog 211 #[ak,.func (.func f) #[] cap.toArray] w (aP w (ak)):=by
 refine ef 9 func211 ntmps211 ?_;refine nv (α:=Int) (v:=λi:Int=>ab i) (Φ:=λ_ i _=>fF (λ_:Ch=>false) [] i) call225 rfl rfl rfl (λW hS=>nXe (λ_=>false) f cap aA [] zJ W.heap.size none 0 W (aj _) (.inl rfl) (λj x hx=>by simp at hx)) ?_;intro Wi i wi Fa Fb hi;have qD:i= -1:=by rcases hi with⟨h,_⟩|⟨k,x,_,hx,_⟩;(exact h);simp at hx
 subst qD;refine B 7 ?_;refine Lq ?_;refine aK results211 rfl A1 ?_;rfl
theorem nbl(w:World):Calls prog 312 #[ak,ab 0,ab 0,.func (.func 214) #[] #[]] w (aP w (.tuple #[])):=by
 refine ef 8 func312 ntmps312 ?_;refine zFd ?_;rintro j _;refine B 5 ?_;refine wX ?_;exact cu (.inr rfl) results312 bB A0 trivial rfl
theorem nYo(l:Int)(w:World):Calls prog 273 #[ak,ab 0,ab 0,ab l,.func (.func 214) #[] #[]] w (aP w (.tuple #[])):=by
 refine ef 11 func273 ntmps273 ?_;refine zGd ?_;rintro j _;refine QE ?_;refine B 9 ?_;refine call call312 rfl rfl rfl (λW hS=>nbl W) ?_;refine B 7 ?_;exact cu (.inl rfl) results273 bB A0 trivial rfl
theorem nhn(w:World):Calls prog 213 #[ak,.func (.func 214) #[] #[]] w (aP w (.tuple #[])):=by
 refine eN func213 ntmps213 ?_;refine z1f ?_;refine call call273 rfl rfl rfl (λW hS=>nYo _ W) ?_;refine B 1 ?_;exact cu (.inr rfl) results213 bB A0 trivial rfl
theorem nXh(f:Nat)(cap:List Value)(aA:eU prog f)(w:World):Calls prog 158 #[ak,.func (.func f) #[] cap.toArray] w (aP w (ak)):=by
 refine ef 9 func158 ntmps158 ?_;refine nv (α:=Int) (v:=λi:Int=>ab i) (Φ:=λ_ i _=>fF (λ_:Mb=>false) [] i) call118 rfl rfl rfl (λW hS=>nvd (λ_=>false) f cap aA [] zJ W.heap.size none 0 W (aj _) (.inl rfl) (λj x hx=>by simp at hx)) ?_;intro Wi i wi Fa Fb hi;have qD:i= -1:=by rcases hi with⟨h,_⟩|⟨k,x,_,hx,_⟩;(exact h);simp at hx
 subst qD;refine B 7 ?_;refine Lq ?_;refine aK results158 rfl A1 ?_;rfl
theorem n7k(w:World):Calls prog 276 #[ak,ab 0,ab 0,.func (.func 161) #[] #[]] w (aP w (.tuple #[])):=by
 refine ef 8 func276 ntmps276 ?_;refine zFd ?_;rintro j _;refine B 5 ?_;refine wX ?_;exact cu (.inr rfl) results276 bB A0 trivial rfl
theorem nep(l:Int)(w:World):Calls prog 226 #[ak,ab 0,ab 0,ab l,.func (.func 161) #[] #[]] w (aP w (.tuple #[])):=by
 refine ef 11 func226 ntmps226 ?_;refine zGd ?_;rintro j _;refine QE ?_;refine B 9 ?_;refine call call276 rfl rfl rfl (λW hS=>n7k W) ?_;refine B 7 ?_;exact cu (.inl rfl) results226 bB A0 trivial rfl
theorem nmn(w:World):Calls prog 160 #[ak,.func (.func 161) #[] #[]] w (aP w (.tuple #[])):=by
 refine eN func160 ntmps160 ?_;refine z1f ?_;refine call call226 rfl rfl rfl (λW hS=>nep _ W) ?_;refine B 1 ?_;exact cu (.inr rfl) results160 bB A0 trivial rfl
theorem nvm:Cl []=[]:=my (nig [])
theorem FC:sj []=[]:=my (ZH [])
def oB (au:Int) (l:List Ch):List Ch:=Cl (l.filter λx=> !sg au x)
theorem n6b(au:Int)(l:List Ch)(hxl:l.length<=100000)(N:Nat)(a:Option Addr)(cp:Nat)(w:World)(hN:N<=w.heap.size)(aH:ai gK 5 N w a l):Calls prog 144 #[ab au,.slice a l.length cp] w (aD w oj 5 99 (oB au l) id):=by
 refine eN func144 ntmps144 ?_;refine cH 2 ?_;intro b2 w2 dw bX fB dJ dH;refine B 6 ?_;refine Jj (enc:=oj) (m:=5) (t:=99) (xs:=l) (v:=id) (first:=[]) (cap:=[]) rfl call138 rfl rfl rfl (λW hS=>nul l hxl N a cp W cJ (aH.up (aj _) hS.sm)) ?_;intro r aM ae;have bJ:=Rw.ge_of aM A1;refine B 1 ?_;refine EM (r:=r) (enc:=oj) (m:=5) (t:=99) (xs:=l) (ys:=l.filter λx=> !sg au x) (H0:=[]) (H1:=[]) (v:=λr=>r.val (l.filter λx=> !sg au x).length) rfl call211 rfl rfl rfl (λhr W hS=>?_) (λb cap sp hr W hS h=>?_) ?_
 ·subst hr;have h0:l=[]:=ae;subst h0;exact(nZh 212 [ptr b2 0] call212 W).mono λe w2 h=>⟨h.1,rfl,h.2⟩
 ·subst hr;have hbA:w2.heap.size<=b:=(aM.elim (λh=>h.elim) id:ah _ b).not (w:=w2) A0;exact n6k (sg au) 212 [ptr b2 0] call212 l aa b cap sp W h ae (λj x hx W2 hK aiW=>nHp au b2 x W2 (by have h2:=(hS.links w2 A0).size;rw[hK.block b2 aa aa];exact hS.old A0 dw bX zz))
 intro r2 eM lS rT kA;have iV:=lS aM;have ey:=rT _ bJ;refine B 6 ?_;refine EM (r:=r2) (enc:=oj) (m:=5) (t:=99) (xs:=l.filter λx=> !sg au x) (ys:=oB au l) (H0:=[]) (H1:=[]) (v:=λ_=>.tuple #[]) rfl call213 rfl rfl rfl (λhr W hS=>?_) (λb cap sp hr W hS h=>?_) ?_
 ·subst hr;have h0:(l.filter λx=> !sg au x)=[]:=eM;unfold oB;rw[h0];exact(nhn W).mono λe w2 h=>⟨h.1,nvm,h.2⟩
 ·subst hr;exact ZI (eE (Sa _ _) aa) eM h
 intro r3 mZ u9 EN EO;have KM:=u9 iV;have qb:=EN _ ey;refine B 9 ?_;have AM:(l.filter λx=> !sg au x).length=(oB au l).length:=by unfold oB;rw[nig]
 exact nQ (H0:=[]) (H1:=[]) (r:=r3) (.inl rfl) results144 bB A1 (by rw[ee];exact Rw.over qb) (by show r2.val _=r3.val _;rw[EO,AM]) mZ qb zJ
def uG:Gp:=⟨0,0,λ_=>0,[],[]⟩
def gf:Gv:=⟨uG,none,0,none,0⟩
theorem ZL(N:Nat)(w:World):cj N w gf:=⟨.inl rfl,.inl rfl,by simp[gf,uG],by simp[gf,uG]⟩
def Dj (w:World) (g:Gp) (e:Int):Ending->World->Prop:=cZ w (λX:Gv=>.tuple #[.agg (bF X),ab e]) (λX w'=>X.g=g/\cj w'.heap.size w' X/\(∀q,X.ma=some q->w.heap.size<=q.block)/\(∀q,X.na=some q->w.heap.size<=q.block))
def lC (g:Gp) (c:Cm):Bool:=decide (c.folder=g.folder)&&decide (c.epoch=g.epoch+1)&&iA c.par g.last
noncomputable def oD (ns:List Nd) (d:Int):Int:=if jF ns=0 then(if(aF (di ns) (512+d)).isSome=true then 0 else 200)else 210
noncomputable def ck (ns:List Nd) (d:Int) (l:List Int):List Nd:=if jF ns=0/\(aF (di ns) (512+d)).isSome=true then nU (rV (di ns) d l)else[]
theorem nHg(ns:List Nd)(hn:ns.length<=100000)(N:Nat)(a:Option Addr)(cp:Nat)(w:World)(hN:N<=w.heap.size)(aH:ai fV 2 N w a ns)(d:Int)(hd:dd d)(l:List Int)(oh:∀y∈l,eg y)(hl:l.length<=1000)(NP:Nat)(ap:Option Addr)(ig:Nat)(oi:ai encI 1 NP w ap l)(De:NP<=w.heap.size)(Rp:l.length=10)(yZ:ns.length<90000):Calls prog 154 #[.agg #[.slice a ns.length cp],ab d,.slice ap l.length ig] w (aD w ie 2 240 (ck ns d l) (λs=>.tuple #[.agg #[s],ab (oD ns d)])):=by
 rcases nBh ns with h|h
 ·by_cases h2:(aF (di ns) (512+d)).isSome=true
  ·have e1:ck ns d l=nU (rV (di ns) d l):=by unfold ck;rw[if_pos ⟨h,h2⟩]
   have e2:oD ns d=0:=by unfold oD;rw[if_pos h,if_pos h2]
   rw[e1,e2];exact E6 ns hn N a cp w hN aH h d hd h2 l oh hl NP ap ig oi De Rp yZ
  have e1:ck ns d l=[]:=by unfold ck;rw[if_neg λg=>h2 g.2]
  have e2:oD ns d=200:=by unfold oD;rw[if_pos h,if_neg h2]
  rw[e1,e2];exact E5 ns hn N a cp w hN aH h d hd K9 l oh hl NP ap ig oi De
 have e1:ck ns d l=[]:=by unfold ck;rw[if_neg λg=>by have:=g.1;omega]
 have e2:oD ns d=210:=by unfold oD;rw[if_neg aa]
 rw[e1,e2];exact nRp ns hn N a cp w hN aH h d l oh hl NP ap ig oi De
section
variable (hZ:FxOk Z)(G:Gv)(c:Cm)(dE:bN c)(N:Nat)(w:World)(hN:N<=w.heap.size)(hG:cj N w G)(hC:dB N w c)(hg:Glb w)
include hZ dE hN hG hC hg
theorem FD(hv:dX G.g=false):Calls prog 83 #[.agg (bF G),.agg (cM c)] w (Dj w uG 1):=by
 refine Lt ?_;refine yV ?_;intro b2 w2 dw bX fB dJ dH;refine yX ?_;intro b3 w3 dA cX fT eC ff;refine bH 1 ?_;intro b4 iT iU;refine aE 6 (.agg (bF G)) ?_;refine zwe ?_;refine B 12 ?_;exact ZM
theorem FE(hv:dX G.g=true)(kD:sX c=220):Calls prog 83 #[.agg (bF G),.agg (cM c)] w (Dj w uG 220):=by
 refine Lt ?_;refine yV ?_;intro b2 w2 dw bX fB dJ dH;refine yX ?_;intro b3 w3 dA cX fT eC ff;refine bH 1 ?_;intro b4 iT iU;refine Zk ?_;refine aE 8 (.agg (cM c)) ?_;refine call call149 rfl rfl rfl (λW hS=>by rw[<-kD];exact nvb c dE.few N W cJ (hC.up (aj _) hS.sm)) (v:=ab 220) ?_;refine aE 6 bZ ?_;refine B 13 ?_;exact ZM
end
theorem Sb(hf:lC g c=false)(h1:c.folder=g.folder)(h2:c.epoch=g.epoch+1):iA c.par g.last=false:=by grind [iA,lC]
theorem Wv(hf:lC g c=true):c.folder=g.folder/\c.epoch=g.epoch+1/\iA c.par g.last=true:=by grind [lC]
section
variable (hZ:FxOk Z)(G:Gv)(c:Cm)(dE:bN c)(N:Nat)(w:World)(hN:N<=w.heap.size)(hG:cj N w G)(hC:dB N w c)(hg:Glb w)(hv:dX G.g=true)(kD:sX c=0)
include hZ dE hN hG hC hg hv kD
theorem FF(hf:lC G.g c=false):Calls prog 83 #[.agg (bF G),.agg (cM c)] w (Dj w uG 220):=by
 have sS:=zk.1 hv;have Wz:=sS.1.2.2.1;have vx:=sS.1.2.1;have fQ:=OV.1 kD;have Cn:=fQ.e1;have Co:=fQ.e2;refine Lt ?_;refine yV ?_;intro b2 w2 dw bX fB dJ dH;refine yX ?_;intro b3 w3 dA cX fT eC ff;refine bH 1 ?_;intro b4 iT iU;refine Zk ?_;refine B 8 ?_;refine zgf ?_;refine B 6 ?_;refine wX ?_;by_cases h1:¬c.folder=G.g.folder
 ·refine aE 5 bZ ?_;refine B 27 ?_;exact ZM
 by_cases h2:¬c.epoch=G.g.epoch+1
 ·refine B 5 ?_;refine Eo ?_;refine dp bZ ?_;refine B 20 ?_;exact ZM
 have h3:=Sb hf aa aa;refine B 5 ?_;refine Eo ?_;refine Eo ?_;refine rq bZ (dT nO zA nF rfl rfl rfl) (congrArg (λq=>Value.bool (!q)) h3) ?_;refine B 13 ?_;exact ZM
theorem FG(hf:lC G.g c=true)(hne:fk G.g c.author c.chs=221):Calls prog 83 #[.agg (bF G),.agg (cM c)] w (Dj w uG 221):=by
 have sS:=zk.1 hv;have Wz:=sS.1.2.2.1;have vx:=sS.1.2.1;have fQ:=OV.1 kD;have Cn:=fQ.e1;have Co:=fQ.e2;obtain⟨h1,h2,h3⟩:=Wv hf;have tD:=fQ.au;have AN:=dE.few.chs;refine Lt ?_;refine yV ?_;intro b2 w2 dw bX fB dJ dH;refine yX ?_;intro b3 w3 dA cX fT eC ff;refine bH 1 ?_;intro b4 iT iU;refine Zk ?_;refine B 8 ?_;refine zgf ?_;refine aE 6 bG ?_;refine B 12 ?_;refine Eo ?_;refine Eo ?_;refine rq bG (dT nO zA nF rfl rfl rfl) (congrArg (λq=>Value.bool (!q)) h3) ?_;refine aE 8 (.agg (bF G)) ?_;refine B 4 ?_;refine nH (enc:=tK) (m:=4) (t:=110) (xs:=(gE G.g c.author c.chs)) (v:=λs=>.tuple #[s,ab 221]) (first:=[]) (cap:=[]) rfl call134 rfl rfl rfl VY (λW hS=>by rw[<-hne];exact nBb G N W cJ (hG.up (aj _) hS.sm) c.chs aa c.ca c.cc (hC.chs.up (aj _) hS.sm) c.author tD) ?_;intro Wn an cn wn tM AS so sq;have xd:=tM.sizes;replace xd:=yb xd;have VZ:=AS.size;have uC:=tM.under;replace uC:=yg uC;refine aE 11 bZ ?_;refine B 13 ?_;exact z0h
end
theorem n5m(hv:dX g=true)(h:fk g au l=0):jP l=true/\lU g au l=true/\gE g au l=lu (aN g.ns l) au:=by grind [fk,xZ,gE]
noncomputable def vy (g:Gp) (c:Cm):Bool:=lB Js c.bxs (gE g c.author c.chs)
def xe (c:Cm):Bool:=lB Wg c.wes (oB c.author c.chs)
noncomputable def Ab (Z:Fx) (g:Gp) (c:Cm):Bool:=pA Z (lA g c.author c.chs) (cI (ow Z c)) c.sr c.ss
section
variable (hZ:FxOk Z)(G:Gv)(c:Cm)(dE:bN c)(N:Nat)(w:World)(hN:N<=w.heap.size)(hG:cj N w G)(hC:dB N w c)(hg:Glb w)(hv:dX G.g=true)(kD:sX c=0)(hf:lC G.g c=true)(hne:fk G.g c.author c.chs=0)
include hZ dE hN hG hC hg hv kD hf hne
theorem Lu(hb:vy G.g c=false):Calls prog 83 #[.agg (bF G),.agg (cM c)] w (Dj w uG 220):=by
 have sS:=zk.1 hv;have Wz:=sS.1.2.2.1;have vx:=sS.1.2.1;have fQ:=OV.1 kD;have Cn:=fQ.e1;have Co:=fQ.e2;obtain⟨h1,h2,h3⟩:=Wv hf;have tD:=fQ.au;have AN:=dE.few.chs;have yU:=dE.few.bxs;have V4:=dE.few.wes;refine Lt ?_;refine yV ?_;intro b2 w2 dw bX fB dJ dH;refine yX ?_;intro b3 w3 dA cX fT eC ff;refine bH 1 ?_;intro b4 iT iU;refine ZN ?_;intro Wn an cn wn tM AS so sq;have xd:=tM.sizes;replace xd:=yb xd;have VZ:=AS.size;have uC:=tM.under;replace uC:=yg uC;refine ZO ?_;refine eA 15 (pb:=by exact zU 4 (k:=by exact aJ (nf call152 rfl rfl (λW hS _=>by have h9:=ZC c.bxs aa W.heap.size c.ba c.bc W (aj _) (hC.bxs.up cJ hS.sm) (gE G.g c.author c.chs) an cn (so.to hS A0 (aj _) (λb off e=>.inr ZP));rw[show lB Js c.bxs (gE G.g c.author c.chs)=false from hb]at h9;exact h9) (λ_=>rfl)) zT)) (sp:=(_::_::_::_::(some (bG))::(some bZ)::_)) (k:=?_);refine B 15 ?_;exact z0h
theorem Lv(hb:vy G.g c=true)(hw:xe c=false):Calls prog 83 #[.agg (bF G),.agg (cM c)] w (Dj w uG 220):=by
 have sS:=zk.1 hv;have Wz:=sS.1.2.2.1;have vx:=sS.1.2.1;have fQ:=OV.1 kD;have Cn:=fQ.e1;have Co:=fQ.e2;obtain⟨h1,h2,h3⟩:=Wv hf;have tD:=fQ.au;have AN:=dE.few.chs;have yU:=dE.few.bxs;have V4:=dE.few.wes;refine Lt ?_;refine yV ?_;intro b2 w2 dw bX fB dJ dH;refine yX ?_;intro b3 w3 dA cX fT eC ff;refine bH 1 ?_;intro b4 iT iU;refine ZN ?_;intro Wn an cn wn tM AS so sq;have xd:=tM.sizes;replace xd:=yb xd;have VZ:=AS.size;have uC:=tM.under;replace uC:=yg uC;refine ZO ?_;refine eS 15 13 [] (pb:=by exact zU 4 (k:=by exact aJ (nf call152 rfl rfl (λW hS _=>by have h9:=ZC c.bxs aa W.heap.size c.ba c.bc W (aj _) (hC.bxs.up cJ hS.sm) (gE G.g c.author c.chs) an cn (so.to hS A0 (aj _) (λb off e=>.inr ZP));rw[show lB Js c.bxs (gE G.g c.author c.chs)=true from hb]at h9;exact h9) (λ_=>rfl)) zT)) (sp:=(_::_::_::_::(some (bZ))::(some bG)::_)) (h:=?_);intro _ _ hk;refine z7c ?_;intro W_ aw cw ww qN wu xf su;have Cp:=(qN.links wn A0).size;have xg:∀q,aw=some q->wn.heap.size<=q.block:=λq e=>eE Cp (su q e);refine zE ?_;refine call call153 rfl rfl rfl (λW hS=>by have h9:=ntd c.wes aa W.heap.size c.wa c.wc W (aj _) (hC.wes.up cJ hS.sm) (oB c.author c.chs) aw cw (xf.to hS A0 (aj _) (λb off e=>.inr zHb));rw[show lB Wg c.wes (oB c.author c.chs)=false from hw]at h9;exact h9) (v:=.bool false) ?_
 refine dp bZ ?_;refine B 13 ?_;exact bQ (.inl rfl) results83 bB λW hS=>⟨gf,rfl,hS.base A4 zB,rfl,ZL _ _,λq h=>zS,λq h=>zS⟩
end
theorem nik(h:lU g au l=true)(h0:0<=g.epoch)(hm:gD g.ms au=false):0<l.length:=by grind [lU]
theorem FH(hZ:FxOk Z)(G:Gv)(c:Cm)(dE:bN c)(N:Nat)(w:World)(hN:N<=w.heap.size)(hG:cj N w G)(hC:dB N w c)(hg:Glb w)(hv:dX G.g=true)(kD:sX c=0)(hf:lC G.g c=true)(hne:fk G.g c.author c.chs=0)(hb:vy G.g c=true)(hw:xe c=true)(Jt:Ab Z G.g c=false):Calls prog 83 #[.agg (bF G),.agg (cM c)] w (Dj w uG 222):=by
 have sS:=zk.1 hv;have Wz:=sS.1.2.2.1;have vx:=sS.1.2.1;have fQ:=OV.1 kD;have Cn:=fQ.e1;have Co:=fQ.e2;obtain⟨h1,h2,h3⟩:=Wv hf;have tD:=fQ.au;have AN:=dE.few.chs;have yU:=dE.few.bxs;have V4:=dE.few.wes;have hg4:=hg.lt;obtain⟨uH,gV,wZ⟩:=n5m hv hne;refine Lt ?_;refine yV ?_;intro b2 w2 dw bX fB dJ dH;refine yX ?_;intro b3 w3 dA cX fT eC ff;refine bH 1 ?_;intro b4 iT iU;refine ZN ?_;intro Wn an cn wn tM AS so sq;have xd:=tM.sizes;replace xd:=yb xd;have VZ:=AS.size;have uC:=tM.under;replace uC:=yg uC;refine ZO ?_;refine eS 15 13 [] (pb:=by exact zU 4 (k:=by exact aJ (nf call152 rfl rfl (λW hS _=>by have h9:=ZC c.bxs aa W.heap.size c.ba c.bc W (aj _) (hC.bxs.up cJ hS.sm) (gE G.g c.author c.chs) an cn (so.to hS A0 (aj _) (λb off e=>.inr ZP));rw[show lB Js c.bxs (gE G.g c.author c.chs)=true from hb]at h9;exact h9) (λ_=>rfl)) zT)) (sp:=(_::_::_::_::(some (bZ))::(some bG)::_)) (h:=?_);intro _ _ hk;refine z7c ?_;intro W_ aw cw ww qN wu xf su;have Cp:=(qN.links wn A0).size;have xg:∀q,aw=some q->wn.heap.size<=q.block:=λq e=>eE Cp (su q e);refine z6c ?_;refine CV ?_;refine eS 10 7 [] (pb:=by exact zU 5 (k:=by exact aJ (nf call135 rfl rfl (λW hS _=>nPc G N W cJ (hG.up (aj _) hS.sm) c.chs aa c.ca c.cc (hC.chs.up (aj _) hS.sm) c.author (λhm=>nik gV vx hm)) (λ_=>rfl)) zT)) (sp:=[some (.agg (bF G)),_,_,_,some (.slice c.ca c.chs.length c.cc),some (ab (lA G.g c.author c.chs)),some (.agg (cM c)),_,_,some (.agg #[ab c.sr,ab c.ss])]) (h:=?_)
 intro _ _ hk;refine zdd ?_;rintro W_ bm wm qN wu ⟨Cp,oW⟩;try dsimp only at Cp oW
 have FI:=(qN.links wn A1).size;have qk:wn.heap.size<=bm:=by omega
 refine zE ?_;refine call call75 rfl rfl rfl (λW hS=>by have h9:=n1c hZ (lA G.g c.author c.chs) c.sr c.ss (cI (ow Z c)) bm 0 32 (by rw[nS];decide) W (cx.dg (hS.old A0 oW zI zz) (hZ.byt _ _)) (hg.old hS A5 zH zF);rw[nS,show pA Z (lA G.g c.author c.chs) (cI (ow Z c)) c.sr c.ss=false from Jt]at h9;exact h9) (v:=.bool false) ?_;refine YQ ?_;exact bQ (.inl rfl) results83 bB λW hS=>⟨gf,rfl,hS.base A5 zB,rfl,ZL _ _,λq h=>zS,λq h=>zS⟩
structure Cd where
 at_:Int
 c:Cm
 id:Nat->Int
 since:Int
 x:Gv
def jm (d:Cd):Array Value:=(ab d.at_::ab d.c.folder::ab d.c.epoch::lJ d.c.par (ab d.c.author:: .slice d.c.ca d.c.chs.length d.c.cc:: .slice d.c.pa d.c.path.length d.c.pc:: .slice d.c.ba d.c.bxs.length d.c.bc:: .slice d.c.wa d.c.wes.length d.c.wc::lJ d.c.conf (ab d.c.sr::ab d.c.ss::lJ d.id (ab d.since::ab d.x.g.folder::ab d.x.g.epoch::lJ d.x.g.last [.slice d.x.ma d.x.g.ms.length d.x.mc,.slice d.x.na d.x.g.ns.length d.x.nc])))).toArray
def rmN (l:List Ch):Nat:=(l.filter λx=>decide (x.kind=2)).length
def ai1 (dv:Int) (y:Ch):Bool:=decide (y.kind=2/\y.dev=dv)
theorem n0j{α:Type}{p:α->Bool}:∀{xs:List α} {j:Nat} {x:α},gC p xs j->xs[j]? =some x->p x=true->xs.find? p=some x
 | [],j,x,_,hx,_=>by simp at hx
 |y::xs,0,x,_,hx,hp=>by
  simp only[J8,wK]at hx;subst hx;simp[hp]
 |y::xs,j+1,x,h,hx,hp=>by
  have h0:p y=false:=h 0 y aa rfl;simp only[Jd]at hx;rw[List.find?_cons,h0];exact n0j (λi z hi hz=>h (i+1) z aa (by simpa using hz)) hx hp
theorem nEk{α:Type}{p:α->Bool}{xs:List α}(h:gC p xs j)(hj:¬j<xs.length):xs.find? p=none:=by
 have:=nxd h hj;all_goals grind
def Cq (ms:List Mb) (dv:Int):Int:=((ms.find? λm=>decide (m.dev=dv)).map (·.since)).getD 0
theorem FJ{ms:List Mb}{dv:Int}{x:Mb}(h:gC (λm:Mb=>decide (m.dev=dv)) ms j)(hx:ms[j]? =some x)(hp:x.dev=dv):ab x.since=ab (Cq ms dv):=by unfold Cq;rw[n0j h hx (by simpa using hp)];rfl
theorem O2{ms:List Mb}{dv:Int}(h:gC (λm:Mb=>decide (m.dev=dv)) ms j)(hj:¬j<ms.length):ab 0=ab (Cq ms dv):=by unfold Cq;rw[nEk h hj];rfl
theorem Lw(G:Gv)(N:Nat)(w:World)(hN:N<=w.heap.size)(hG:cj N w G)(dv:Int):Calls prog 108 #[.agg (bF G),ab dv] w (aP w (ab (Cq G.g.ms dv))):=by
 have hmn:=hG.mn;have EX:=hG.ms;refine eN func108 ntmps108 ?_;refine cH 2 ?_;intro b2 w2 dw bX fB dJ dH;refine B 13 ?_;refine CJ.lp (α:=Nat) [1,2,9] (λj=>[(8,.slice G.ma G.g.ms.length G.mc),(10,ab (j:Int))]) (λj=>[]) (λj=>j<=G.g.ms.length/\gC (λm:Mb=>decide (m.dev=dv)) G.g.ms j) (λj=>G.g.ms.length-j) 0 ⟨cY _,λi x hi=>absurd hi aa⟩ ?_;rintro j ⟨hj,dP⟩;refine aG 6 ?_ ?_
 ·intro av;refine B 5 ?_;obtain⟨bo,oo,cs0,to,fC,eZ,fE,bW,aS⟩:=EX.get aa;obtain⟨x,hx⟩:=ng G.g.ms j aa;rw[eZ];refine aE 2 (.agg (qJ x)) ?_;refine bH 1 ?_;intro b6 ky ri;refine aG 11 ?_ ?_
  ·intro aR;refine B 13 ?_;refine cu (.inl rfl) results108 bB A1 zB ?_;first|exact FJ dP hx cV|exact O2 dP aa
  intro aR;refine xW ?_;refine ag (j+1) ⟨by omega,dP.next hx (by simpa using ‹¬x.dev=dv›)⟩
 intro av;refine B 11 ?_;refine aK results108 rfl A1 ?_;first|exact FJ dP hx cV|exact O2 dP aa
theorem FK(hZ:FxOk Z)(G:Gv)(c:Cm)(dE:bN c)(N:Nat)(w:World)(hN:N<=w.heap.size)(hG:cj N w G)(hC:dB N w c)(hg:Glb w)(hv:dX G.g=true)(kD:sX c=0)(hf:lC G.g c=true)(hne:fk G.g c.author c.chs=0)(hb:vy G.g c=true)(hw:xe c=true)(Jt:Ab Z G.g c=true)(e:Int)(Lx:oD (aN G.g.ns c.chs) c.author=e)(he:¬e=0):Calls prog 83 #[.agg (bF G),.agg (cM c)] w (Dj w uG e):=by
 have sS:=zk.1 hv;have Wz:=sS.1.2.2.1;have vx:=sS.1.2.1;have fQ:=OV.1 kD;have Cn:=fQ.e1;have Co:=fQ.e2;obtain⟨h1,h2,h3⟩:=Wv hf;have tD:=fQ.au;have AN:=dE.few.chs;have yU:=dE.few.bxs;have V4:=dE.few.wes;have hg4:=hg.lt;obtain⟨uH,gV,wZ⟩:=n5m hv hne;obtain⟨lq,AM⟩:=Zj uH;have Vu:=hG.nn;have La:=OT c.chs G.g.ns;obtain⟨T,hT⟩:∃T,aN G.g.ns c.chs=T:=⟨_,rfl⟩;rw[hT]at Lx La;have gj:=fQ.pl;have oh:∀y∈c.path,eg y:=λy hy=>by obtain⟨i,hi⟩:=jG.1 hy;exact fQ.path i y hi
 refine Lt ?_;refine yV ?_;intro b2 w2 dw bX fB dJ dH;refine yX ?_;intro b3 w3 dA cX fT eC ff;refine bH 1 ?_;intro b4 iT iU;refine ZN ?_;intro Wn an cn wn tM AS so sq;have xd:=tM.sizes;replace xd:=yb xd;have VZ:=AS.size;have uC:=tM.under;replace uC:=yg uC;refine ZO ?_;refine eS 15 13 [] (pb:=by exact zU 4 (k:=by exact aJ (nf call152 rfl rfl (λW hS _=>by have h9:=ZC c.bxs aa W.heap.size c.ba c.bc W (aj _) (hC.bxs.up cJ hS.sm) (gE G.g c.author c.chs) an cn (so.to hS A0 (aj _) (λb off e=>.inr ZP));rw[show lB Js c.bxs (gE G.g c.author c.chs)=true from hb]at h9;exact h9) (λ_=>rfl)) zT)) (sp:=(_::_::_::_::(some (bZ))::(some bG)::_)) (h:=?_);intro _ _ hk;refine z7c ?_;intro W_ aw cw ww qN wu xf su;have Cp:=(qN.links wn A0).size;have xg:∀q,aw=some q->wn.heap.size<=q.block:=λq e=>eE Cp (su q e);refine z6c ?_;refine CV ?_;refine eS 10 7 [] (pb:=by exact zU 5 (k:=by exact aJ (nf call135 rfl rfl (λW hS _=>nPc G N W cJ (hG.up (aj _) hS.sm) c.chs aa c.ca c.cc (hC.chs.up (aj _) hS.sm) c.author (λhm=>nik gV vx hm)) (λ_=>rfl)) zT)) (sp:=[some (.agg (bF G)),_,_,_,some (.slice c.ca c.chs.length c.cc),some (ab (lA G.g c.author c.chs)),some (.agg (cM c)),_,_,some (.agg #[ab c.sr,ab c.ss])]) (h:=?_);intro _ _ hk;refine zdd ?_
 rintro W_ bm wm qN wu ⟨Cp,oW⟩;try dsimp only at Cp oW
 have FI:=(qN.links wn A1).size;have qk:wn.heap.size<=bm:=by omega
 refine zE ?_;refine zzd ?_;refine Eo ?_;refine eA 6 (pb:=by exact zU 5 (k:=by exact aJ (nf call23 rfl rfl (λW hS _=>ZA hZ c dE N W cJ (hC.up (aj _) hS.sm) (hg.old hS A5 zH zF)) (λ_=>rfl)) (rf rfl))) (sp:=[_,_,_,_,some (.agg (cM c)),some (.agg (dg (aB Z c)))]) (k:=?_);refine zKf ?_;have B5:=(bA.1 oW).1;refine z2c ?_;refine CJ.chn 14 [3,8,9,10,13] [some (.agg (bF G)),_,some (.slice c.ca c.chs.length c.cc),none,_,_,_,some (.slice c.pa c.path.length c.pc),none,none,none,some (ab e),_,none] (λcv L' H'=>let uI:ad:=[(b4,oC (bF (⟨⟨G.g.folder,c.epoch,aB Z c,[],[]⟩,none,0,none,0⟩:Gv)) 53)];let eo:ad:=uI;let iY:List World:=[wm,ww,wn,w3,w2,w];match cv with| []=>L'=iY/\H'=eo| [v1]=>∃(ta:Option Addr) (tc:Nat) (wr:World),v1= .agg #[.slice ta T.length tc]/\L'=wr::iY/\H'=eo/\ai fV 2 wr.heap.size wr ta T/\(∀b off,ta=some ⟨b,off,none⟩->T=[]\/b<N\/wm.heap.size<=b)/\wm.heap.size<=wr.heap.size| [v1,v2]=>∃(ta:Option Addr) (tc:Nat) (wr:World) (r8:Rw),v1= .agg #[.slice ta T.length tc]/\v2= .tuple #[.agg #[r8.val (ck T c.author c.path).length],ab e]/\L'=wr::iY/\H'=uI++(r8.hp ie 240 (ck T c.author c.path)++[])/\ai fV 2 wr.heap.size wr ta T/\(∀b off,ta=some ⟨b,off,none⟩->T=[]\/b<N\/wm.heap.size<=b)/\wm.heap.size<=wr.heap.size/\Rw.Fr Gh.no [wr,wm,ww,wn,w3,w2,w] r8/\r8.Fit 2 (ck T c.author c.path)/\r8.ge wr.heap.size| [v1,v2,v3]=>∃(ta:Option Addr) (tc:Nat) (wr:World) (r8:Rw),v1= .agg #[.slice ta T.length tc]/\v2= .tuple #[.agg #[r8.val (ck T c.author c.path).length],ab e]/\v3= .tuple #[.agg #[r8.val (ck T c.author c.path).length],ab e]/\L'=wr::iY/\H'=uI++(r8.hp ie 240 (ck T c.author c.path)++[])/\ai fV 2 wr.heap.size wr ta T/\(∀b off,ta=some ⟨b,off,none⟩->T=[]\/b<N\/wm.heap.size<=b)/\wm.heap.size<=wr.heap.size/\Rw.Fr Gh.no [wr,wm,ww,wn,w3,w2,w] r8/\r8.Fit 2 (ck T c.author c.path)/\r8.ge wr.heap.size| [v1,v2,v3,v4]=>∃(ta:Option Addr) (tc:Nat) (wr:World) (r8:Rw),v1= .agg #[.slice ta T.length tc]/\v2= .tuple #[.agg #[r8.val (ck T c.author c.path).length],ab e]/\v3= .tuple #[.agg #[r8.val (ck T c.author c.path).length],ab e]/\v4= .agg #[r8.val (ck T c.author c.path).length]/\L'=wr::iY/\H'=uI++(r8.hp ie 240 (ck T c.author c.path)++[])/\ai fV 2 wr.heap.size wr ta T/\(∀b off,ta=some ⟨b,off,none⟩->T=[]\/b<N\/wm.heap.size<=b)/\wm.heap.size<=wr.heap.size/\Rw.Fr Gh.no [wr,wm,ww,wn,w3,w2,w] r8/\r8.Fit 2 (ck T c.author c.path)/\r8.ge wr.heap.size| [v1,v2,v3,v4,v5]=>∃(ta:Option Addr) (tc:Nat) (wr:World) (r8:Rw),v1= .agg #[.slice ta T.length tc]/\v2= .tuple #[.agg #[r8.val (ck T c.author c.path).length],ab e]/\v3= .tuple #[.agg #[r8.val (ck T c.author c.path).length],ab e]/\v4= .agg #[r8.val (ck T c.author c.path).length]/\v5= .tuple #[]/\L'=wr::iY/\H'=[(b4,oC (setCells (bF (⟨⟨G.g.folder,c.epoch,aB Z c,[],[]⟩,none,0,none,0⟩:Gv)) 35 [r8.val (ck T c.author c.path).length]) 53)]++(r8.hp ie 240 (ck T c.author c.path)++[])/\ai fV 2 wr.heap.size wr ta T/\(∀b off,ta=some ⟨b,off,none⟩->T=[]\/b<N\/wm.heap.size<=b)/\wm.heap.size<=wr.heap.size/\Rw.Fr Gh.no [wr,wm,ww,wn,w3,w2,w] r8/\r8.Fit 2 (ck T c.author c.path)/\r8.ge wr.heap.size|_=>False) (pc O3 (pc (by exact λcv L' H' hd hP=>X.v (cR underlying61 rfl sizeOf54 rfl)) (pc O3 (pk (pc Zv (pc O3 (pc z9b (pc O3 (pk (pk (pk (pc (λcv L' H' hd hP=>match cv,hd,hP with| [],hd,hP=>(absurd (show false=true from hd) zA)| [v1],hd,hP=>(absurd (show false=true from hd) zA)| [v1,v2],hd,hP=>(absurd (show false=true from hd) zA)| [v1,v2,v3],hd,hP=>zlc| [v1,v2,v3,v4],hd,hP=>zjc| [v1,v2,v3,v4,v5],hd,hP=>zgc|_::_::_::_::_::_::_,_,hP=>hP.elim) (pc Y3 (pk (pn))))))))))))))) ?_ ?_
 ·exact zcg
 intro cv L' H' hl hP;obtain⟨v1,v2,v3,v4,v5,rfl⟩:=tQ hl;obtain⟨ta,tc,wr,r8,rfl,rfl,rfl,rfl,rfl,rfl,rfl,sW,iC,rX,oE,iJ,jS⟩:=hP;refine B 6 ?_;refine Rz ?_;refine dp (.agg (bF gf)) ?_;refine B 7 ?_;exact bQ (.inl rfl) results83 bB λW hS=>⟨gf,rfl,(hS.links w A6).below (λk hk hx=>by rcases hx with hx|hx;(exact hx);simp only[dx,im,eX,ee,gL,dL,ft,aY,cd,dV,or_false]at hx;rcases hx with hx|hx;(omega);have:=Rw.mem_ge jS hx;omega),rfl,ZL _ _,λq h=>zS,λq h=>zS⟩
theorem O4{ns:List Nd}(h:vc ns):∀(i:Nat) (x:Nd),ns[i]? =some x->(i:Int)+1<=x.at_
 |0,x,hx=>by have:=(h 0 x hx).1;omega
 |i+1,x,hx=>by
  obtain⟨y,hy⟩:=ng ns i VJ;have h1:=O4 h i y hy;have h2:=(h (i+1) x hx).2.2.1 y aa (by simpa using hy);omega
theorem Sc(h:vc ns):ns.length<=1023:=by
 by_cases h0:ns.length=0
 ·omega
 obtain⟨x,hx⟩:=ng ns (ns.length-1) aa;have h1:=O4 h _ x hx;have h2:=(h _ x hx).2.1;omega
theorem nFn(h:dX g=true):g.ns.length<=1023/\g.ms.length<=1023:=by
 have h1:=zk.1 h;have h2:=Sc (nGh.1 h1.1.2.2.2);refine⟨h2,?_⟩;have h3:=congrArg List.length h1.2.2.1;rw[eO]at h3;have:=npm g.ns;omega
def Sd (f e:Int) (id:Nat->Int) (a b:Value):Array Value:=(ab f::ab e::lJ id [a,b]).toArray
theorem Ly(f e:Int)(id:Nat->Int)(r r':Rw)(n m:Nat):bD (Value.agg (Sd f e id (r.val n) (r'.val m))).cells.toList=true:=by cases r<;>cases r'<;>rfl
def oF (e:Int) (l:List Ch):List Mb:=(l.filter λx=> !decide (x.kind=2)).map λy=>⟨y.dev,e,y.ver⟩
theorem n3n{e:Int}(hx:l[j]? =some x)(h:¬x.kind=2)(F:List Mb):F++oF e (l.take (j+1))=(F++oF e (l.take j))++[⟨x.dev,e,x.ver⟩]:=by rw[np hx];simp[oF,h]
theorem FL{e:Int}(hx:l[j]? =some x)(h:x.kind=2)(F:List Mb):F++oF e (l.take (j+1))=F++oF e (l.take j):=by rw[np hx];simp[oF,h]
theorem nVj(e:Int)(l:List Ch):(oF e l).length<=l.length:=by unfold oF;rw[eO];exact Sa _ _
theorem ZQ(e:Int)(l:List Ch)(F:List Mb):F++oF e (l.take 0)=F:=by simp[oF]
noncomputable def kr (Z:Fx) (g:Gp) (c:Cm):Gp:=⟨g.folder,c.epoch,aB Z c,sj (g.ms.filter (λx=> !gM c.chs x)++oF c.epoch c.chs),ck (aN g.ns c.chs) c.author c.path⟩
theorem FM(hd:dd d)(l:List Int):(ck ns d l).length<=ns.length+10:=by grind [ck,nkh,nsm,di,VH]
theorem Rw.val_new{r:Rw}{cp:Nat}(h:r.ge k)(e:r.val n= .slice a n cp):∀q,a=some q->k<=q.block:=by
 intro q hq;cases r with
 |nil=>simp only[Rw.val,Value.slice.injEq]at e;rw[<-e.1]at hq;cases hq
 |row b cap sp=>simp only[Rw.val,Value.slice.injEq]at e;rw[<-e.1]at hq;cases hq;exact h
theorem Lz(hZ:FxOk Z)(G:Gv)(c:Cm)(dE:bN c)(N:Nat)(w:World)(hN:N<=w.heap.size)(hG:cj N w G)(hC:dB N w c)(hg:Glb w)(hv:dX G.g=true)(kD:sX c=0)(hf:lC G.g c=true)(hne:fk G.g c.author c.chs=0)(hb:vy G.g c=true)(hw:xe c=true)(Jt:Ab Z G.g c=true)(e:Int)(Lx:oD (aN G.g.ns c.chs) c.author=e)(he:e=0):Calls prog 83 #[.agg (bF G),.agg (cM c)] w (Dj w (kr Z G.g c) 0):=by
 have sS:=zk.1 hv;have Wz:=sS.1.2.2.1;have vx:=sS.1.2.1;have fQ:=OV.1 kD;have Cn:=fQ.e1;have Co:=fQ.e2;obtain⟨h1,h2,h3⟩:=Wv hf;have tD:=fQ.au;have AN:=dE.few.chs;have yU:=dE.few.bxs;have V4:=dE.few.wes;have hg4:=hg.lt;obtain⟨uH,gV,wZ⟩:=n5m hv hne;obtain⟨lq,AM⟩:=Zj uH;have Vu:=hG.nn;have La:=OT c.chs G.g.ns;obtain⟨T,hT⟩:∃T,aN G.g.ns c.chs=T:=⟨_,rfl⟩;rw[hT]at Lx La;have gj:=fQ.pl;have oh:∀y∈c.path,eg y:=λy hy=>by obtain⟨i,hi⟩:=jG.1 hy;exact fQ.path i y hi
 have apn:=nFn hv;refine Lt ?_;refine yV ?_;intro b2 w2 dw bX fB dJ dH;refine yX ?_;intro b3 w3 dA cX fT eC ff;refine bH 1 ?_;intro b4 iT iU;refine ZN ?_;intro Wn an cn wn tM AS so sq;have xd:=tM.sizes;replace xd:=yb xd;have VZ:=AS.size;have uC:=tM.under;replace uC:=yg uC;refine ZO ?_;refine eS 15 13 [] (pb:=by exact zU 4 (k:=by exact aJ (nf call152 rfl rfl (λW hS _=>by have h9:=ZC c.bxs aa W.heap.size c.ba c.bc W (aj _) (hC.bxs.up cJ hS.sm) (gE G.g c.author c.chs) an cn (so.to hS A0 (aj _) (λb off e=>.inr ZP));rw[show lB Js c.bxs (gE G.g c.author c.chs)=true from hb]at h9;exact h9) (λ_=>rfl)) zT)) (sp:=(_::_::_::_::(some (bZ))::(some bG)::_)) (h:=?_);intro _ _ hk;refine z7c ?_;intro W_ aw cw ww qN wu xf su;have Cp:=(qN.links wn A0).size;have xg:∀q,aw=some q->wn.heap.size<=q.block:=λq e=>eE Cp (su q e);refine z6c ?_;refine CV ?_;refine eS 10 7 [] (pb:=by exact zU 5 (k:=by exact aJ (nf call135 rfl rfl (λW hS _=>nPc G N W cJ (hG.up (aj _) hS.sm) c.chs aa c.ca c.cc (hC.chs.up (aj _) hS.sm) c.author (λhm=>nik gV vx hm)) (λ_=>rfl)) zT)) (sp:=[some (.agg (bF G)),_,_,_,some (.slice c.ca c.chs.length c.cc),some (ab (lA G.g c.author c.chs)),some (.agg (cM c)),_,_,some (.agg #[ab c.sr,ab c.ss])]) (h:=?_)
 intro _ _ hk;refine zdd ?_;rintro W_ bm wm qN wu ⟨Cp,oW⟩;try dsimp only at Cp oW
 have FI:=(qN.links wn A1).size;have qk:wn.heap.size<=bm:=by omega
 refine zE ?_;refine zzd ?_;refine Eo ?_;refine eA 6 (pb:=by exact zU 5 (k:=by exact aJ (nf call23 rfl rfl (λW hS _=>ZA hZ c dE N W cJ (hC.up (aj _) hS.sm) (hg.old hS A5 zH zF)) (λ_=>rfl)) (rf rfl))) (sp:=[_,_,_,_,some (.agg (cM c)),some (.agg (dg (aB Z c)))]) (k:=?_);refine zKf ?_;have B5:=(bA.1 oW).1;refine z2c ?_;refine CJ.chn 14 [3,8,9,10,13] [some (.agg (bF G)),_,some (.slice c.ca c.chs.length c.cc),none,_,_,_,some (.slice c.pa c.path.length c.pc),none,none,none,some (ab e),_,none] (λcv L' H'=>let uI:ad:=[(b4,oC (bF (⟨⟨G.g.folder,c.epoch,aB Z c,[],[]⟩,none,0,none,0⟩:Gv)) 53)];let eo:ad:=uI;let iY:List World:=[wm,ww,wn,w3,w2,w];match cv with| []=>L'=iY/\H'=eo| [v1]=>∃(ta:Option Addr) (tc:Nat) (wr:World),v1= .agg #[.slice ta T.length tc]/\L'=wr::iY/\H'=eo/\ai fV 2 wr.heap.size wr ta T/\(∀b off,ta=some ⟨b,off,none⟩->T=[]\/b<N\/wm.heap.size<=b)/\wm.heap.size<=wr.heap.size| [v1,v2]=>∃(ta:Option Addr) (tc:Nat) (wr:World) (r8:Rw),v1= .agg #[.slice ta T.length tc]/\v2= .tuple #[.agg #[r8.val (ck T c.author c.path).length],ab e]/\L'=wr::iY/\H'=uI++(r8.hp ie 240 (ck T c.author c.path)++[])/\ai fV 2 wr.heap.size wr ta T/\(∀b off,ta=some ⟨b,off,none⟩->T=[]\/b<N\/wm.heap.size<=b)/\wm.heap.size<=wr.heap.size/\Rw.Fr Gh.no [wr,wm,ww,wn,w3,w2,w] r8/\r8.Fit 2 (ck T c.author c.path)/\r8.ge wr.heap.size| [v1,v2,v3]=>∃(ta:Option Addr) (tc:Nat) (wr:World) (r8:Rw),v1= .agg #[.slice ta T.length tc]/\v2= .tuple #[.agg #[r8.val (ck T c.author c.path).length],ab e]/\v3= .tuple #[.agg #[r8.val (ck T c.author c.path).length],ab e]/\L'=wr::iY/\H'=uI++(r8.hp ie 240 (ck T c.author c.path)++[])/\ai fV 2 wr.heap.size wr ta T/\(∀b off,ta=some ⟨b,off,none⟩->T=[]\/b<N\/wm.heap.size<=b)/\wm.heap.size<=wr.heap.size/\Rw.Fr Gh.no [wr,wm,ww,wn,w3,w2,w] r8/\r8.Fit 2 (ck T c.author c.path)/\r8.ge wr.heap.size| [v1,v2,v3,v4]=>∃(ta:Option Addr) (tc:Nat) (wr:World) (r8:Rw),v1= .agg #[.slice ta T.length tc]/\v2= .tuple #[.agg #[r8.val (ck T c.author c.path).length],ab e]/\v3= .tuple #[.agg #[r8.val (ck T c.author c.path).length],ab e]/\v4= .agg #[r8.val (ck T c.author c.path).length]/\L'=wr::iY/\H'=uI++(r8.hp ie 240 (ck T c.author c.path)++[])/\ai fV 2 wr.heap.size wr ta T/\(∀b off,ta=some ⟨b,off,none⟩->T=[]\/b<N\/wm.heap.size<=b)/\wm.heap.size<=wr.heap.size/\Rw.Fr Gh.no [wr,wm,ww,wn,w3,w2,w] r8/\r8.Fit 2 (ck T c.author c.path)/\r8.ge wr.heap.size| [v1,v2,v3,v4,v5]=>∃(ta:Option Addr) (tc:Nat) (wr:World) (r8:Rw),v1= .agg #[.slice ta T.length tc]/\v2= .tuple #[.agg #[r8.val (ck T c.author c.path).length],ab e]/\v3= .tuple #[.agg #[r8.val (ck T c.author c.path).length],ab e]/\v4= .agg #[r8.val (ck T c.author c.path).length]/\v5= .tuple #[]/\L'=wr::iY/\H'=[(b4,oC (setCells (bF (⟨⟨G.g.folder,c.epoch,aB Z c,[],[]⟩,none,0,none,0⟩:Gv)) 35 [r8.val (ck T c.author c.path).length]) 53)]++(r8.hp ie 240 (ck T c.author c.path)++[])/\ai fV 2 wr.heap.size wr ta T/\(∀b off,ta=some ⟨b,off,none⟩->T=[]\/b<N\/wm.heap.size<=b)/\wm.heap.size<=wr.heap.size/\Rw.Fr Gh.no [wr,wm,ww,wn,w3,w2,w] r8/\r8.Fit 2 (ck T c.author c.path)/\r8.ge wr.heap.size|_=>False) (pc O3 (pc (by exact λcv L' H' hd hP=>X.v (cR underlying61 rfl sizeOf54 rfl)) (pc O3 (pk (pc Zv (pc O3 (pc z9b (pc O3 (pk (pk (pk (pc (λcv L' H' hd hP=>match cv,hd,hP with| [],hd,hP=>(absurd (show false=true from hd) zA)| [v1],hd,hP=>(absurd (show false=true from hd) zA)| [v1,v2],hd,hP=>(absurd (show false=true from hd) zA)| [v1,v2,v3],hd,hP=>zlc| [v1,v2,v3,v4],hd,hP=>zjc| [v1,v2,v3,v4,v5],hd,hP=>zgc|_::_::_::_::_::_::_,_,hP=>hP.elim) (pc Y3 (pk (pn))))))))))))))) ?_ ?_
 ·exact zcg
 intro cv L' H' hl hP;obtain⟨v1,v2,v3,v4,v5,rfl⟩:=tQ hl;obtain⟨ta,tc,wr,r8,rfl,rfl,rfl,rfl,rfl,rfl,rfl,sW,iC,rX,oE,iJ,jS⟩:=hP;refine aE 6 bG ?_;refine aE 14 (.slice G.ma G.g.ms.length G.mc) ?_;refine Jj (enc:=oY) (m:=3) (t:=131) (xs:=G.g.ms) (v:=id) (first:=[]) (cap:=[]) rfl call159 rfl rfl rfl (λW hS=>Fy G.g.ms aa N G.ma G.mc W cJ (hG.ms.up (aj _) (hS.same A6 hN zH (by simp only[Over,nC,im,eX,ee,dx,and_true];(repeat' apply And.intro);all_goals first|omega|exact True.intro|exact Rw.over (Rw.ge_mono jS aa))))) ?_;intro r9 ZR FN;have oG:=Rw.ge_of ZR A0;refine B 1 ?_;refine EM (r:=r9) (enc:=oY) (m:=3) (t:=131) (xs:=G.g.ms) (ys:=(G.g.ms.filter λx=> !gM c.chs x)) (H0:=[]) (H1:=[(b4,oC (setCells (bF (⟨⟨G.g.folder,c.epoch,aB Z c,[],[]⟩,none,0,none,0⟩:Gv)) 35 [r8.val (ck T c.author c.path).length]) 53)]++(r8.hp ie 240 (ck T c.author c.path)++[])) (v:=λr=>r.val (G.g.ms.filter λx=> !gM c.chs x).length) rfl call158 rfl rfl rfl (λhr W hS=>?_) (λb cap sp hr W hS h=>?_) ?_
 ·subst hr;have h0:G.g.ms=[]:=FN;rw[h0];exact(nXh 155 [ptr b3 0] call155 W).mono λe w2 h=>⟨h.1,rfl,h.2⟩
 ·subst hr;have hbA:wr.heap.size<=b:=oG;have hzz:=(hS.links w A6).size;have apo:=(hS.links w3 A4).size;have aps:=(bA.1 dA).1;exact ngl (gM c.chs) 155 [ptr b3 0] call155 G.g.ms aa b cap sp W h FN (λj x hx W2 hK aiW=>R4 c dE.few N b3 x W2 (eE hN (eE hzz hK.size)) (hC.up (aj _) (λk hk=>(hK.block k aa aa).trans (hS.same A6 hN zH (by simp only[Over,nC,im,eX,ee,dx,and_true];(repeat' apply And.intro);all_goals first|omega|exact True.intro|exact Rw.over (Rw.ge_mono jS aa)|exact Rw.over (Rw.ge_mono oG aa)) k hk))) (by rw[hK.block b3 aa aa];exact hS.old A4 dA cX zz))
 intro r10 Sf ZS ZT ai4;have ZU:=ZS ZR;have ai5:=ZT _ oG;refine B 1 ?_;refine OJ.perm (H':=[(b4,oC (Sd G.g.folder c.epoch (aB Z c) (ak) (r8.val (ck T c.author c.path).length)) 53)]++(r8.hp ie 240 (ck T c.author c.path)++(r10.hp oY 131 (G.g.ms.filter λx=> !gM c.chs x)++[]))) (by simp only[eX,ee,im];exact List.perm_append_comm) ?_;refine kT (i:=0) rfl sizeOf48 rfl rfl rfl (Rw.val_size _ _) (eh rfl) (Rw.val_one _ _) ?_;refine aE 6 (.slice c.ca c.chs.length c.cc) ?_;refine B 5 ?_;have xO:=ZQ c.epoch c.chs (G.g.ms.filter λx=> !gM c.chs x);refine CJ.reH (H':=[(b4,oC (Sd G.g.folder c.epoch (aB Z c) (r10.val ((G.g.ms.filter λx=> !gM c.chs x)++oF c.epoch (c.chs.take 0)).length) (r8.val (ck T c.author c.path).length)) 53)]++(r8.hp ie 240 (ck T c.author c.path)++(r10.hp oY 131 ((G.g.ms.filter λx=> !gM c.chs x)++oF c.epoch (c.chs.take 0))++[]))) (by rw[xO,Rw.val_cells];rfl) ?_;refine CJ.lp (α:=Rw×Nat) [2,3,4,122] (λp=>[(121,.slice c.ca c.chs.length c.cc),(123,ab (p.2:Int))]) (λp=>[(b4,oC (Sd G.g.folder c.epoch (aB Z c) (p.1.val ((G.g.ms.filter λx=> !gM c.chs x)++oF c.epoch (c.chs.take p.2)).length) (r8.val (ck T c.author c.path).length)) 53)]++(r8.hp ie 240 (ck T c.author c.path)++(p.1.hp oY 131 ((G.g.ms.filter λx=> !gM c.chs x)++oF c.epoch (c.chs.take p.2))++[]))) (λp=>p.2<=c.chs.length/\p.1.Fr Gh.no [wr,wm,ww,wn,w3,w2,w]/\p.1.Fit 3 ((G.g.ms.filter λx=> !gM c.chs x)++oF c.epoch (c.chs.take p.2))) (λp=>c.chs.length-p.2) (r10,0) ⟨cY _,ZU,by rw[xO];exact Sf⟩ ?_
 rintro⟨r,j⟩ ⟨hj,aM,ae⟩;dsimp only at hj aM ae ⊢;have bJ:r.ge wr.heap.size:=Rw.ge_of aM A0;have jl:=Sa (λx=> !gM c.chs x) G.g.ms;have wg:=nVj c.epoch (c.chs.take j);rw[jM]at wg;refine aG 6 ?_ ?_
 ·intro av;refine B 5 ?_;obtain⟨bo,oo,cs0,to,fC,eZ,fE,bW,aS⟩:=hC.chs.get aa;obtain⟨x,hx⟩:=ng c.chs j aa;rw[eZ];refine B 2 ?_;refine VU ?_;refine yW ?_;intro iF EV EW;refine aG 10 ?_ ?_
  ·intro aR;refine B 10 ?_;refine kp underlying48 sizeOf131 zeroValue131 rfl rfl rfl rfl rfl rfl rfl ?_;refine yW ?_;intro ai6 aoJ aoK;refine kz (r:=r) (xs:=((G.g.ms.filter λx=> !gM c.chs x)++oF c.epoch (c.chs.take j))) (zs:=[(⟨x.dev,c.epoch,x.ver⟩:Mb)]) (enc:=oY) (m:=3) (H0:=(ai6,oC #[ab x.dev,ab c.epoch,ab x.ver] 131)::(iF,oC (gK x) 99)::(b4,oC (Sd G.g.folder c.epoch (aB Z c) (r.val ((G.g.ms.filter λx=> !gM c.chs x)++oF c.epoch (c.chs.take j)).length) (r8.val (ck T c.author c.path).length)) 53)::r8.hp ie 240 (ck T c.author c.path)) (H1:=[]) zX Fv Cc rfl rfl rfl rfl (cD.one (z:=(⟨x.dev,c.epoch,x.ver⟩:Mb)) Cc nOh underlying48 (bE.own (i:=0) rfl)) ae aM zJ BV ?_;intro ai7 ZV ZX FO LA;replace FO:=yb FO;refine B 1 ?_;refine kT (i:=2) rfl sizeOf48 rfl rfl rfl rfl (eh rfl) rfl ?_;refine LB ?_;refine PJ.again (Rw.row ai7 ZV ZX,j+1) ⟨by dsimp only;omega,FO.elim (λh=>Rw.Fr_at aM h) (λh=>.inr h),by rw[n3n hx cV];exact LA⟩ zW zR (by rw[n3n hx cV];rfl) rfl zJ
  intro aR;refine xW ?_;refine PJ.again (r,j+1) ⟨by dsimp only;omega,aM,by rw[FL hx aa];exact ae⟩ zW zR (by rw[FL hx aa];rfl) rfl zJ
 intro av;refine B 6 ?_;have cF:c.chs.take j=c.chs:=iz aa;rw[cF]at ae ⊢;refine B 3 ?_;have apt:=nVj c.epoch c.chs;refine EM (r:=r) (enc:=oY) (m:=3) (t:=131) (xs:=((G.g.ms.filter λx=> !gM c.chs x)++oF c.epoch c.chs)) (ys:=sj ((G.g.ms.filter λx=> !gM c.chs x)++oF c.epoch c.chs)) (H0:=(b4,oC (Sd G.g.folder c.epoch (aB Z c) (r.val ((G.g.ms.filter λx=> !gM c.chs x)++oF c.epoch c.chs).length) (r8.val (ck T c.author c.path).length)) 53)::r8.hp ie 240 (ck T c.author c.path)) (H1:=[]) (v:=λ_=>.tuple #[]) rfl call160 rfl rfl rfl (λhr W hS=>?_) (λb cap sp hr W hS h=>?_) ?_
 ·subst hr;have h0:((G.g.ms.filter λx=> !gM c.chs x)++oF c.epoch c.chs)=[]:=ae;rw[h0];exact(nmn W).mono λe w2 h=>⟨h.1,FC,h.2⟩
 ·subst hr;exact ZK (by rw[cO];omega) ae h
 intro r11 lk aoL ZY Sg;have FP:=ZY _ bJ;refine B 5 ?_;refine jO (i:=0) rfl sizeOf53 rfl rfl rfl rfl rfl (Ly _ _ _ _ _ _ _) ?_;refine B 4 ?_;refine bQ (.inl rfl) results83 bB λW hS=>?_;have ai8:r8.At ie 240 (ck T c.author c.path) W:=by
  cases r8 with
  |nil=>trivial
  |row b cap sp=>exact hS.own (b,_) oV
 have ZZ:r11.At oY 131 (sj ((G.g.ms.filter λx=> !gM c.chs x)++oF c.epoch c.chs)) W:=by
  cases r11 with
  |nil=>trivial
  |row b cap sp=>exact hS.own (b,_) oV
 obtain⟨a,cp,uu,ai9⟩:=Rw.sl (xs:=sj ((G.g.ms.filter λx=> !gM c.chs x)++oF c.epoch c.chs)) Cc lk ZZ (aj W.heap.size);obtain⟨a8,OM,he8,vd⟩:=Rw.sl KJ iJ ai8 (aj W.heap.size);have h1:r.val ((G.g.ms.filter λx=> !gM c.chs x)++oF c.epoch c.chs).length= .slice a (sj ((G.g.ms.filter λx=> !gM c.chs x)++oF c.epoch c.chs)).length cp:=by rw[<-ZH ((G.g.ms.filter λx=> !gM c.chs x)++oF c.epoch c.chs),<-Sg];exact uu
 have hvl:=nFn hv;have hrw:=FM (ns:=T) tD c.path;have apu:=nVj c.epoch c.chs;refine⟨⟨kr Z G.g c,a,cp,a8,OM⟩,?_,?_,rfl,⟨ai9,by rw[<-hT]at vd;exact vd,?_,?_⟩,Rw.val_new (Rw.ge_mono FP aa) uu,Rw.val_new (Rw.ge_mono jS aa) he8⟩
 ·show Ending.returned (.tuple #[.agg (Sd G.g.folder c.epoch (aB Z c) (r.val ((G.g.ms.filter λx=> !gM c.chs x)++oF c.epoch c.chs).length) (r8.val (ck T c.author c.path).length)),ab 0])=_;rw[h1,he8,<-hT];rfl
 ·exact(hS.links w A6).below (λk hk hx=>by rcases hx with hx|hx;(exact hx);simp only[dx,im,eX,ee,gL,dL,ft,aY,cd,dV,or_false]at hx;rcases hx with hx|hx|hx;(omega);(have:=Rw.mem_ge jS hx;omega);(have:=Rw.mem_ge FP hx;omega))
 ·show(sj ((G.g.ms.filter λx=> !gM c.chs x)++oF c.epoch c.chs)).length<=10000;rw[ZH,cO];omega
 show(ck (aN G.g.ns c.chs) c.author c.path).length<=80000;rw[hT];omega
noncomputable def iy (Z:Fx) (g:Gp) (c:Cm):Int:=
 if dX g=true then(if sX c=0 then(if lC g c=true then(if fk g c.author c.chs=0 then(if vy g c=true then(if xe c=true then(if Ab Z g c=true then oD (aN g.ns c.chs) c.author else 222)else 220)else 220)else 221)else 220)else 220)else 1
noncomputable def yj (Z:Fx) (g:Gp) (c:Cm):Gp:=if iy Z g c=0 then kr Z g c else uG
theorem FQ(hv:dX g=true):fk g au l=0\/fk g au l=221:=by
 unfold fk;rw[if_pos hv];split<;>simp
theorem nud(hZ:FxOk Z)(G:Gv)(c:Cm)(dE:bN c)(N:Nat)(w:World)(hN:N<=w.heap.size)(hG:cj N w G)(hC:dB N w c)(hg:Glb w):Calls prog 83 #[.agg (bF G),.agg (cM c)] w (Dj w (yj Z G.g c) (iy Z G.g c)):=by
 have key:∀e:Int,iy Z G.g c=e->e≠0->Calls prog 83 #[.agg (bF G),.agg (cM c)] w (Dj w uG e)->Calls prog 83 #[.agg (bF G),.agg (cM c)] w (Dj w (yj Z G.g c) (iy Z G.g c)):=by
  intro e he h0 h;have:yj Z G.g c=uG:=by unfold yj;rw[he,if_neg h0]
  rw[this,he];exact h
 cases hv:dX G.g with
 |false=>exact key 1 (by simp[iy,hv]) zA (FD hZ G c dE N w hN hG hC hg hv)
 |true=>
  rcases Lg c with kD|kD
  ·cases hf:lC G.g c with
   |false=>exact key 220 (by simp[iy,hv,kD,hf]) zA (FF hZ G c dE N w hN hG hC hg hv kD hf)
   |true=>
    rcases FQ (au:=c.author) (l:=c.chs) hv with hne|hne
    ·cases hb:vy G.g c with
     |false=>exact key 220 (by simp[iy,hv,kD,hf,hne,hb]) zA (Lu hZ G c dE N w hN hG hC hg hv kD hf hne hb)
     |true=>
      cases hw:xe c with
      |false=>exact key 220 (by simp[iy,hv,kD,hf,hne,hb,hw]) zA (Lv hZ G c dE N w hN hG hC hg hv kD hf hne hb hw)
      |true=>
       cases Jt:Ab Z G.g c with
       |false=>exact key 222 (by simp[iy,hv,kD,hf,hne,hb,hw,Jt]) zA (FH hZ G c dE N w hN hG hC hg hv kD hf hne hb hw Jt)
       |true=>
        have e1:iy Z G.g c=oD (aN G.g.ns c.chs) c.author:=by simp[iy,hv,kD,hf,hne,hb,hw,Jt]
        by_cases he:oD (aN G.g.ns c.chs) c.author=0
        ·have e2:iy Z G.g c=0:=e1.trans he;have e3:yj Z G.g c=kr Z G.g c:=by unfold yj;rw[e2,if_pos rfl]
         rw[e2,e3];exact Lz hZ G c dE N w hN hG hC hg hv kD hf hne hb hw Jt 0 he rfl
        exact key _ e1 he (FK hZ G c dE N w hN hG hC hg hv kD hf hne hb hw Jt _ rfl he)
    exact key 221 (by simp[iy,hv,kD,hf,hne]) zA (FG hZ G c dE N w hN hG hC hg hv kD hf hne)
  exact key 220 (by simp[iy,hv,kD]) zA (FE hZ G c dE N w hN hG hC hg hv kD)
theorem LC{l:List Value}(h:l.all (λu=>u.oneCell')=true):∀u∈l,u.oneCell'=true:=λu hu=>uF.1 h u hu
def lL (x:Gv):List Value:=(ab x.g.folder::ab x.g.epoch::lJ x.g.last [.slice x.ma x.g.ms.length x.mc,.slice x.na x.g.ns.length x.nc])
theorem Z0(x:Gv):(lL x).length=36:=rfl
theorem nxo(x:Gv):∀u∈lL x,u.oneCell'=true:=LC rfl
def oZ (d:Cd):List Value:=(ab d.at_::ab d.c.folder::ab d.c.epoch::lJ d.c.par (ab d.c.author:: .slice d.c.ca d.c.chs.length d.c.cc:: .slice d.c.pa d.c.path.length d.c.pc:: .slice d.c.ba d.c.bxs.length d.c.bc:: .slice d.c.wa d.c.wes.length d.c.wc::lJ d.c.conf (ab d.c.sr::ab d.c.ss::lJ d.id (ab d.since::ab d.x.g.folder::ab d.x.g.epoch::lJ d.x.g.last [.slice d.x.ma d.x.g.ms.length d.x.mc,.slice d.x.na d.x.g.ns.length d.x.nc]))))
theorem FR(d:Cd):(oZ d).length=143:=by simp only[oZ,dO,fO]
theorem nsk(d:Cd):∀u∈oZ d,u.oneCell'=true:=LC rfl
def cW (k:Dk):List Value:=k.1.map (Value.int .u8)
theorem yk(k:Dk):(cW k).length=32:=by simp[cW,k.2]
theorem WA(k:Dk):∀u∈cW k,u.oneCell'=true:=by
 intro u hu;obtain⟨x,_,rfl⟩:=bT.1 hu;rfl
def dk (f:Nat->Int):Dk:=⟨[f 0,f 1,f 2,f 3,f 4,f 5,f 6,f 7,f 8,f 9,f 10,f 11,f 12,f 13,f 14,f 15,f 16,f 17,f 18,f 19,f 20,f 21,f 22,f 23,f 24,f 25,f 26,f 27,f 28,f 29,f 30,f 31],rfl⟩
theorem nOn(f:Nat->Int):(cW (dk f)).toArray=dg f:=rfl
theorem O5(f g:Nat->Int):iA f g=decide (dk f=dk g):=by
 have h:=WB (dk f).1 (dk g).1 (by rw[(dk f).2,(dk g).2]);have e:decide (dk f=dk g)=decide ((dk f).1=(dk g).1):=by simp only[Subtype.ext_iff]
 rw[e,<-h];rfl
theorem LD:prog.info? 53=some Tryz.t53:=by kernel_rfl
theorem LF:prog.info? 159=some Tryz.t159:=by kernel_rfl
theorem LG:prog.info? 33=some Tryz.t33:=by kernel_rfl
theorem FU:jN prog 75 53 36:=⟨underlying75,Tryz.t53,.agg (ab 0::ab 0::um [ak,ak]).toArray,LD,rfl,rfl,rfl,by decide⟩
theorem FV:jN prog 162 159 143:=⟨underlying162,Tryz.t159,.agg (ab 0::ab 0::ab 0::um (ab 0::ak::ak::ak::ak::um (ab 0::ab 0::um (ab 0::ab 0::ab 0::um [ak,ak])))).toArray,LF,rfl,rfl,rfl,by decide⟩
theorem nbj:jN prog 72 33 32:=⟨underlying72,Tryz.t33,.agg (um []).toArray,LG,rfl,rfl,rfl,by decide⟩
theorem FX:xh prog 33 vz:=Z1 underlying33 underlying5 sizeOf5 isAgg5
def pM (l:List Dk) (k:Dk):Int:=match l.findIdx? (λx=>decide (x=k))with|some i=>(i:Int)|none=> -1
theorem njo{l:List Dk}{k x:Dk}(dP:gC (λy=>decide (y=k)) l j)(hx:l[j]? =some x)(h:decide (x=k)=true):(j:Int)=pM l k:=by
 have e:l.findIdx? (λy=>decide (y=k))=some j:=by
  rw[aqr];have hl:=nq hx;obtain⟨_,Ju⟩:=gW.1 hx;refine⟨hl,by rw[Ju];exact h,λi hi=>?_⟩;have:=dP i l[i] hi (lj _);simp[this]
 unfold pM;rw[e]
theorem Sh{l:List Dk}{k:Dk}(dP:gC (λy=>decide (y=k)) l j)(hj:¬j<l.length):(-1:Int)=pM l k:=by
 have e:l.findIdx? (λy=>decide (y=k))=none:=by
  rw[List.findIdx?_eq_none_iff];intro x hx;have:=List.any_eq_false.1 (nxd dP hj) x hx;simpa using this
 unfold pM;rw[e]
def vA (k:Dk):Array Value:=(cW k).toArray
theorem Si(f:Nat->Int)(k:Dk):oT (dg f).toList (vA k).toList=decide (k=dk f):=by
 have h:=WB (dk f).1 k.1 (by rw[(dk f).2,k.2]);have e:decide (k=dk f)=decide ((dk f).1=k.1):=by simp only[Subtype.ext_iff];exact decide_eq_decide.2 ⟨Eq.symm,Eq.symm⟩
 rw[e,<-h];rfl
theorem Sj(f:Nat->Int)(k:Dk):kM (mF 32 [.i]) (dg f).toList (vA k).toList=true:=n5f 32 (dk f).1 k.1 (dk f).2 k.2
theorem FY(xs:List Dk)(hxl:xs.length<=1000000)(N:Nat)(a:Option Addr)(cp:Nat)(w:World)(hN:N<=w.heap.size)(aH:ai vA 32 N w a xs)(f:Nat->Int):Calls prog 107 #[.slice a xs.length cp,.agg (dg f)] w (aP w (ab (pM xs (dk f)))):=by
 refine eN func107 ntmps107 ?_;refine cH 2 ?_;intro b3 w3 dA cX fT eC ff;refine B 12 ?_;refine CJ.lp (α:=Nat) [0,3,7] (λj=>[(8,ab (j:Int))]) (λj=>[]) (λj=>j<=xs.length/\gC (λy=>decide (y=dk f)) xs j) (λj=>xs.length-j) 0 ⟨cY _,λi x hi=>absurd hi aa⟩ ?_;rintro j ⟨hj,dP⟩;refine aG 6 ?_ ?_
 ·intro av;refine B 11 ?_;obtain⟨bo,oo,cs0,to,fC,rfl,fE,bW,aS⟩:=aH.get aa;obtain⟨x,hx⟩:=ng xs j aa;refine eA 5 (sp:=[_,_,_,_,some (.agg (vA x))]) (k:=?_);refine rq (.bool (decide (x=dk f))) (gG nO zA nF rfl rfl (Sj f x)) (vb (Si f x)) ?_;refine aG 2 ?_ ?_
  ·intro aR;refine B 12 ?_;exact zQh
  intro aR;refine B 7 ?_;exact zUh
 intro av;refine B 11 ?_;exact zQh
end Px
