/- Contracts of functions of the program. No conditions. -/
import Derived.Test.YtodpaegknpbomaaGreatDoorKa
import Derived.Test.YtodpaegknpbomaaGreatDoorProg
import Derived.Shelf.SlSortCmp.WholeK
import Derived.Test.YtodpaegknpbomaaGreatDoorLa
set_option linter.unusedSimpArgs false
set_option linter.unusedVariables false
set_option linter.unusedSectionVars false
set_option maxRecDepth 20000
set_option maxHeartbeats 8000000
namespace Px
open Go Go.RowKit Go.Proofs Go.Proofs.Tryz
def fX (kv:List (Int×Int)):Nat->Int->List Int
 |0,_=>[]
 |k+1,n=>if(aH kv n).isSome=true then[n]else if 512<=n then[]else fX kv k (2*n)++fX kv k (2*n+1)
variable {cs:Array Value} {Z:Fx} {H:ad} {au d:Int} {kv:List (Int×Int)} {ls:List (List V)} {ns:List Nd} {sp:List Value} {L:List World} {N b i j k n t:Nat} {fr:Nat×Nat} {a:Option Addr} {W w:World}
theorem nwi{n:Int}(h:(aH kv n).isSome=true):fX kv (k+1) n=[n]:=by simp[fX,h]
theorem ndh{n:Int}(h:¬(aH kv n).isSome=true)(h2:512<=n):fX kv (k+1) n=[]:=by simp only[fX];rw[if_neg h,if_pos h2]
theorem njf{n:Int}(h:¬(aH kv n).isSome=true)(h2:¬512<=n):fX kv (k+1) n=fX kv k (2*n)++fX kv k (2*n+1):=by simp only[fX];rw[if_neg h,if_neg h2]
def uy (kv:List (Int×Int)) (k:Nat) (n:Int) (i:Nat):List Int:=(List.range i).flatMap λ(j:Nat)=>fX kv k (2*n+(j:Int))
theorem nli(kv:List (Int×Int))(k:Nat)(n:Int)(i:Nat):uy kv k n (i+1)=uy kv k n i++fX kv k (2*n+(i:Int)):=by simp[uy,List.range_succ]
theorem nno(kv:List (Int×Int))(k:Nat)(n:Int):uy kv k n 2=fX kv k (2*n)++fX kv k (2*n+1):=by simp[uy,List.range_succ]
theorem K2{n:Int}{p:List Int}(hi:i<2)(h:p <+:fX kv k (2*n+(i:Int))):uy kv k n i++p <+:uy kv k n 2:=by
 have h1:uy kv k n i++p <+:uy kv k n (i+1):=by rw[nli];exact(List.prefix_append_right_inj _).2 h
 all_goals grind [nli]
theorem Rv(n:Int)(i:Nat)(h:i<2):(#[ab (2*n),ab (2*n+1)]:Array Value)[(i:Int).toNat*1]? =some (ab (2*n+(i:Int))):=by
 rcases(show i=0\/i=1 by omega)with rfl|rfl<;>simp
def Y1 (bx by_ mb:Nat):aJ:=λj=>j=bx\/j=by_\/j=mb
def Rx (kv:List (Int×Int)) (k:Nat):Prop:=∀(n:Int) (bx by_ mb:Nat) (m:Mp) (W:World),1<=n->n<1024->1024<=n*2^k->m.Ok kv->W.heap[bx]? =some (oC #[.map (some mb)] 165)->W.heap[by_]? =some (oC #[ab n] 3)->W.heap[mb]? =some (m.obj ab kv)->
 uS prog 327 [ptr bx 0,ptr by_ 0] aA (C2 (fX kv k n)) (Is (fX kv k n)) (λ_=>False) (Y1 bx by_ mb) W
theorem nFp(kv:List (Int×Int)):Rx kv 0:=λn bx by_ J m W h1 h2 h3=>by omega
theorem nXe(mp:Option Nat)(n:Int)(w:World):Calls prog 304 #[.map mp,ab n] w (dc w (λq:Nat×Nat=>.func (.func 327) #[] #[ptr q.1 0,ptr q.2 0]) (λq w1=>w.heap.size<=q.1/\w.heap.size<=q.2/\w1.heap[q.1]? =some (oC #[.map mp] 165)/\w1.heap[q.2]? =some (oC #[ab n] 3))):=by
 refine eN func304 ntmps304 ?_;refine cK 2 ?_;intro b2 w2 dz bY ft dL dH;refine yX ?_;intro b3 w3 dE da gi J fw;refine B 10 ?_;refine sM (b2,b3) results304 rfl A2 rfl ?_;try simp only[ah]at dL J
 have Yu:=dL.1;have an:=J.1;try have aq:=J.2.1
 exact λW hS=>⟨by omega,by omega,hS.old A1 dz bY trivial,hS.old A0 dE da trivial⟩
theorem nCk{l Dk:Nat}{rec:Loop}{ms:List Mk}(h1:n<=Dk)(h2:n<=l)(h:Cg n ms):Cg n ((l,rec,Dk)::ms):=by
 intro q hq;rcases cd.1 hq with rfl|hq
 ·exact⟨h2,h1⟩
 exact h q hq
theorem nLp{n i:Int}(h:1024<=n*2^(k+1))(hi:0<=i):1024<=(2*n+i)*2^k:=by
 rw[Int.pow_succ]at h;have hp:(0:Int)<2^k:=Int.pow_pos zz;have h9:n*(2^k*2)=(2*n)*2^k:=by rw[Int.mul_comm (2^k) 2,<-Int.mul_assoc,Int.mul_comm n 2]
 have h8:(2*n+i)*2^k=(2*n)*2^k+i*2^k:=Int.add_mul _ _ _;have h7:0<=i*2^k:=Int.mul_nonneg hi aa;omega
theorem CJ.perm{C:Cx}{Q:bE}{E:Env}{D:List Deferred}{G:Gh}{H':ad}{c:Code}(hp:H.Perm H')(h:CJ C c Q E D G L H'):CJ C c Q E D G L H:=λa W hN hD hF hS=>h a W hN hD hF (hS.perm hp)
theorem Ff(n:Nat):Cg n []:=λq hq=>absurd hq zI
theorem nup(ih:Rx kv k)(n:Int)(bx by_ mb:Nat)(m:Mp)(W:World)(h1:1<=n)(h2:n<1024)(h3:1024<=n*2^(k+1))(hm:m.Ok kv)(hb1:W.heap[bx]? =some (oC #[.map (some mb)] 165))(dz:W.heap[by_]? =some (oC #[ab n] 3))(tE:W.heap[mb]? =some (m.obj ab kv)):uS prog 327 [ptr bx 0,ptr by_ 0] aA (C2 (fX kv (k+1) n)) (Is (fX kv (k+1) n)) (λ_=>False) (Y1 bx by_ mb) W:=by
 intro l0 M0 I X0 hM hI hX hy h0;have cN:¬(dF hM (λ_=>False) (hI [] _)).X bx:=by rintro(h|h);exact(hM _ h).2.2 (.inl rfl);exact h.elim
 have bY:¬(dF hM (λ_=>False) (hI [] _)).X by_:=by rintro(h|h);exact(hM _ h).2.2 (.inr (.inl rfl));exact h.elim
 have B8:¬(dF hM (λ_=>False) (hI [] _)).X mb:=by rintro(h|h);exact(hM _ h).2.2 (.inr (.inr rfl));exact h.elim
 have my:=(bB.1 hb1).1;have Jk:=(bB.1 dz).1;have Ra:=(bB.1 tE).1;refine Qq (dF hM (λ_=>False) (hI [] _)) [] (vs:=[_,_,_]) func327 rfl ntmps327 rfl (Oi hM (hI [] _) h0 zI (by simp[lS]) zI) ?_;refine cK 2 ?_;intro b3 w3 dE da gi eO fw;refine B 7 ?_;refine rv rfl rfl rfl (ri (ev:=ab) underlying165 underlying3 zeroValue3 hm (bF.old A1 tE B8 trivial) rfl rfl) ?_;refine aG 12 ?_ ?_
 ·intro av;refine B 4 ?_;refine BW (λV=>hI ([]++[n]) V) hX (λ_ h=>h.elim) A1 rfl rfl rfl rfl (λW1 uT lM=>hy [] n _ W1 (by rw[nwi av];exact List.prefix_refl _) uT lM) ?_ ?_
  ·intro V0 Ci;refine B 4 ?_;exact Y2 (ms:=([]:List Mk)) (H0:=[]) (.inl rfl) results327 A1 Ci (by intro j hj hx;simp[tG]at hx) (λA hA=>.inl ⟨[n],by rw[nwi av],hA⟩)
  intro V0 Ci;refine B 4 ?_;exact Y2 (ms:=([]:List Mk)) (H0:=[]) (.inl rfl) results327 A1 Ci (by intro j hj hx;simp[tG]at hx) (λA hA=>.inr hA)
 intro av;refine aG 9 ?_ ?_
 ·intro aS;refine B 2 ?_;exact Y2 (ms:=([]:List Mk)) (H0:=[]) (.inl rfl) results327 A1 (λ_ h=>h.elim) (by intro j hj hx;simp[tG]at hx) (λA hA=>.inl ⟨[],by rw[ndh (by simpa using av) aa],hA⟩)
 intro aS;refine B 9 ?_;refine rv rfl rfl rfl (y8 underlying330 zeroValue330 sizeOf3 rfl rfl rfl rfl) ?_;refine B 4 ?_;refine CJ.loopD (α:=(Nat×List Mk)×aJ) (λp=>mkD p.1.2) (λp=>[(1,ptr bx 0),(2,ptr by_ 0),(3,ptr b3 0),(26,.agg #[ab (2*n),ab (2*n+1)]),(27,ab (p.1.1:Int))]) (λp=>tG p.1.2) (λp=>[w3,W]) (λp=>dF hM p.2 (hI (uy kv k n p.1.1) p.2)) (λp=>p.1.1<=2/\Cg w3.heap.size p.1.2/\∀j,p.2 j->w3.heap.size<=j) (λp=>2-p.1.1) ((0,[]),λ_=>False) ⟨cO _,Ff _,λ_ h=>h.elim⟩ zR rfl rfl zI rfl ?_;rintro⟨⟨i,ms⟩,V0⟩ ⟨hi,Cj,Ci⟩;dsimp only at hi Cj Ci ⊢;have cN:¬(dF hM V0 (hI (uy kv k n i) V0)).X bx:=by rintro(h|h);exact(hM _ h).2.2 (.inl rfl);have:=Ci _ h;omega
 clear da;have da:¬(dF hM V0 (hI (uy kv k n i) V0)).X b3:=by rintro(h|h);(have:=(hM _ h).1;omega);(have:=Ci _ h;omega)
 refine aG 6 ?_ ?_
 ·intro dh;refine B 6 ?_;refine rv rfl rfl rfl (uV (v:=ab (2*n+(i:Int))) underlying330 isAgg3 sizeOf3 rfl rfl aa aa (Rv n i aa)) ?_;refine B 5 ?_;refine rv rfl rfl rfl (ar (v:=.map (some mb)) isAgg165 rfl A1 hb1 cN (nTn Cj aa) rfl) ?_;refine B 1 ?_;refine ny (α:=Nat×Nat) (v:=λq:Nat×Nat=>.func (.func 327) #[] #[ptr q.1 0,ptr q.2 0]) (Φ:=λ(W:World) (q:Nat×Nat) (w1:World)=>W.heap.size<=q.1/\W.heap.size<=q.2/\w1.heap[q.1]? =some (oC #[.map (some mb)] 165)/\w1.heap[q.2]? =some (oC #[ab (2*n+(i:Int))] 3)) call304 rfl rfl rfl (λW hS=>nXe (some mb) (2*n+(i:Int)) W) ?_;rintro Wk q wk wg EZ ⟨hq1,uz,Fg,Fh⟩;try dsimp only at hq1 uz Fg Fh
  have Ry:=(bB.1 Fg).1;have Rz:=(bB.1 Fh).1;have dK:=EZ.size;have dp:=(wg.links W A1).size;have gi:=(wg.links w3 A0).size;have cy:∀j,V0 j->j<Wk.heap.size:=λj hj=>wg.xlt j (.inr hj);have ON:∀j,Y1 q.1 q.2 mb j->j<wk.heap.size/\j∉(tG ms).map (·.1)/\¬(dF hM V0 (hI (uy kv k n i) V0)).X j:=by
   intro j hj;have Y3:Wk.heap.size<=j->j∉(tG ms).map (·.1)/\¬(dF hM V0 (hI (uy kv k n i) V0)).X j:=λhg=>⟨λhm=>by obtain⟨p,hp,e⟩:=bU.1 hm;have:=wg.lt p hp;omega,λhx=>by rcases hx with hx|hx;(have:=(hM _ hx).1;omega);(have:=cy _ hx;omega)⟩;rcases hj with rfl|rfl|rfl
   ·exact⟨Ry,Y3 hq1⟩
   ·exact⟨Rz,Y3 uz⟩
   exact⟨by omega,λhm=>by obtain⟨p,hp,e⟩:=bU.1 hm;have:=Y4 Cj p hp;omega,λhx=>by rcases hx with hx|hx;(exact(hM _ hx).2.2 (.inr (.inr rfl)));(have:=Ci _ hx;omega)⟩
  refine B 3 ?_;refine XI (f:=327) (cap:=[ptr q.1 0,ptr q.2 0]) (α:=Int) (enc:=aA) (Pre:=C2 (fX kv k (2*n+(i:Int)))) (Fin:=Is (fX kv k (2*n+(i:Int)))) (RO:=Y1 q.1 q.2 mb) (MI:=λ_=>False) rfl call327 (λW' W2 hS hB=>by have eb:=(hS.links wk A0).size;exact ih (2*n+(i:Int)) q.1 q.2 mb m W2 aa aa (nLp h3 aa) hm (by rw[hB.block q.1 aa];exact hS.old A0 Fg (ON _ (.inl rfl)).2.2 (bN.of_mem (ON _ (.inl rfl)).2.1)) (by rw[hB.block q.2 aa];exact hS.old A0 Fh (ON _ (.inr (.inl rfl))).2.2 (bN.of_mem (ON _ (.inr (.inl rfl))).2.1)) (by have:=(hS.links W A2).size;rw[hB.block mb aa];exact hS.old A2 tE (ON _ (.inr (.inr rfl))).2.2 (bN.of_mem (ON _ (.inr (.inr rfl))).2.1))) (λ_ _ _ hk=>hk.elim) (λW' hS j hj=>⟨by have:=(ON j hj).1;have:=(hS.links wk A0).size;omega,(ON j hj).2⟩) (λ_=>rfl) (λpre G' Hc=>∃J:aJ,(∀j,V0 j->J j)/\(∀j,J j->V0 j\/w3.heap.size<=j)/\G'=dF hM J (hI (uy kv k n i++pre) J)/\Hc=tG ms) (λc G' Hc=>c= .ret/\∃J:aJ,(∀j,J j->W.heap.size<=j)/\G'=dF hM J (hX J)/\Hc=tG ms) ⟨V0,λ_ h=>h,λ_ h=>.inl h,by rw[ec],rfl⟩ zz ?_ ?_ ?_
  ·rintro pre x G' Hc l Dk rec W1 M V Wy qd xN eM ⟨J,az,VP,rfl,rfl⟩ jh mw Qs yG dO DZ;simp only[ah]at jh yG;have a8:∀j,J j->W.heap.size<=j:=λj hj=>by rcases VP j hj with h|h;(have:=Ci j h;omega);omega
   have da:¬((dF hM J (hI (uy kv k n i++pre) J)).ext λj=>M j\/V j).X b3:=dO.z aa da (λhm=>by obtain⟨p,hp,e⟩:=bU.1 hm;have:=Y4 Cj p hp;omega) (by rintro(h|h);(have:=(hM _ h).1;omega);(rcases VP _ h with h|h;(have:=Ci _ h;omega);omega));have cq:∀r',bN (book (tG ms) l r' (jj Dk)) b3:=λr'=>by unfold book;rw[iy];exact⟨nTn Cj aa,by simp only[jj,bN,and_true];omega⟩
   refine B 3 ?_;refine Om qd ?_;refine B 3 ?_;refine rv rfl rfl rfl (ar (v:=yv l0) isAgg294 rfl A2 dE da (cq _) rfl) ?_;refine B 1 ?_;refine Y5 (λj=>M j\/V j) (λG=>G.ext λj=>M j\/V j) (Y6 _) (V:=J) (λV=>hI ((uy kv k n i++pre)++[x]) V) hX a8 rfl rfl rfl rfl (λW1 uT lM=>hy (uy kv k n i++pre) x J W1 (by rw[iY,njf (by simpa using av) aa,<-nno];exact K2 aa eM) uT lM) ?_ ?_
   ·intro V2 lO wY;have zk:=wY Wy A0;have RA:∀j,V2 j->V0 j\/w3.heap.size<=j:=λj hj=>by rcases zk j hj with h|h;exact VP j h;exact .inr (by have:=(DZ.links w3 A1).size;omega)
    try dsimp only
    refine B 6 ?_;refine JY (G2:=dF hM V2 (hI ((uy kv k n i++pre)++[x]) V2)) (Hc2:=tG ms) dO mw ⟨(λj h=>h.imp id (λh=>lO j (az j h))),(λj h=>h.elim (λh=>.inl (.inl h)) (λh=>(zk j h).imp .inr id)),(λj h=>h.elim (λh=>.inl (.inl h)) (λh=>(zk j h).imp .inr id)),(λp hp=>.inl (bU.2 ⟨p,hp,rfl⟩)),(λp hp=>.inl (bU.2 ⟨p,hp,rfl⟩))⟩ (JZ qd xN) ?_;exact⟨V2,λj h=>lO j (az j h),RA,by rw[iY],rfl⟩
   intro V2 lO wY;have zk:=wY Wy A0;have RA:∀j,V2 j->V0 j\/w3.heap.size<=j:=λj hj=>by rcases zk j hj with h|h;exact VP j h;exact .inr (by have:=(DZ.links w3 A1).size;omega)
   try dsimp only
   refine B 6 ?_;refine nfl (G2:=dF hM V2 (hX V2)) (Hc2:=tG ms) (c:=.ret) dO mw ⟨(λj h=>h.imp id (λh=>lO j (az j h))),(λj h=>h.elim (λh=>.inl (.inl h)) (λh=>(zk j h).imp .inr id)),(λj h=>h.elim (λh=>.inl (.inl h)) (λh=>(zk j h).imp .inr id)),(λp hp=>.inl (bU.2 ⟨p,hp,rfl⟩)),(λp hp=>.inl (bU.2 ⟨p,hp,rfl⟩))⟩ (.inl ⟨rfl,rfl⟩) rfl ?_;exact⟨rfl,V2,λj hj=>by rcases RA j hj with h|h;(have:=Ci j h;omega);omega,rfl,rfl⟩
  ·rintro qz l Dk rec G' Hc rfl jh mw ⟨J,az,VP,rfl,rfl⟩;replace jh:=yb jh;refine B 7 ?_;refine PJ.perm (nJm l Dk rec ms []) ?_;refine nop ((i+1,(l,rec,Dk)::ms),J) ⟨by dsimp only;omega,nCk jh.2.1 aa Cj,λj hj=>(VP j hj).elim (Ci j) id⟩ zS zR rfl (by dsimp only;rw[nli]) zI rfl
  rintro l Dk rec c G' Hc jh mw ⟨rfl,J,a8,rfl,rfl⟩;replace jh:=yb jh;refine CJ.perm (nJm l Dk rec ms []) ?_;refine B 6 ?_;exact Y2 (ms:=(l,rec,Dk)::ms) (H0:=[]) (.inl rfl) results327 A2 a8 (by intro j hj hx;obtain⟨p,hp,e⟩:=bU.1 hx;have:=Y4 (n:=w3.heap.size) (ms:=(l,rec,Dk)::ms) (nCk jh.2.1 aa Cj) p hp;omega) (λA hA=>.inr hA)
 intro dh;refine B 4 ?_;exact Y2 (ms:=ms) (H0:=[]) (.inr rfl) results327 A1 (λj hj=>by have:=Ci j hj;omega) (by intro j hj hx;obtain⟨p,hp,e⟩:=bU.1 hx;have:=Y4 (n:=w3.heap.size) (ms:=ms) Cj p hp;omega) (λA hA=>.inl ⟨uy kv k n i,by rw[njf (by simpa using av) aa,<-nno,show i=2 by omega],hA⟩)
theorem Y7(kv:List (Int×Int)):∀k,Rx kv k
 |0=>nFp kv
 |k+1=>λn bx by_ J m W h1 h2 h3 hm hb1 dz tE=>nup (Y7 kv k) n bx by_ J m W h1 h2 h3 hm hb1 dz tE
theorem OJ.frz{C:Cx}{Q:bE}{E:Env}{D:List Deferred}{G:Gh}{H':ad}{ops:Array Oper}{l:List Oper}{o:Obj}(hi:H[i]? =some (b,o))(hH:H.eraseIdx i=H')(ha:ah L b)(k:∀w1,w1.heap[b]? =some o->b<w1.heap.size->(∀w∈L,w.heap.size<=w1.heap.size)->OJ C ops Q l E D G (w1::L) H'):OJ C ops Q l E D G L H:=by
 subst hH;intro a W hN hD hF hS;have hb:=hS.own _ (cu hi);exact k W hb (bB.1 hb).1 (λw hw=>(hS.links w hw).size) a W hN hD hF (hS.dropAt hi ha).snap
noncomputable def pd (ns:List Nd) (n:Int):List Int:=if jF ns=0/\1<=n/\n<=1023 then fX (dq ns) 10 n else[]
noncomputable def OO (ns:List Nd) (n:Int):Int:=if jF ns=0 then(if 1<=n/\n<=1023 then 0 else 200)else 210
theorem nIm(kv:List (Int×Int)):∀(k:Nat) (n:Int),(fX kv k n).length<=2^k:=
 by intro x;induction x<;>(intros;grind [fX,aH,nwi,ndh,njf])
theorem n3k(ns:List Nd)(n:Int):(pd ns n).length<=1024:=by
 unfold pd;split
 ·exact nIm _ 10 n
 simp
theorem K3:eV prog 327:=call327
section
variable (ns:List Nd)(hn:ns.length<=100000)(N:Nat)(a:Option Addr)(cp:Nat)(w:World)(hN:N<=w.heap.size)(aI:ai fZ 2 N w a ns)
include hn cp hN aI
theorem ngk(iF:jF ns=210)(n:Int):Calls prog 262 #[.agg #[.slice a ns.length cp],ab n] w (aD w aA 1 3 [] (λs=>.tuple #[s,ab (210)])):=by
 refine eN func262 ntmps262 ?_;refine cK 2 ?_;intro b2 w2 dz bY ft J dH;refine B 7 ?_;refine KX ?_;refine zJe ?_;refine B 6 ?_;refine YZ ?_;exact zRg
theorem ngl(iF:jF ns=0)(n:Int)(sR:¬(1<=n/\n<=1023)):Calls prog 262 #[.agg #[.slice a ns.length cp],ab n] w (aD w aA 1 3 [] (λs=>.tuple #[s,ab (200)])):=by
 refine eN func262 ntmps262 ?_;refine cK 2 ?_;intro b2 w2 dz bY ft J dH;refine B 7 ?_;refine zKf ?_;refine wX ?_;by_cases h1:n<1
 ·refine aF 2 cD ?_;refine B 15 ?_;exact zRg
 refine Dh ?_;refine B 2 ?_;refine YZ ?_;exact zRg
theorem nsl(iF:jF ns=0)(n:Int)(sR:1<=n/\n<=1023):Calls prog 262 #[.agg #[.slice a ns.length cp],ab n] w (aD w aA 1 3 (fX (dq ns) 10 n) (λs=>.tuple #[s,ab (0)])):=by
 have a6:=sR.1;have mS:=sR.2;refine eN func262 ntmps262 ?_;refine cK 2 ?_;intro b2 w2 dz bY ft dL dH;refine B 7 ?_;refine zKf ?_;refine du bH ?_;refine aF 9 bH ?_;refine Dh ?_;refine B 8 ?_;refine KX ?_;refine zvd ?_;intro bf m E7 OD hm;replace E7:=yb E7;refine B 1 ?_;refine OJ.frz (i:=0) (H':=[]) rfl rfl zB ?_;intro wf J br an;have az:=an w A1;refine ny (α:=Nat×Nat) (v:=λq:Nat×Nat=>.func (.func 327) #[] #[ptr q.1 0,ptr q.2 0]) (Φ:=λ(W:World) (q:Nat×Nat) (w1:World)=>W.heap.size<=q.1/\W.heap.size<=q.2/\w1.heap[q.1]? =some (oC #[.map (some bf)] 165)/\w1.heap[q.2]? =some (oC #[ab n] 3)) call304 rfl rfl rfl (λW hS=>nXe (some bf) n W) ?_;rintro Wk q wk wg EZ ⟨hq1,uz,Fg,Fh⟩;try dsimp only at hq1 uz Fg Fh
 have Ry:=(bB.1 Fg).1;have Rz:=(bB.1 Fh).1;have bu:=EZ.size;have bh:=(wg.links wf A0).size;refine VL (enc:=aA) (m:=1) (t:=3) (Fin:=Is (fX (dq ns) 10 n)) (v:=id) call191 rfl rfl rfl (λW hS=>nZk (f:=327) (cap:=[ptr q.1 0,ptr q.2 0]) (Pre:=C2 (fX (dq ns) 10 n)) (Fin:=Is (fX (dq ns) 10 n)) (RO:=Y1 q.1 q.2 bf) K3 W ?_ ?_ ?_) ?_
 ·have my:=(hS.links wk A0).size;rintro j (rfl|rfl|rfl)<;>omega
 ·intro p hp;have h1:p.length<=_:=hp.length_le;have h2:=nIm (dq ns) 10 n;omega
 ·intro W2 hB;have my:=(hS.links wk A0).size;exact Y7 (dq ns) 10 n q.1 q.2 bf m W2 aa aa aa hm (by rw[hB.block q.1 aa];exact hS.old A0 Fg zH trivial) (by rw[hB.block q.2 aa];exact hS.old A0 Fh zH trivial) (by rw[hB.block bf aa];exact hS.old A1 J zH trivial)
 intro xs r ee aK ae;cases ee
 refine B 5 ?_;exact nQ (H0:=[]) (H1:=[]) (r:=r) (.inl rfl) results262 bD A3 (by rw[ec];exact Rw.over (Rw.ge_of aK A3)) rfl ae (Rw.ge_of aK A3) zI
theorem n0g(n:Int):Calls prog 262 #[.agg #[.slice a ns.length cp],ab n] w (aD w aA 1 3 (pd ns n) (λs=>.tuple #[s,ab (OO ns n)])):=by
 rcases nEh ns with h|h
 ·by_cases h2:1<=n/\n<=1023
  ·have e1:pd ns n=fX (dq ns) 10 n:=by unfold pd;rw[if_pos ⟨h,h2⟩]
   have e2:OO ns n=0:=by unfold OO;rw[if_pos h,if_pos h2]
   rw[e1,e2];exact nsl ns hn N a cp w hN aI h n h2
  have e1:pd ns n=[]:=by unfold pd;rw[if_neg λg=>h2 g.2]
  have e2:OO ns n=200:=by unfold OO;rw[if_pos h,if_neg h2]
  rw[e1,e2];exact ngl ns hn N a cp w hN aI h n h2
 have e1:pd ns n=[]:=by unfold pd;rw[if_neg λg=>by have:=g.1;omega]
 have e2:OO ns n=210:=by unfold OO;rw[if_neg aa]
 rw[e1,e2];exact ngk ns hn N a cp w hN aI h n
end
structure Mb where
 dev:Int
 since:Int
 ver:Int
def qH (x:Mb):Array Value:=#[ab x.dev,ab x.since,ab x.ver]
def pe (x:Mb):List Value:=[ab x.dev,ab x.since,ab x.ver]
structure Ch where
 kind:Int
 dev:Int
 pub:Int
 ver:Int
 cut:Int
def gM (x:Ch):Array Value:=#[ab x.kind,ab x.dev,ab x.pub,ab x.ver,ab x.cut]
def oA (x:Ch):List Value:=[ab x.kind,ab x.dev,ab x.pub,ab x.ver,ab x.cut]
theorem Ck(x:Mb):(pe x).length=3:=rfl
theorem Cl(x:Ch):(oA x).length=5:=rfl
theorem nRh(x:Mb):∀u∈pe x,u.oneCell'=true:=by intro u hu;simp[pe]at hu;rcases hu with rfl|rfl|rfl<;>rfl
theorem nnk(x:Ch):∀u∈oA x,u.oneCell'=true:=by intro u hu;simp[oA]at hu;rcases hu with rfl|rfl|rfl|rfl|rfl<;>rfl
theorem K4:prog.info? 131=some Tryz.t131:=by kernel_rfl
theorem K5:prog.info? 99=some Tryz.t99:=by kernel_rfl
def dy (a b:Int):Int:=if a<b then -1 else if b<a then 1 else 0
abbrev qI (f:Int):Prop:=0<=f/\f<16
theorem nAd{α:Type}{p:α->Bool}{xs:List α}(h:∀i x,i<j->xs[i]? =some x->p x=false)(hj:¬j<xs.length):xs.any p=false:=by
 rw[List.any_eq_false];intro x hx;obtain⟨i,hi⟩:=ju.1 hx;all_goals grind
def gE {α:Type} (p:α->Bool) (xs:List α) (j:Nat):Prop:=∀i x,i<j->xs[i]? =some x->p x=false
theorem gE.next{α:Type}{p:α->Bool}{xs:List α}{x:α}(h:gE p xs j)(hx:xs[j]? =some x)(hp:p x=false):gE p xs (j+1):=by
 exact zfi
def fE {α:Type} (p:α->Bool) (xs:List α) (i:Int):Prop:=(i= -1/\xs.any p=false)\/∃(k:Nat) (x:α),i=(k:Int)/\xs[k]? =some x/\p x=true/\gE p xs k
theorem fE.any{α:Type}{p:α->Bool}{xs:List α}{i:Int}(h:fE p xs i):decide (0<=i)=xs.any p:=by
 rcases h with⟨rfl,h⟩|⟨k,x,rfl,hx,hp,_⟩;all_goals grind
def Dt (xs:List Mb) (d:Int) (i j:Nat):Nat:=
 if h:i<j then(if((xs[(i+j)/2]?).map (·.dev)).getD 0<d then Dt xs d ((i+j)/2+1) j else Dt xs d i ((i+j)/2))else i
termination_by j-i
decreasing_by all_goals omega
variable {xs:List Mb}
theorem RB{x:Mb}(h:i<j)(hx:xs[(i+j)/2]? =some x)(hd:x.dev<d):Dt xs d i j=Dt xs d ((i+j)/2+1) j:=by
 rw[Dt,dif_pos h,hx];simp[hd]
theorem RC{x:Mb}(h:i<j)(hx:xs[(i+j)/2]? =some x)(hd:¬x.dev<d):Dt xs d i j=Dt xs d i ((i+j)/2):=by
 rw[Dt,dif_pos h,hx];simp[hd]
theorem RD(h:¬i<j):Dt xs d i j=i:=by rw[Dt,dif_neg h]
theorem nwj(a b:Int):dy a b<0↔a<b:=by unfold dy;split<;>(try split)<;>omega
theorem K6(a b:Int):dy a b=0↔a=b:=by unfold dy;split<;>(try split)<;>omega
def pJ (xs:List Mb) (d:Int):Nat:=Dt xs d 0 xs.length
def gF (xs:List Mb) (d:Int):Bool:=decide (((xs[pJ xs d]?).map (·.dev))=some d)
theorem nMm{x:Mb}(h:pJ xs d=i)(hx:xs[i]? =some x):decide (dy x.dev d=0)=gF xs d:=by
 unfold gF;rw[h,hx];simp[K6]
theorem nAj(h:pJ xs d=i)(hi:¬i<xs.length):false=gF xs d:=by
 unfold gF;rw[h,List.getElem?_eq_none aa];simp
theorem K7(h:gF xs d=true):pJ xs d<xs.length:=by grind [pJ,nAj]
theorem nPl(f:Int)(w:World):Calls prog 217 #[ab f] w (aU w (.bool (decide (qI f)))):=by
 refine ei 10 func217 ntmps217 ?_;refine ni (t:=5) rfl (λav=>?_) (λav=>?_)
 ·exact zTh
 exact zTh
theorem VQ(f:Int)(w:World):Calls prog 222 #[ab f] w (aU w (.bool (decide (di f)))):=by
 refine ei 10 func222 ntmps222 ?_;refine ni (t:=5) rfl (λav=>?_) (λav=>?_)
 ·exact zSh
 exact zSh
theorem nxk(f:Int)(w:World):Calls prog 169 #[ab f] w (aU w (bH)):=by
 refine ei 14 func169 ntmps169 ?_;refine aL results169 rfl A0 ?_;exact vb zI
theorem nxh(a b:Int)(w:World):Calls prog 103 #[ab a,ab b] w (aU w (ab (dy a b))):=by
 refine ei 8 func103 ntmps103 ?_;refine call call169 rfl rfl rfl (λW hS=>nxk _ W) (v:=.bool false) ?_;refine B 6 ?_;refine call call169 rfl rfl rfl (λW hS=>nxk _ W) (v:=.bool false) ?_;refine aG 29 ?_ ?_
 ·intro av;refine B 7 ?_;exact z8h
 intro av;refine aG 10 ?_ ?_
 ·intro aS;refine B 7 ?_;exact z8h
 intro aS;refine B 8 ?_;exact z8h
theorem nCl(x:Mb)(d:Int)(w:World):Calls prog 264 #[.agg (qH x),ab d] w (aU w (ab (dy x.dev d))):=by
 refine eN func264 ntmps264 ?_;refine cK 2 ?_;intro b2 w2 dz bY ft J dH;refine B 8 ?_;refine call call103 rfl rfl rfl (λW hS=>nxh _ _ W) ?_;refine B 4 ?_;refine aL results264 rfl A1 ?_;rfl
theorem ntp(xs:List Mb)(hxl:xs.length<=1000000)(N:Nat)(a:Option Addr)(cp:Nat)(w:World)(hN:N<=w.heap.size)(aI:ai qH 3 N w a xs)(d:Int):Calls prog 263 #[.slice a xs.length cp,ab d,.func (.func 264) #[] #[]] w (aU w (.tuple #[ab (pJ xs d:Int),.bool (gF xs d)])):=by
 refine ei 22 func263 ntmps263 ?_;refine CJ.lp (α:=Nat×Nat) [0,1,2,8] (λp=>[(9,ab (p.1:Int)),(10,ab (p.2:Int))]) (λp=>[]) (λp=>p.1<=p.2/\p.2<=xs.length/\Dt xs d p.1 p.2=pJ xs d) (λp=>p.2-p.1) (0,xs.length) ⟨cO _,aj _,rfl⟩ ?_;rintro⟨i,j⟩ ⟨ve,tD,J⟩;dsimp only at ve tD J ⊢;refine aG 8 ?_ ?_
 ·intro av;refine B 9 ?_;refine rv rfl rfl rfl (jo 1 2 zz rfl rfl rfl) ?_;refine rq (ab (((i+j)/2:Nat):Int)) (yJ underlying222 underlying3 rfl aa aa) ((congrArg ab aa)) ?_;refine B 4 ?_;obtain⟨bo,oo,al,to,fg,rfl,fh,bX,aR⟩:=aI.get aa;obtain⟨x,hx⟩:=ng xs ((i+j)/2) aa;refine B 5 ?_;refine zVf ?_;refine aG 3 ?_ ?_
  ·intro aS;refine B 6 ?_;refine ag ((i+j)/2+1,j) ⟨by dsimp only;omega,tD,by rw[<-J,RB aa hx ((nwj _ _).1 cY)]⟩
  intro aS;refine B 5 ?_;refine ag (i,(i+j)/2) ⟨by dsimp only;omega,by dsimp only;omega,by rw[<-J,RC aa hx (λh=>(by assumption:¬dy x.dev d<0) ((nwj _ _).2 h))]⟩
 intro av;refine B 6 ?_;have hbe:pJ xs d=i:=by rw[<-J,RD aa]
 by_cases h1:i<xs.length
 ·obtain⟨bo,oo,al,to,fg,rfl,fh,bX,aR⟩:=aI.get aa;obtain⟨x,hx⟩:=ng xs i aa;refine B 4 ?_;refine VR ?_;refine zVf ?_;refine B 7 ?_;exact zzh
 refine aF 4 bH ?_;refine B 15 ?_;exact zzh
section
variable (p:Mb->Bool)(f:Nat)(cap:List Value)(aB:eV prog f)(xs:List Mb)(hxl:xs.length<=1000000)(N:Nat)(a:Option Addr)(cp:Nat)(w:World)(hN:N<=w.heap.size)(aI:ai qH 3 N w a xs)(hp:∀(j:Nat) (x:Mb),xs[j]? =some x->∀W,Below w.heap.size w W->Calls prog f (.agg (qH x)::cap).toArray W (aU W (.bool (p x))))
include p f cap aB hxl cp hN aI hp
theorem nyd:Calls prog 118 #[.slice a xs.length cp,.func (.func f) #[] cap.toArray] w (dc w (λi:Int=>ab i) (λi _=>fE p xs i)):=by
 refine eN func118 ntmps118 ?_;refine VS ?_;rintro j ⟨hj,dR⟩;refine aG 6 ?_ ?_
 ·intro av;refine B 11 ?_;obtain⟨bo,oo,J,to,fg,rfl,fh,bX,aR⟩:=aI.get aa;obtain⟨x,hx⟩:=ng xs j aa;refine aF 5 (.agg (qH x)) ?_;refine VT ?_;refine uf ?_ ?_
  ·intro aS;refine B 12 ?_;refine sM (j:Int) results118 rfl A0 rfl ?_;exact VU
  exact VV
 intro av;refine B 11 ?_;refine sM (-1:Int) results118 rfl A0 rfl ?_;exact VW
theorem ncf:Calls prog 221 #[.slice a xs.length cp,.func (.func f) #[] cap.toArray] w (aU w (.bool (xs.any p))):=by
 refine ei 9 func221 ntmps221 ?_;refine ny (α:=Int) (v:=λi:Int=>ab i) (Φ:=λ_ i _=>fE p xs i) call118 rfl rfl rfl (λW hS=>nyd p f cap aB xs hxl N a cp W cR (aI.up (aj _) hS.sm) (λj x hx W2 hB=>hp j x hx W2 (((hS.links w A0).below KR).trans (hB.mono (hS.links w A0).size)))) ?_;intro Wi i wi J Fj hi;refine B 5 ?_;refine aL results221 rfl A1 ?_;exact vb hi.any
end
section
variable (p:Ch->Bool)(f:Nat)(cap:List Value)(aB:eV prog f)(xs:List Ch)(hxl:xs.length<=1000000)(N:Nat)(a:Option Addr)(cp:Nat)(w:World)(hN:N<=w.heap.size)(aI:ai gM 5 N w a xs)(hp:∀(j:Nat) (x:Ch),xs[j]? =some x->∀W,Below w.heap.size w W->Calls prog f (.agg (gM x)::cap).toArray W (aU W (.bool (p x))))
include p f cap aB hxl cp hN aI hp
theorem nZe:Calls prog 225 #[.slice a xs.length cp,.func (.func f) #[] cap.toArray] w (dc w (λi:Int=>ab i) (λi _=>fE p xs i)):=by
 refine eN func225 ntmps225 ?_;refine VS ?_;rintro j ⟨hj,dR⟩;refine aG 6 ?_ ?_
 ·intro av;refine B 11 ?_;obtain⟨bo,oo,J,to,fg,rfl,fh,bX,aR⟩:=aI.get aa;obtain⟨x,hx⟩:=ng xs j aa;refine aF 5 (.agg (gM x)) ?_;refine VT ?_;refine uf ?_ ?_
  ·intro aS;refine B 12 ?_;refine sM (j:Int) results225 rfl A0 rfl ?_;exact VU
  exact VV
 intro av;refine B 11 ?_;refine sM (-1:Int) results225 rfl A0 rfl ?_;exact VW
theorem nGd:Calls prog 156 #[.slice a xs.length cp,.func (.func f) #[] cap.toArray] w (aU w (.bool (xs.any p))):=by
 refine ei 9 func156 ntmps156 ?_;refine ny (α:=Int) (v:=λi:Int=>ab i) (Φ:=λ_ i _=>fE p xs i) call225 rfl rfl rfl (λW hS=>nZe p f cap aB xs hxl N a cp W cR (aI.up (aj _) hS.sm) (λj x hx W2 hB=>hp j x hx W2 (((hS.links w A0).below KR).trans (hB.mono (hS.links w A0).size)))) ?_;intro Wi i wi J Fj hi;refine B 5 ?_;refine aL results156 rfl A1 ?_;exact vb hi.any
end
structure Gp where
 folder:Int
 epoch:Int
 last:Nat->Int
 ms:List Mb
 ns:List Nd
structure Gv where
 g:Gp
 ma:Option Addr
 mc:Nat
 na:Option Addr
 nc:Nat
def bJ (x:Gv):Array Value:=(ab x.g.folder::ab x.g.epoch::lN x.g.last [.slice x.ma x.g.ms.length x.mc,.slice x.na x.g.ns.length x.nc]).toArray
structure cj (N:Nat) (w:World) (x:Gv):Prop where
 ms:ai qH 3 N w x.ma x.g.ms
 ns:ai fZ 2 N w x.na x.g.ns
 mn:x.g.ms.length<=10000
 nn:x.g.ns.length<=80000
theorem cj.up{J:Nat}{w':World}{x:Gv}(h:cj N w x)(hN:N<=J)(hw:∀k,k<N->w'.heap[k]? =w.heap[k]?):cj J w' x:=⟨h.ms.up hN hw,h.ns.up hN hw,h.mn,h.nn⟩
def VX (ep:Int) (x:Mb):Bool:=decide (x.since<1\/ep<x.since\/¬eo x.ver)
def RE (g:Gp):Prop:=(qI g.folder/\0<=g.epoch/\g.epoch<=1099511627776/\jF g.ns=0)/\¬(g.epoch=0/\(0<g.ms.length\/iD g.last (λ_=>0)=false))/\g.ms.map (·.dev)=eu g.ns/\g.ms.any (VX g.epoch)=false
open Classical in
noncomputable def ef (g:Gp):Bool:=decide (RE g)
theorem Y8(a:Int):(if eo a then(0:Int)else 40)=0↔eo a:=by grind
theorem nVn(G:Gv)(b:Nat)(x:Mb)(w:World)(hb1:w.heap[b]? =some (oC (bJ G) 53)):Calls prog 218 #[.agg (qH x),ptr b 0] w (aU w (.bool (VX G.g.epoch x))):=by
 have cN:¬Gh.no.X b:=λh=>h;have J:=(bB.1 hb1).1;obtain⟨e,he⟩:∃e,(if eo x.ver then(0:Int)else 40)=e:=⟨_,rfl⟩;have Jl:=Y8 x.ver;rw[he]at Jl;refine eN func218 ntmps218 ?_;refine cK 2 ?_;intro b2 w2 dz bY ft dL dH;refine B 9 ?_;refine ni (t:=7) rfl (λav=>?_) (λav=>?_)
 ·replace av:=ya av;refine B 16 ?_;exact zWh
 replace av:=ya av;refine B 7 ?_;refine ni (t:=14) rfl (λaS=>?_) (λaS=>?_)
 ·replace aS:=ya aS;refine B 9 ?_;exact zWh
 replace aS:=ya aS;refine B 2 ?_;refine zVd ?_;refine B 6 ?_;exact zWh
theorem K8(x:Mb)(d:Int)(w:World):Calls prog 219 #[.agg (qH x),ab d] w (aU w (.bool (decide (x.dev=d)))):=by
 refine eN func219 ntmps219 ?_;refine cK 2 ?_;intro b2 w2 dz bY ft J dH;refine B 13 ?_;refine aL results219 rfl A1 ?_;rfl
theorem nSg{α β:Type}{f:α->β}{xs:List α}{ys:List β}(hl:xs.length=ys.length)(h:∀i x y,i<xs.length->xs[i]? =some x->ys[i]? =some y->f x=y):xs.map f=ys:=by
 apply List.ext_getElem K9;intro i h1 h2;simp only[eK]at h1;simpa using h i _ _ h1 (ll h1) (ll h2)
theorem nrh{α β:Type}{f:α->β}{xs:List α}{ys:List β}{x:α}{y:β}(hx:xs[i]? =some x)(hy:ys[i]? =some y)(hne:f x≠y):xs.map f≠ys:=by grind
def vf {α β:Type} (f:α->β) (xs:List α) (ys:List β) (j:Nat):Prop:=∀i x y,i<j->xs[i]? =some x->ys[i]? =some y->f x=y
theorem vf.next{α β:Type}{f:α->β}{xs:List α}{ys:List β}{x:α}{y:β}(h:vf f xs ys j)(hx:xs[j]? =some x)(hy:ys[j]? =some y)(e:f x=y):vf f xs ys (j+1):=by
 exact zEh
theorem ndd(xs:List Mb)(hxl:xs.length<=1000000)(N:Nat)(a:Option Addr)(cp:Nat)(w:World)(hN:N<=w.heap.size)(aI:ai qH 3 N w a xs)(ys:List Int)(a2:Option Addr)(Y9:Nat)(Fk:ai (λx=>(aA x).toArray) 1 N w a2 ys):Calls prog 220 #[.slice a xs.length cp,.slice a2 ys.length Y9,.func (.func 219) #[] #[]] w (aU w (.bool (decide (xs.map (·.dev)=ys)))):=by
 refine eN func220 ntmps220 ?_;refine aG 15 ?_ ?_
 ·intro av;refine B 7 ?_;refine aL results220 rfl A0 ?_;exact vb zfb
 intro av;refine B 11 ?_;refine CJ.lp (α:=Nat) [1,2,15,16] (λj=>[(17,ab (j:Int))]) (λj=>[]) (λj=>j<=xs.length/\vf (·.dev) xs ys j) (λj=>xs.length-j) 0 ⟨cO _,λi x y hi=>absurd hi aa⟩ ?_;rintro j ⟨hj,dR⟩;refine aG 6 ?_ ?_
 ·intro aS;refine B 5 ?_;obtain⟨bo,oo,J,to,fg,rfl,fh,bX,aR⟩:=aI.get aa;obtain⟨x,hx⟩:=ng xs j aa;refine aF 3 (.agg (qH x)) ?_;refine bM 1 ?_;intro b8 C4 Jb;refine B 5 ?_;obtain⟨bp,op,Za,tp,Zb,rfl,AM,RF,zl⟩:=Fk.get aa;obtain⟨y,hy⟩:=ng ys j aa;refine B 4 ?_;refine rv rfl rfl rfl (ar (v:=ab y) isAgg3 rfl A0 RF zH zy (by have:=nJ (enc:=λx=>(aA x).toArray) (n:=1) zl hy rfl zz;simpa[aA]using this)) ?_;refine B 8 ?_;refine C3 (f:=219) (cap:=[]) rfl call219 rfl rfl rfl (λW hS=>K8 x y W) ?_;refine aG 3 ?_ ?_
  ·intro dh;refine B 11 ?_;refine cA (.inl rfl) results220 bD A0 zA ?_;exact vb zfb
  intro dh;refine xW ?_;refine ag (j+1) ⟨by omega,dR.next hx hy AW⟩
 intro aS;refine B 11 ?_;refine aL results220 rfl A0 ?_;exact vb zfb
variable {g:Gp}
theorem zm:ef g=true↔RE g:=by unfold ef;simp
theorem RG(h:¬RE g):bH= .bool (ef g):=by grind [ef,zm]
theorem nWn(h1:qI g.folder/\0<=g.epoch/\g.epoch<=1099511627776/\jF g.ns=0)(h2:¬(g.epoch=0/\(0<g.ms.length\/iD g.last (λ_=>0)=false)))(h3:g.ms.map (·.dev)=eu g.ns):Value.bool (!g.ms.any (VX g.epoch))= .bool (ef g):=vb (by
 by_cases h:g.ms.any (VX g.epoch)=false
 ·rw[h,zm.2 ⟨h1,h2,h3,h⟩];rfl
 cases e:ef g with
 |false=>simpa using h
 |true=>exact absurd (zm.1 e).2.2.2 h)
theorem nR(G:Gv)(N:Nat)(w:World)(hN:N<=w.heap.size)(hG:cj N w G):Calls prog 148 #[.agg (bJ G)] w (aU w (.bool (ef G.g))):=by
 have hn:G.g.ns.length<=100000:=by have:=hG.nn;omega
 have vZ:G.g.ms.length<=1000000:=by have:=hG.mn;omega
 have aI:=hG.ns;refine eN func148 ntmps148 ?_;refine cK 2 ?_;intro b1 w1 hb1 cN gV gb jJ;refine B 8 ?_;refine call call217 rfl rfl rfl (λW hS=>nPl _ W) ?_;refine B 2 ?_;refine ni (t:=9) rfl (λav=>?_) (λav=>?_)
 ·replace av:=ya av;refine B 25 ?_;refine aL results148 rfl A1 ?_;exact RG (λh=>av h.1.1)
 replace av:=ya av;refine B 5 ?_;refine ni (t:=14) rfl (λaS=>?_) (λaS=>?_)
 ·replace aS:=ya aS;refine B 20 ?_;refine aL results148 rfl A1 ?_;exact RG (λh=>by have:=h.1.2.1;omega)
 replace aS:=ya aS;refine B 5 ?_;refine ni (t:=19) rfl (λdh=>?_) (λdh=>?_)
 ·replace dh:=ya dh;refine B 15 ?_;refine aL results148 rfl A1 ?_;exact RG (λh=>by have:=h.1.2.2.1;omega)
 replace dh:=ya dh;refine aF 1 (.agg #[.slice G.na G.g.ns.length G.nc]) ?_;refine call call111 rfl rfl rfl (λW hS=>nLb G.g.ns hn N G.na G.nc W cR (aI.up (aj _) hS.sm)) ?_;refine aG 4 ?_ ?_
 ·intro iR;refine B 7 ?_;refine aL results148 rfl A1 ?_;exact RG (λh=>iR h.1.2.2.2)
 intro iR;refine B 9 ?_;refine ni (t:=28) rfl (λJ=>?_) (λJ=>?_)
 ·replace J:=ya J;refine B 5 ?_;refine ni (t:=33) rfl (λkY=>?_) (λkY=>?_)
  ·replace kY:=ya kY;refine B 16 ?_;refine aL results148 rfl A1 ?_;exact RG (λh=>h.2.1 ⟨J,.inl aa⟩)
  replace kY:=ya kY;refine B 3 ?_;refine rr (.bool (!iD G.g.last (λ_=>0))) (dV nO zz nF rfl rfl rfl) ?_;refine aG 4 ?_ ?_
  ·intro jU;refine B 7 ?_;refine aL results148 rfl A1 ?_;exact RG (λh=>h.2.1 ⟨J,.inr jU⟩)
  intro jU;refine B 14 ?_;by_cases h1:G.g.ms.map (·.dev)=eu G.g.ns
  ·refine zYc ?_;refine CJ.chn 11 [4] [_,some (.slice G.ma G.g.ms.length G.mc),_,some (.agg #[.slice G.na G.g.ns.length G.nc]),none,_,some (cD),_,_,_,_] (λcv L' H'=>match cv with| []=>L'=[w1,w]/\H'=[]| [v1]=>∃(a7:Option Addr) (c7:Nat) (w7:World),v1= .slice a7 (eu G.g.ns).length c7/\L'=[w7,w1,w]/\H'=[]/\ai (λx=>(aA x).toArray) 1 w7.heap.size w7 a7 (eu G.g.ns)|_=>False) (pc Zc (pc OP (pc Zd (pc OP (pk (pc zL (pc (λcv L' H' hd hP=>match cv,hd,hP with| [],hd,hP=>(absurd (show false=true from hd) zz)| [v1],hd,hP=>zLc|_::_::_,_,hP=>hP.elim) (pc zL (pc Zc (pc OP (pc zL (pn)))))))))))) ?_ ?_
   ·exact zhg
   intro cv L' H' hl hP;obtain⟨v1,rfl⟩:=jK hl;obtain⟨a7,c7,w7,rfl,rfl,rfl,ko⟩:=hP;refine zce ?_;refine B 6 ?_;refine aL results148 rfl A2 ?_;exact nWn ⟨av,by omega,by omega,iR⟩ (λh=>h.2.elim (λh=>by omega) (λh=>by rw[jU]at h;cases h)) h1
  exact zeg
 replace J:=ya J;refine B 28 ?_;by_cases h1:G.g.ms.map (·.dev)=eu G.g.ns
 ·refine zYc ?_;refine CJ.chn 11 [4] [_,some (.slice G.ma G.g.ms.length G.mc),_,some (.agg #[.slice G.na G.g.ns.length G.nc]),none,_,some (cD),_,_,_,_] (λcv L' H'=>match cv with| []=>L'=[w1,w]/\H'=[]| [v1]=>∃(a7:Option Addr) (c7:Nat) (w7:World),v1= .slice a7 (eu G.g.ns).length c7/\L'=[w7,w1,w]/\H'=[]/\ai (λx=>(aA x).toArray) 1 w7.heap.size w7 a7 (eu G.g.ns)|_=>False) (pc Zc (pc OP (pc Zd (pc OP (pk (pc zL (pc (λcv L' H' hd hP=>match cv,hd,hP with| [],hd,hP=>(absurd (show false=true from hd) zz)| [v1],hd,hP=>zLc|_::_::_,_,hP=>hP.elim) (pc zL (pc Zc (pc OP (pc zL (pn)))))))))))) ?_ ?_
  ·exact zhg
  intro cv L' H' hl hP;obtain⟨v1,rfl⟩:=jK hl;obtain⟨a7,c7,w7,rfl,rfl,rfl,ko⟩:=hP;refine zce ?_;refine B 6 ?_;refine aL results148 rfl A2 ?_;exact nWn ⟨av,by omega,by omega,iR⟩ (λh=>J h.1) h1
 exact zeg
section
variable {C:Cx} {Q:bE} {E E0:Env} {D:List Deferred} {G:Gh} {L:List World} {H:ad}
def Ze (C:Cx) (E:Env) (D:List Deferred) (G:Gh) (L:List World) (H:ad):bE:=λe a W=>e= .normal/\a.tmps.size=C.N/\a.defers=D/\Fits E a/\St G L H W
theorem CJ.mid{c:Code}{v:Value}(h0:Sub E0 E)(h:CJ C c (Ze C ((t,v)::E0) D G L H) E D G L H)(k:PJ C Q .normal ((t,v)::E0) D G L H):CJ C c Q E D G L H:=by
 intro a W hN hD hF hS;refine wpIn_mono (h a W hN hD hF hS) ?_;rintro e a' W' ⟨rfl,h1,h2,h3,h4⟩;exact k a' W' h1 h2 h3 h4
theorem PJ.mid{E':Env}(hE:Sub E' E):PJ C (Ze C E' D G L H) .normal E D G L H:=λa W hN hD hF hS=>⟨rfl,hN,hD,hE.fits hF,hS⟩
end
def Zg (x:Ch):Prop:=((x.kind=1/\(eo x.pub/\eo x.ver)/\x.cut=0)\/(x.kind=2/\x.pub=0/\x.ver=0/\(0<=x.cut/\x.cut<=1048576))\/(x.kind=3/\(eo x.pub/\eo x.ver)/\(0<=x.cut/\x.cut<=1048576)))/\di x.dev
def OQ (kv:List (Int×Bool)) (x:Ch):List (Int×Bool):=dQ kv x.dev true
def OR (l:List Ch):List (Int×Bool):=l.foldl OQ []
variable {x:Ch} {l:List Ch}
theorem nBg(hx:l[j]? =some x):OR (l.take (j+1))=dQ (OR (l.take j)) x.dev true:=by rw[np hx];simp[OR,OQ,Ji]
def RH (l:List Ch) (i:Nat) (x:Ch):Prop:=Zg x/\(aH (OR (l.take i)) x.dev).getD false=false
def zo (l:List Ch) (j:Nat):Prop:=∀i x,i<j->l[i]? =some x->RH l i x
theorem zo.next(h:zo l j)(hx:l[j]? =some x)(hk:RH l j x):zo l (j+1):=by
 exact zgi
def La (l:List Ch):Prop:=zo l l.length/\l.length<=64
open Classical in
noncomputable def jO (l:List Ch):Bool:=decide (La l)
theorem OS:jO l=true↔La l:=by unfold jO;simp
theorem nqc(hx:l[j]? =some x)(h:¬RH l j x):bH= .bool (jO l):=vb (by
 cases e:jO l with
 |false=>rfl
 |true=>exact absurd ((OS.1 e).1 j x (nq hx) hx) h)
theorem nGh(h:zo l j)(hj:¬j<l.length):Value.bool (decide ((l.length:Int)<=64))= .bool (jO l):=vb (by
 have h1:zo l l.length:=λi x hi hx=>h i x aa hx;cases e:jO l with
 |false=>exact decide_eq_false (λh2=>absurd (OS.2 ⟨h1,by omega⟩) (by rw[e];decide))
 |true=>have:=(OS.1 e).2;exact decide_eq_true aa)
theorem nSc(l:List Ch)(hxl:l.length<=1000000)(N:Nat)(a:Option Addr)(cp:Nat)(w:World)(hN:N<=w.heap.size)(aI:ai gM 5 N w a l):Calls prog 196 #[.slice a l.length cp] w (aU w (.bool (jO l))):=by
 refine ei 7 func196 ntmps196 ?_;refine KQ Value.bool rfl rfl ?_;refine yW ?_;intro b9 xP uh;refine B 12 ?_;refine CJ.lp (α:=Mp×Nat) [0,3,10,11] (λp=>[(12,ab (p.2:Int))]) (λp=>[(b9,p.1.obj Value.bool (OR (l.take p.2)))]) (λp=>p.2<=l.length/\p.1.Ok (OR (l.take p.2))/\zo l p.2) (λp=>l.length-p.2) (⟨[],0⟩,0) ⟨cO _,Mp.nil,λi x hi=>absurd hi aa⟩ ?_;rintro⟨m,j⟩ ⟨hj,hm,dR⟩;dsimp only at hj hm dR ⊢;refine aG 6 ?_ ?_
 ·intro av;refine B 5 ?_;obtain⟨bo,oo,a6,to,fg,rfl,fh,bX,aR⟩:=aI.get aa;obtain⟨x,hx⟩:=ng l j aa;obtain⟨e1,uq⟩:∃e,(if eo x.pub then(0:Int)else 40)=e:=⟨_,rfl⟩;obtain⟨e2,Jg⟩:∃e,(if eo x.ver then(0:Int)else 40)=e:=⟨_,rfl⟩;have RI:=Y8 x.pub;rw[uq]at RI;have RJ:=Y8 x.ver;rw[Jg]at RJ;refine B 2 ?_;refine VY ?_;refine yW ?_;intro b5 tr tu;refine B 4 ?_;refine CJ.mid (t:=6) (v:=.bool (decide (e1=0/\e2=0))) (E0:=[(0,_),(3,_),(5,_),(10,_),(11,_),(12,_),(13,_),(14,_),(15,_)]) zR ?_ ?_
  ·refine B 3 ?_;refine call call65 rfl rfl rfl (λW hS=>by rw[<-uq];exact nP _ W) (v:=ab e1) ?_;refine B 2 ?_;refine ni (t:=20) rfl (λaS=>?_) (λaS=>?_)
   ·replace aS:=ya aS;refine B 2 ?_;refine call call65 rfl rfl rfl (λW hS=>by rw[<-Jg];exact nP _ W) (v:=ab e2) ?_;refine B 4 ?_;exact zYh
   replace aS:=ya aS;refine B 7 ?_;exact zYh
  refine B 2 ?_;refine CJ.mid (t:=7) (v:=.bool (decide (0<=x.cut/\x.cut<=1048576))) (E0:=[(0,_),(3,_),(5,_),(6,_),(10,_),(11,_),(12,_),(13,_),(14,_),(15,_)]) zR ?_ ?_
  ·refine B 5 ?_;refine ni (t:=29) rfl (λdh=>?_) (λdh=>?_)
   ·exact zph
   exact zph
  refine B 13 ?_;refine CJ.mid (t:=8) (v:=.bool (decide ((x.kind=1/\(e1=0/\e2=0)/\x.cut=0)\/(x.kind=2/\x.pub=0/\x.ver=0/\(0<=x.cut/\x.cut<=1048576))\/(x.kind=3/\(e1=0/\e2=0)/\(0<=x.cut/\x.cut<=1048576))))) (E0:=[(0,_),(3,_),(5,_),(6,_),(7,_),(10,_),(11,_),(12,_),(13,_),(14,_),(15,_),(34,_),(35,_)]) zR ?_ ?_
  ·refine aG 7 ?_ ?_
   ·intro iR;refine B 3 ?_;refine ni (t:=39) rfl (λgU=>?_) (λgU=>?_)
    ·replace gU:=ya gU;refine B 7 ?_;exact Zh
    replace gU:=ya gU;refine B 7 ?_;exact Zh
   intro iR;refine aG 6 ?_ ?_
   ·intro kY;refine B 5 ?_;refine ni (t:=49) rfl (λjU=>?_) (λjU=>?_)
    ·replace jU:=ya jU;refine B 5 ?_;refine ni (t:=54) rfl (λDV=>?_) (λDV=>?_)
     ·replace DV:=ya DV;exact zvi
     replace DV:=ya DV;exact zvi
    replace jU:=ya jU;refine B 10 ?_;exact Zh
   intro kY;refine aG 6 ?_ ?_
   ·intro pw;refine B 3 ?_;refine ni (t:=60) rfl (λrC=>?_) (λrC=>?_)
    ·replace rC:=ya rC;exact zvi
    replace rC:=ya rC;exact zvi
   intro pw;refine B 2 ?_;exact Zh
  refine B 7 ?_;refine ni (t:=65) rfl (λJ=>?_) (λJ=>?_)
  ·replace J:=ya J;refine B 26 ?_;exact zng
  replace J:=ya J;refine B 2 ?_;refine call call222 rfl rfl rfl (λW hS=>VQ _ W) ?_;refine B 3 ?_;refine ni (t:=71) rfl (λkg=>?_) (λkg=>?_)
  ·replace kg:=ya kg;refine B 20 ?_;exact zng
  replace kg:=ya kg;refine B 3 ?_;refine rq (.bool ((aH (OR (l.take j)) x.dev).getD false)) (ov (ev:=Value.bool) underlying307 underlying3 zeroValue4 hm (bF.own (i:=1) rfl) rfl rfl) (nlk _) ?_;refine aG 3 ?_ ?_
  ·intro mE;refine B 12 ?_;exact zng
  intro mE;refine B 6 ?_;refine OG (i:=1) (ev:=Value.bool) (v:=true) rfl hm underlying307 underlying3 rfl rfl rfl rfl ?_;intro m3 da;refine xW ?_;refine PJ.again (m3,j+1) ⟨by dsimp only;omega,by rw[nBg hx];exact da,dR.next hx ⟨⟨by rw[<-RI,<-RJ];assumption,by assumption⟩,by assumption⟩⟩ zS zR (by rw[nBg hx];rfl) rfl zI
 intro av;refine B 14 ?_;exact zng
theorem rT{C:Cx}{E:Env}{G:Gh}{T U:Nat}{x y:Operand}{a b:Bool}(hU:C.P.underlying T=some .bool)(hx:ev E x=some (.bool a))(hy:ev E y=some (.bool b)):RV C G L H E (.binOp .neq T x y U) (.bool (a != b)):=λd ty pos J g ac W hF _=>by
 have h1:(Op.equalIn (9999+1) T (.bool a) (.bool b)).run C.P W= .ok (a==b) W:=by
  generalize 9999=n;simp[Op.equalIn,run_underlying hU]
 have h2:(binOp .neq T (.bool a) (.bool b)).run C.P W= .ok (.bool (a != b)) W:=by
  have e:binOp .neq T (.bool a) (.bool b)=(do pure (.bool (!(<-Op.equalIn (9999+1) T (.bool a) (.bool b))))):=rfl;rw[e,Sem.run_bind,h1];rfl
 have h3:(eqGuard .neq T x y (.bool a) (.bool b)).run C.P W= .ok () W:=by simp[eqGuard]
 simp only[execOp,hF.ev hx,hF.ev hy,Sem.run_bind,h3,h2,Result.andThen];rfl
def zp (g:Gp) (own:Bool) (au:Int) (x:Ch):Bool:=(gF g.ms x.dev==decide (x.kind=1))||(own&&decide (x.dev=au))
def lX (g:Gp) (au:Int) (l:List Ch):Bool:= !((gF g.ms au != decide (0<g.epoch))||(decide (g.epoch=0)&&(decide (l.length=0)|| !decide ((l[0]?.map (·.dev))=some au))))&& !(l.any (zp g (gF g.ms au) au))
section
variable (G:Gv)(N:Nat)(w:World)(hN:N<=w.heap.size)(hG:cj N w G)
include hN hG
theorem nYd(d:Int):Calls prog 199 #[.agg (bJ G),ab d] w (aU w (.tuple #[ab (pJ G.g.ms d:Int),.bool (gF G.g.ms d)])):=by
 refine eN func199 ntmps199 ?_;refine cK 2 ?_;intro b2 w2 dz bY ft J dH;refine B 9 ?_;refine call call263 rfl rfl rfl (λW hS=>ntp G.g.ms (by have:=hG.mn;omega) N G.ma G.mc W cR (hG.ms.up (aj _) hS.sm) d) ?_;refine B 7 ?_;refine nT results199 rfl rfl A1 ?_ ?_;all_goals rfl
theorem nLi(b1 b2 b3:Nat)(own:Bool)(au:Int)(hb1:w.heap[b1]? =some (oC (bJ G) 53))(dz:w.heap[b2]? =some (oC #[.bool own] 4))(dE:w.heap[b3]? =some (oC #[ab au] 3))(x:Ch):Calls prog 259 #[.agg (gM x),ptr b1 0,ptr b2 0,ptr b3 0] w (aU w (.bool (zp G.g own au x))):=by
 have cN:¬Gh.no.X b1:=λh=>h;have bY:¬Gh.no.X b2:=λh=>h;have da:¬Gh.no.X b3:=λh=>h;refine eN func259 ntmps259 ?_;refine cK 2 ?_;intro b4 w4 D6 BZ J iW iX;refine Zi ?_;refine B 2 ?_;refine call call199 rfl rfl rfl (λW hS=>nYd G N W cR (hG.up (aj _) hS.sm) x.dev) ?_;refine B 13 ?_;refine rv rfl rfl rfl (RK underlying4 rfl rfl) ?_;refine B 1 ?_;refine ni (t:=20) rfl (λav=>?_) (λav=>?_)
 ·replace av:=ya av;refine B 12 ?_;exact zxh
 replace av:=ya av;refine B 2 ?_;refine ni (t:=22) rfl (λaS=>?_) (λaS=>?_)
 ·replace aS:=ya aS;refine B 10 ?_;exact zxh
 replace aS:=ya aS;refine B 10 ?_;exact zxh
theorem n6e(l:List Ch)(hxl:l.length<=1000000)(a:Option Addr)(cp:Nat)(aI:ai gM 5 N w a l)(au:Int):Calls prog 197 #[.agg (bJ G),ab au,.slice a l.length cp] w (aU w (.bool (lX G.g au l))):=by
 refine eN func197 ntmps197 ?_;refine cK 2 ?_;intro b3 w3 dE da gi eO fw;refine yX ?_;intro b4 w4 D6 BZ Vj iW iX;refine Zi ?_;refine B 1 ?_;refine call call199 rfl rfl rfl (λW hS=>nYd G N W cR (hG.up (aj _) hS.sm) au) ?_;refine bM 4 ?_;intro b8 C4 Jb;refine B 6 ?_;by_cases h1:gF G.g.ms au≠decide (0<G.g.epoch)
 ·refine eA 19 (pb:=by exact zU 4 (k:=by exact aM (X.v (RV.re (v':=cD) (rT underlying4 rfl rfl) (vb Du))) zT)) (k:=?_);refine B 14 ?_;exact Zj
 by_cases h2:¬G.g.epoch=0
 ·refine eA 19 (pb:=by exact zU 4 (k:=by exact aM (X.v (RV.re (v':=bH) (rT underlying4 rfl rfl) (vb Du))) zT)) (sp:=(_::_::_::_::_::_::_::_::(some bH)::_)) (k:=?_);refine B 19 ?_;refine z5c ?_;refine B 5 ?_;exact Zj
 by_cases h3:l.length=0
 ·refine eA 19 (pb:=by exact zU 4 (k:=by exact aM (X.v (RV.re (v':=bH) (rT underlying4 rfl rfl) (vb Du))) zT)) (sp:=[_,_,_,_,_,_,_,_,some cD,_,_,_,some cD,_,_,_,_,_,_]) (k:=?_);refine B 14 ?_;exact Zj
 obtain⟨bo,oo,J,to,fg,rfl,fh,bX,aR⟩:=aI.get aa;obtain⟨x,hx⟩:=ng l 0 aa;refine eA 19 (pb:=by exact zU 4 (k:=by exact aM (X.v (RV.re (v':=bH) (rT underlying4 rfl rfl) (vb Du))) (zU 12 (k:=by exact aM (X.v (ar (v:=ab x.dev) isAgg3 rfl A2 bX zH zy (by have:=uA aR hx (i:=0) rfl 1 zz;simpa[gM]using this))) zT)))) (sp:=[_,_,_,_,_,_,_,_,some cD,_,_,_,some bH,_,_,_,_,_,_]) (k:=?_);refine aG 6 ?_ ?_
 ·intro av;refine B 7 ?_;exact Zj
 intro av;refine B 12 ?_;refine z5c ?_;refine B 5 ?_;exact Zj
end
noncomputable def lY (ns:List Nd) (d:Int):List Nd:=if jF ns=0/\(aH (dq ns) (512+d)).isSome=true then nU (mW (dq ns) d)else[]
noncomputable def pK (ns:List Nd) (d:Int):Int:=if jF ns=0 then(if(aH (dq ns) (512+d)).isSome=true then 0 else 200)else 210
open Classical in
noncomputable def lx (ns:List Nd) (d p:Int):List Nd:=if jF ns=0/\eo p then nU (dQ (mW (dq ns) d) (512+d) p)else[]
open Classical in
noncomputable def pL (ns:List Nd) (d p:Int):Int:=if jF ns=0 then(if eo p then 0 else 50)else 210
theorem Fl(ns:List Nd)(d:Int):(lY ns d).length<=ns.length:=by grind [lY,noh,YY,VK]
theorem Fm(ns:List Nd)(d p:Int):(lx ns d p).length<=ns.length+1:=by grind [lx,noh,YF,YY,VK]
section
variable (ns:List Nd)(hn:ns.length<=100000)(N:Nat)(a:Option Addr)(cp:Nat)(w:World)(hN:N<=w.heap.size)(aI:ai fZ 2 N w a ns)
include hn cp hN aI
theorem n1d(d:Int)(hd:di d):Calls prog 35 #[.agg #[.slice a ns.length cp],ab d] w (aD w ik 2 240 (lY ns d) (λs=>.tuple #[.agg #[s],ab (pK ns d)])):=by
 rcases nEh ns with h|h
 ·by_cases h2:(aH (dq ns) (512+d)).isSome=true
  ·have e1:lY ns d=nU (mW (dq ns) d):=by unfold lY;rw[if_pos ⟨h,h2⟩]
   have e2:pK ns d=0:=by unfold pK;rw[if_pos h,if_pos h2]
   rw[e1,e2];exact n7p ns hn N a cp w hN aI h d hd h2
  have e1:lY ns d=[]:=by unfold lY;rw[if_neg λg=>h2 g.2]
  have e2:pK ns d=200:=by unfold pK;rw[if_pos h,if_neg h2]
  rw[e1,e2];exact nqp ns hn N a cp w hN aI h d hd Lb
 have e1:lY ns d=[]:=by unfold lY;rw[if_neg λg=>by have:=g.1;omega]
 have e2:pK ns d=210:=by unfold pK;rw[if_neg aa]
 rw[e1,e2];exact nXo ns hn N a cp w hN aI h d
theorem nzf(d p:Int)(hd:di d)(J:ns.length<100000):Calls prog 34 #[.agg #[.slice a ns.length cp],ab d,ab p] w (aD w ik 2 240 (lx ns d p) (λs=>.tuple #[.agg #[s],ab (pL ns d p)])):=by
 rcases nEh ns with h|h
 ·by_cases h2:eo p
  ·have e1:lx ns d p=nU (dQ (mW (dq ns) d) (512+d) p):=by unfold lx;rw[if_pos ⟨h,h2⟩]
   have e2:pL ns d p=0:=by unfold pL;rw[if_pos h,if_pos h2]
   rw[e1,e2];exact Rr ns hn N a cp w hN aI h d p hd J (if_pos h2)
  have e1:lx ns d p=[]:=by unfold lx;rw[if_neg λg=>h2 g.2]
  have e2:pL ns d p=50:=by unfold pL;rw[if_pos h,if_neg h2]
  rw[e1,e2];exact K0 ns hn N a cp w hN aI h d p hd (if_neg h2)
 have e1:lx ns d p=[]:=by unfold lx;rw[if_neg λg=>by have:=g.1;omega]
 have e2:pL ns d p=210:=by unfold pL;rw[if_neg aa]
 rw[e1,e2];exact KZ ns hn N a cp w hN aI h d p
end
noncomputable def tH (ns:List Nd) (x:Ch):List Nd:=if x.kind=2 then lY ns x.dev else lx ns x.dev x.pub
noncomputable def aQ (ns:List Nd) (l:List Ch):List Nd:=l.foldl tH ns
theorem nhh(hx:l[j]? =some x):aQ ns (l.take (j+1))=tH (aQ ns (l.take j)) x:=by rw[np hx];simp[aQ,Ji]
theorem VZ(hx:l[j]? =some x)(h:x.kind=2):aQ ns (l.take (j+1))=lY (aQ ns (l.take j)) x.dev:=by rw[nhh hx];unfold tH;rw[if_pos h]
theorem V4(hx:l[j]? =some x)(h:¬x.kind=2):aQ ns (l.take (j+1))=lx (aQ ns (l.take j)) x.dev x.pub:=by rw[nhh hx];unfold tH;rw[if_neg h]
theorem OT(l:List Ch):∀ns:List Nd,(aQ ns l).length<=ns.length+l.length:=by induction l<;>grind [aQ,tH,Fl,Fm]
theorem n2g(ns:List Nd)(l:List Ch)(j:Nat)(hj:j<=l.length):(aQ ns (l.take j)).length<=ns.length+l.length:=by grind [OT]
theorem nii(ns:List Nd)(l:List Ch)(j:Nat)(h:¬j<l.length):aQ ns (l.take j)=aQ ns l:=by rw[iC aa]
theorem ai.to{α:Type}{enc:α->Array Value}{xs:List α}(h:ai enc n N w a xs)(hS:St Gh.no L H W)(hw:w∈L)(hN:N<=w.heap.size)(ho:∀b off,a=some ⟨b,off,none⟩->xs=[]\/bN H b):ai enc n W.heap.size W a xs:=by
 by_cases h0:xs=[]
 ·exact .inl h0
 exact h.blk λb off e hb=>⟨by have:=(hS.links w hw).size;omega,(hS.links w hw).block b aa (λhx=>hx.elim id ((ho b off e).resolve_left h0).mem)⟩
abbrev Zk {α:Type} (N:Nat) (w:World) (enc:α->Array Value) (n:Nat) (xs:List α) (v:Value->Value):Ending->World->Prop:=dc w (λq:Option Addr×Nat=>v (.slice q.1 xs.length q.2)) (λq w'=>ai enc n w'.heap.size w' q.1 xs/\∀b off,q.1=some ⟨b,off,none⟩->xs=[]\/b<N\/w.heap.size<=b)
theorem ai.lt{α:Type}{enc:α->Array Value}{xs:List α}(h:ai enc n N w a xs){off:Nat}(e:a=some ⟨b,off,none⟩):xs=[]\/b<N:=by
 rcases h with h|⟨b',off',cs,t,fr,h1,h2,_⟩;all_goals grind
theorem nAc(G:Gv)(N:Nat)(w:World)(hN:N<=w.heap.size)(hG:cj N w G)(l:List Ch)(hxl:l.length<=1000000)(a:Option Addr)(cp:Nat)(aI:ai gM 5 N w a l)(yS:l.length<=64)(lA:∀x∈l,di x.dev):Calls prog 140 #[.agg (bJ G),.slice a l.length cp] w (Zk N w fZ 2 (aQ G.g.ns l) (λs=>.agg #[s])):=by
 have Vx:=hG.nn;refine eN func140 ntmps140 ?_;refine cK 2 ?_;intro b2 w2 dz bY ft dL dH;refine bM 1 ?_;intro b4 iW iX;refine aF 5 (.agg #[.slice G.na G.g.ns.length G.nc]) ?_;refine bM 1 ?_;intro b5 tr tu;refine B 12 ?_;refine CJ.loop (α:=(Option Addr×Nat)×World×Nat) (λp=>[(4,ptr b4 0),(5,ptr b5 0),(10,.slice a l.length cp),(11,ab (l.length:Int)),(12,ab (p.2.2:Int))]) (λp=>[(b5,oC #[.slice p.1.1 (aQ G.g.ns (l.take p.2.2)).length p.1.2] 51),(b4,oC #[ak] 51)]) (λp=>[p.2.1,w]) (λp=>Gh.no) (λp=>p.2.2<=l.length/\w.heap.size<=p.2.1.heap.size/\ai fZ 2 p.2.1.heap.size p.2.1 p.1.1 (aQ G.g.ns (l.take p.2.2))/\∀b off,p.1.1=some ⟨b,off,none⟩->aQ G.g.ns (l.take p.2.2)=[]\/(b≠b5/\b≠b4/\(b<N\/w.heap.size<=b))) (λp=>l.length-p.2.2) ((G.na,G.nc),w,0) ⟨cO _,aj _,hG.ns.up hN R2,λb off e=>by rcases hG.ns.lt e with h|h;(exact .inl h);exact .inr aa⟩ zR rfl rfl zI ?_;rintro⟨⟨ta,tc⟩,wk,j⟩ ⟨hj,tI,J,dR⟩;dsimp only at hj tI J dR ⊢;refine aG 6 ?_ ?_
 ·intro av;refine B 5 ?_;obtain⟨bo,oo,a6,to,fg,rfl,fh,bX,aR⟩:=aI.get aa;obtain⟨x,hx⟩:=ng l j aa;have hd:=lA x (cu hx);have Lc:=n2g G.g.ns l j aa;refine B 2 ?_;refine VY ?_;refine yW ?_;intro b7 kh vY;refine aG 10 ?_ ?_
  ·intro aS;refine B 4 ?_;refine OJ.dropAt (i:=0) rfl zB ?_;refine nH (enc:=ik) (m:=2) (t:=240) (xs:=lY (aQ G.g.ns (l.take j)) x.dev) (v:=λs=>.tuple #[.agg #[s],ab (pK (aQ G.g.ns (l.take j)) x.dev)]) (first:=[]) (cap:=[]) rfl call35 rfl rfl rfl KL (λW hS=>n1d (aQ G.g.ns (l.take j)) aa W.heap.size ta tc W (aj _) (J.to hS A0 (aj _) (λb off e=>by rcases dR b off e with h9|h9;(exact .inl h9);rcases J.lt e with h8|h8;(exact .inl h8);refine .inr ?_;simp only[bN,dA,eh,rK,and_true];omega)) x.dev hd) ?_;intro W9 a9 Fp Jm cF xX jP kA;have RL:=cF.under;simp only[I8,dA,eh,rK,and_true]at RL;have Zl:=xX.size;have XM:=(cF.links w A1).size;refine B 11 ?_;refine PJ.again ((a9,Fp),Jm,j+1) ⟨by dsimp only;omega,by dsimp only;omega,by dsimp only;rw[VZ hx cY];exact jP,λb off e=>by have:=kA _ e;dsimp only at this;exact .inr aa⟩ zS zR (by rw[VZ hx cY];rfl) rfl zI
  intro aS;refine B 6 ?_;refine OJ.dropAt (i:=0) rfl zB ?_;refine nH (enc:=ik) (m:=2) (t:=240) (xs:=lx (aQ G.g.ns (l.take j)) x.dev x.pub) (v:=λs=>.tuple #[.agg #[s],ab (pL (aQ G.g.ns (l.take j)) x.dev x.pub)]) (first:=[]) (cap:=[]) rfl call34 rfl rfl rfl KL (λW hS=>nzf (aQ G.g.ns (l.take j)) aa W.heap.size ta tc W (aj _) (J.to hS A0 (aj _) (λb off e=>by rcases dR b off e with h9|h9;(exact .inl h9);rcases J.lt e with h8|h8;(exact .inl h8);refine .inr ?_;simp only[bN,dA,eh,rK,and_true];omega)) x.dev x.pub hd aa) ?_;intro W9 a9 Fp Jm cF xX jP kA;have RL:=cF.under;simp only[I8,dA,eh,rK,and_true]at RL;have Zl:=xX.size;have XM:=(cF.links w A1).size;refine B 11 ?_;refine PJ.again ((a9,Fp),Jm,j+1) ⟨by dsimp only;omega,by dsimp only;omega,by dsimp only;rw[V4 hx cY];exact jP,λb off e=>by have:=kA _ e;dsimp only at this;exact .inr aa⟩ zS zR (by rw[V4 hx cY];rfl) rfl zI
 intro av;refine B 6 ?_;rw[nii _ _ _ aa]at J dR ⊢;refine B 6 ?_;exact bS (.inl rfl) results140 bD λW hS=>⟨(ta,tc),rfl,hS.base A1 zD,J.to hS A0 (aj _) (λb off e=>by rcases dR b off e with h9|h9;(exact .inl h9);exact .inr zy),λb off e=>(dR b off e).imp id (λh=>h.2.2)⟩
noncomputable def qJ (ns:List Nd) (au:Int) (i:Nat):List (Int×Int):=(List.range i).flatMap λ(t:Nat)=>(pd ns (((ki au)[t]?).getD 0)).map λn=>((t:Int)+1,n)
noncomputable def lB (ns:List Nd) (au:Int):List (Int×Int):=qJ ns au 9
theorem nPm(ns:List Nd)(au:Int){s:Int}(J:(ki au)[i]? =some s):qJ ns au (i+1)=qJ ns au i++(pd ns s).map λn=>((i:Int)+1,n):=by simp[qJ,List.range_succ,J]
theorem njm(ns:List Nd)(au:Int)(i:Nat):∀k,qJ ns au i <+:qJ ns au (i+k)
 |0=>List.prefix_refl _
 |k+1=>(njm ns au i k).trans (by
  have:qJ ns au (i+(k+1))=qJ ns au (i+k)++(pd ns (((ki au)[i+k]?).getD 0)).map λn=>(((i+k:Nat):Int)+1,n):=by rw[<-Nat.add_assoc];simp[qJ,List.range_succ]
  rw[this];exact List.prefix_append _ _)
theorem Ld{s:Int}(J:(ki au)[i]? =some s)(hi:i<9){p:List (Int×Int)}(h:p <+:(pd ns s).map λn=>((i:Int)+1,n)):qJ ns au i++p <+:lB ns au:=by
 have h1:qJ ns au i++p <+:qJ ns au (i+1):=by rw[nPm ns au J];exact(List.prefix_append_right_inj _).2 h
 refine h1.trans ?_;have h2:=njm ns au (i+1) (8-i);rw[show i+1+(8-i)=9 by omega]at h2;exact h2
theorem nfo(ns:List Nd)(au:Int):∀i,(qJ ns au i).length<=1024*i
 |0=>by simp[qJ]
 |i+1=>by
  have h1:=nfo ns au i;have h2:=n3k ns (((ki au)[i]?).getD 0);have:qJ ns au (i+1)=qJ ns au i++(pd ns (((ki au)[i]?).getD 0)).map λn=>((i:Int)+1,n):=by simp[qJ,List.range_succ]
  rw[this,cB,eK];omega
theorem Fq(ns:List Nd)(au:Int):(lB ns au).length<=9216:=nfo ns au 9
noncomputable def Jn (ns:List Nd) (i:Nat) (s:Int) (j:Nat):List (Int×Int):=((pd ns s).take j).map λn=>((i:Int)+1,n)
theorem Fs(ns:List Nd)(i:Nat)(s:Int):Jn ns i s 0=[]:=rfl
theorem n0l{s:Int}{n:Int}(h:(pd ns s)[j]? =some n):Jn ns i s (j+1)=Jn ns i s j++[((i:Int)+1,n)]:=by unfold Jn;rw[np h];simp
theorem Le(ns:List Nd)(i:Nat)(s:Int)(h:¬j<(pd ns s).length):Jn ns i s j=(pd ns s).map λn=>((i:Int)+1,n):=by unfold Jn;rw[iC aa]
theorem Lf(ns:List Nd)(i:Nat)(s:Int)(j:Nat):Jn ns i s j <+:(pd ns s).map λn=>((i:Int)+1,n):=(List.take_prefix _ _).map _
def Zm (p:Int×Int):List Value:=[ab p.1,ab p.2]
def Zn (b1 b2:Nat) (ns:List Nd) (ta:Option Addr):aJ:=λk=>k=b1\/k=b2\/(ns≠ []/\∃off,ta=some ⟨k,off,none⟩)
theorem ai.toG{α:Type}{enc:α->Array Value}{xs:List α}{G:Gh}(h:ai enc n N w a xs)(hS:St G L H W)(hw:w∈L)(hN:N<=w.heap.size)(ho:∀b off,a=some ⟨b,off,none⟩->xs=[]\/(b<N->¬G.X b/\bN H b)):ai enc n W.heap.size W a xs:=by
 by_cases h0:xs=[]
 ·exact .inl h0
 exact h.blk λb off e hb=>⟨by have:=(hS.links w hw).size;omega,(hS.links w hw).block b aa (λhx=>hx.elim ((ho b off e).resolve_left h0 hb).1 ((ho b off e).resolve_left h0 hb).2.mem)⟩
theorem non(ns:List Nd)(hn:ns.length<=100000)(au:Int)(tC:di au)(b1 b2:Nat)(NT:Nat)(ta:Option Addr)(tc:Nat)(W:World)(bA:NT<=W.heap.size)(eX:ai fZ 2 NT W ta ns)(hb1:W.heap[b1]? =some (oC #[ab au] 3))(dz:W.heap[b2]? =some (oC #[.slice ta ns.length tc] 51)):uS prog 260 [ptr b1 0,ptr b2 0] Zm (C2 (lB ns au)) (Is (lB ns au)) (λ_=>False) (Zn b1 b2 ns ta) W:=by
 intro l M I X0 hM hI hX hy h0;have cN:¬(dF hM (λ_=>False) (hI [] _)).X b1:=by rintro(h|h);exact(hM _ h).2.2 (.inl rfl);exact h.elim
 have bY:¬(dF hM (λ_=>False) (hI [] _)).X b2:=by rintro(h|h);exact(hM _ h).2.2 (.inr (.inl rfl));exact h.elim
 have my:=(bB.1 hb1).1;have Jk:=(bB.1 dz).1;have mB:=n2p tC;refine nB (dF hM (λ_=>False) (hI [] _)) [] (vs:=[_,_,_]) func260 rfl ntmps260 rfl (Oi hM (hI [] _) h0 zI (by simp[lS]) zI) ?_;refine B 3 ?_;refine nH (enc:=aA) (m:=1) (t:=3) (xs:=ki au) (v:=λs=>.tuple #[s,ab 0]) (first:=[]) (cap:=[]) rfl call261 rfl rfl rfl nz (λW hS=>nbm au tC W) ?_;intro Wq aq ay wq Cn RM oy OU;have Zo:=Cn.sizes;replace Zo:=yb Zo;have c3:=RM.size;have Zp:=Cn.under;replace Zp:=yg Zp;refine B 15 ?_;refine CJ.loop (α:=Nat×aJ) (λp=>[(0,yv l),(1,ptr b1 0),(2,ptr b2 0),(17,.slice aq (ki au).length ay),(18,ab ((ki au).length:Int)),(19,ab (p.1:Int))]) (λp=>[]) (λp=>[wq,W]) (λp=>dF hM p.2 (hI (qJ ns au p.1) p.2)) (λp=>p.1<=9/\∀k,p.2 k->wq.heap.size<=k) (λp=>9-p.1) (0,λ_=>False) ⟨cO _,λ_ h=>h.elim⟩ zR rfl rfl zI ?_;rintro⟨i,V⟩ ⟨hi,hV⟩;dsimp only at hi hV ⊢;have c5:W.heap.size<=wq.heap.size:=by omega
 clear cN bY;have cN:¬(dF hM V (hI (qJ ns au i) V)).X b1:=by rintro(h|h);(exact(hM _ h).2.2 (.inl rfl));(have:=hV _ h;omega)
 have bY:¬(dF hM V (hI (qJ ns au i) V)).X b2:=by rintro(h|h);(exact(hM _ h).2.2 (.inr (.inl rfl)));(have:=hV _ h;omega)
 refine aG 6 ?_ ?_
 ·intro av;refine B 5 ?_;obtain⟨bq,oq,Rn,tq,Ro,rfl,pI,zg,qG⟩:=oy.get aa;obtain⟨J,Vp⟩:=ng (ki au) i aa;have bQ:=OU _ rfl;dsimp only at bQ;refine B 3 ?_;refine rv rfl rfl rfl (ar (v:=ab J) isAgg3 rfl A0 zg (λhx=>by rcases hx with hx|hx;(have:=(hM _ hx).1;omega);(have:=hV _ hx;omega)) trivial (by have:=nJ (enc:=λx=>(aA x).toArray) (n:=1) qG Vp rfl zz;simpa[aA]using this)) ?_;refine aF 6 (.agg #[.slice ta ns.length tc]) ?_;refine B 1 ?_;refine nH (enc:=aA) (m:=1) (t:=3) (xs:=pd ns J) (v:=λs=>.tuple #[s,ab (OO ns J)]) (first:=[]) (cap:=[]) rfl call262 rfl rfl rfl nz (λW2 hS=>n0g ns hn W2.heap.size ta tc W2 (aj _) (eX.toG hS A1 bA (λb off e=>by by_cases h0:ns=[];(exact .inl h0);exact .inr (λhb=>⟨λhx=>by rcases hx with hx|hx;(exact(hM _ hx).2.2 (.inr (.inr ⟨h0,off,e⟩)));(have:=hV _ hx;omega),trivial⟩))) J) ?_;intro Wr a8 OM wr V5 bz vc Cc;have Lc:=n3k ns J;have rU:=bz.size;have db:=(V5.links wq A0).size;have bu:∀j,V j->j<Wr.heap.size:=λj hj=>V5.xlt j (.inr hj);refine B 15 ?_;refine CJ.loop (α:=Nat×aJ) (λp=>[(0,yv l),(1,ptr b1 0),(2,ptr b2 0),(6,ab (i:Int)),(17,.slice (some ⟨bq,oq,none⟩) (ki au).length ay),(18,ab ((ki au).length:Int)),(19,ab (i:Int)),(30,.slice a8 (pd ns J).length OM),(31,ab ((pd ns J).length:Int)),(32,ab (p.1:Int))]) (λp=>[]) (λp=>[wr,wq,W]) (λp=>dF hM p.2 (hI (qJ ns au i++Jn ns i J p.1) p.2)) (λp=>p.1<=(pd ns J).length/\∀k,p.2 k->V k\/wr.heap.size<=k) (λp=>(pd ns J).length-p.1) (0,V) ⟨cO _,λ_ h=>.inl h⟩ zR rfl (by rw[Fs,ec]) zI ?_
  rintro⟨j,V1⟩ ⟨hj,uT⟩;dsimp only at hj uT ⊢;have Zq:∀k,V1 k->W.heap.size<=k:=λk hk=>by rcases uT k hk with h|h;(have:=hV k h;omega);omega
  refine aG 6 ?_ ?_
  ·intro aS;refine B 5 ?_;obtain⟨bn,on,dK,tn,OA,rfl,oe,a6,br⟩:=vc.get aa;obtain⟨n,al⟩:=ng (pd ns J) j aa;have bx:=Cc _ rfl;dsimp only at bx;refine B 2 ?_;refine rv rfl rfl rfl (ar (v:=ab n) isAgg3 rfl A0 a6 (λhx=>by rcases hx with hx|hx;(have:=(hM _ hx).1;omega);(rcases uT _ hx with h|h;(have:=bu _ h;omega);omega)) trivial (by have:=nJ (enc:=λx=>(aA x).toArray) (n:=1) br al rfl zz;simpa[aA]using this)) ?_;refine B 9 ?_;refine Y5 (λ_=>False) id Zr (V:=V1) (λV=>hI ((qJ ns au i++Jn ns i J j)++[((i:Int)+1,n)]) V) hX Zq rfl rfl rfl rfl (λW1 bw lM=>hy (qJ ns au i++Jn ns i J j) ((i:Int)+1,n) V1 W1 (by rw[iY,<-n0l al];exact Ld Vp aa (Lf ns i J (j+1))) bw lM) ?_ ?_
   ·intro V2 lO wY;have RN:=wY wr A0;refine B 11 ?_;refine PJ.again (j+1,V2) ⟨by dsimp only;omega,λk hk=>by rcases RN k hk with h|h;(exact uT k h);exact .inr h⟩ zS zR rfl (by rw[n0l al,<-iY];rfl) zI
   intro V2 lO wY;have RN:=wY wr A0;refine B 13 ?_;exact BX (.inl rfl) results260 A2 (λk hk=>by rcases RN k hk with h|h;(exact Zq k h);omega) (by intro k hk hx;simp at hx) (λA hA=>.inr hA)
  intro aS;refine B 10 ?_;refine PJ.again (i+1,V1) ⟨by dsimp only;omega,λk hk=>by rcases uT k hk with h|h;(exact hV k h);omega⟩ zS zR rfl (by rw[nPm ns au Vp,Le ns i J aa]) zI
 intro av;refine B 4 ?_;exact BX (.inr rfl) results260 A1 (λk hk=>by have:=hV k hk;omega) (by intro k hk hx;simp at hx) (λA hA=>.inl ⟨qJ ns au i,by unfold lB;rw[show i=9 by omega],hA⟩)
def tJ (p:Int×Int):List Value:=[ab p.2,ab p.1,ab 0,ak]
def RP (p:Int×Int):Array Value:=#[ab p.2,ab p.1,ab 0,ak]
theorem V6(p:Int×Int):(tJ p).length=4:=rfl
theorem Lg(p:Int×Int):∀u∈tJ p,u.oneCell'=true:=by intro u hu;simp[tJ]at hu;rcases hu with rfl|rfl|rfl|rfl<;>rfl
theorem Lh:prog.info? 110=some Tryz.t110:=by kernel_rfl
theorem Zs:jM prog 56 110 4:=⟨underlying56,Tryz.t110,.agg #[ab 0,ab 0,ab 0,ak],Lh,rfl,rfl,rfl,by decide⟩
noncomputable def xY (g:Gp) (au:Int) (l:List Ch):Bool:=jO l&&lX g au l
noncomputable def gG (g:Gp) (au:Int) (l:List Ch):List (Int×Int):=if ef g=true/\xY g au l=true then lB (aQ g.ns l) au else[]
noncomputable def fj (g:Gp) (au:Int) (l:List Ch):Int:=if ef g=true then(if xY g au l=true then 0 else 221)else 1
theorem Zt(h:jO l=true):(∀x∈l,di x.dev)/\l.length<=64:=⟨λx hx=>by obtain⟨i,hi⟩:=ju.1 hx;exact((OS.1 h).1 i x (nq hi) hi).1.2,(OS.1 h).2⟩
theorem nFj(ta:Option Addr)(n tc:Nat)(au:Int)(w:World):Calls prog 198 #[.agg #[.slice ta n tc],ab au] w (dc w (λq:Nat×Nat=>.func (.func 260) #[] #[ptr q.1 0,ptr q.2 0]) (λq w1=>w.heap.size<=q.1/\w.heap.size<=q.2/\w1.heap[q.1]? =some (oC #[ab au] 3)/\w1.heap[q.2]? =some (oC #[.slice ta n tc] 51))):=by
 refine eN func198 ntmps198 ?_;refine cK 2 ?_;intro b2 w2 dz bY ft J dH;refine yX ?_;intro b3 w3 dE da gi eO fw;refine B 10 ?_;refine sM (b3,b2) results198 rfl A2 rfl ?_;exact λW hS=>⟨by have:=eO.2.1;omega,by have:=J.1;omega,hS.old A0 dE da trivial,hS.old A1 dz bY trivial⟩
section
variable (G:Gv)(N:Nat)(w:World)(hN:N<=w.heap.size)(hG:cj N w G)(l:List Ch)(hxl:l.length<=1000000)(a:Option Addr)(cp:Nat)(aI:ai gM 5 N w a l)(au:Int)
include hN hG hxl cp aI
theorem nmj(hv:ef G.g=false):Calls prog 134 #[.agg (bJ G),ab au,.slice a l.length cp] w (aD w tJ 4 110 [] (λs=>.tuple #[s,ab 1])):=by
 refine eN func134 ntmps134 ?_;refine cK 2 ?_;intro b3 w3 dE da gi eO J;refine bM 1 ?_;intro b6 ky rh;refine aF 6 (.agg (bJ G)) ?_;refine zwe ?_;refine B 11 ?_;exact zMg
theorem nAn(hv:ef G.g=true)(hf:jO l=false):Calls prog 134 #[.agg (bJ G),ab au,.slice a l.length cp] w (aD w tJ 4 110 [] (λs=>.tuple #[s,ab 221])):=by
 refine eN func134 ntmps134 ?_;refine cK 2 ?_;intro b3 w3 dE da gi eO J;refine bM 1 ?_;intro b6 ky rh;refine Zu ?_;refine B 9 ?_;refine zfe ?_;refine rq cD (kq rfl) (by rw[hf];rfl) ?_;refine B 18 ?_;exact zMg
theorem ndi(hv:ef G.g=true)(hf:jO l=true)(hp:lX G.g au l=false):Calls prog 134 #[.agg (bJ G),ab au,.slice a l.length cp] w (aD w tJ 4 110 [] (λs=>.tuple #[s,ab 221])):=by
 refine eN func134 ntmps134 ?_;refine cK 2 ?_;intro b3 w3 dE da gi eO J;refine bM 1 ?_;intro b6 ky rh;refine zqf ?_;refine aF 1 (.agg (bJ G)) ?_;refine B 2 ?_;refine zSe ?_;refine rq cD (kq rfl) (by rw[hp];rfl) ?_;refine B 12 ?_;exact zMg
theorem n0p(tC:di au)(hv:ef G.g=true)(hf:jO l=true)(hp:lX G.g au l=true):Calls prog 134 #[.agg (bJ G),ab au,.slice a l.length cp] w (aD w tJ 4 110 (lB (aQ G.g.ns l) au) (λs=>.tuple #[s,ab 0])):=by
 obtain⟨lA,yS⟩:=Zt hf;have Vx:=hG.nn;have Lc:=OT l G.g.ns;obtain⟨T,hT⟩:∃T,aQ G.g.ns l=T:=⟨_,rfl⟩;rw[hT]at Lc ⊢;have wZ:=Fq T au;refine Qq Gh.no [] (vs:=[_,_,_]) func134 rfl ntmps134 rfl (JW w) ?_;refine cK 2 ?_;intro b3 w3 dE da gi eO fw;refine bM 1 ?_;intro b6 ky rh;refine zqf ?_;refine aF 1 (.agg (bJ G)) ?_;refine B 2 ?_;refine zSe ?_;refine rq bH (kq rfl) (by rw[hp];rfl) ?_;refine aF 9 (.agg (bJ G)) ?_;refine B 1 ?_;refine ny (α:=Option Addr×Nat) (v:=λq=>.agg #[.slice q.1 T.length q.2]) (Φ:=λW q w1=>ai fZ 2 w1.heap.size w1 q.1 T/\∀b off,q.1=some ⟨b,off,none⟩->T=[]\/b<N\/W.heap.size<=b) call140 rfl rfl rfl (λW hS=>by rw[<-hT];exact nAc G N W cR (hG.up (aj _) hS.sm) l hxl a cp (aI.up (aj _) hS.sm) yS lA) ?_;rintro Wr ⟨ta,tc⟩ wr V5 aE ⟨sS,iF⟩;dsimp only at sS iF ⊢;have al:=V5.under;replace al:=yg al;have rU:=aE.size;have cz:=(V5.links w A1).size;refine B 1 ?_;refine ny (α:=Nat×Nat) (v:=λq:Nat×Nat=>.func (.func 260) #[] #[ptr q.1 0,ptr q.2 0]) (Φ:=λW q w1=>W.heap.size<=q.1/\W.heap.size<=q.2/\w1.heap[q.1]? =some (oC #[ab au] 3)/\w1.heap[q.2]? =some (oC #[.slice ta T.length tc] 51)) call198 rfl rfl rfl (λW hS=>nFj ta _ tc au W) ?_;rintro Wn q wn tK AX ⟨hq1,uz,Fg,Fh⟩;try dsimp only at hq1 uz Fg Fh
 have Ry:=(bB.1 Fg).1;have Rz:=(bB.1 Fh).1;have V7:=AX.size;have bL:=(tK.links wr A0).size;have uB:=tK.under;replace uB:=yg uB;have J:∀b off,ta=some ⟨b,off,none⟩->T=[]\/b≠b6:=λb off e=>by rcases iF b off e with h|h|h;(exact .inl h);(exact .inr aa);(exact .inr aa)
 refine B 3 ?_;refine XI (f:=260) (cap:=[ptr q.1 0,ptr q.2 0]) (α:=Int×Int) (enc:=Zm) (Pre:=C2 (lB T au)) (Fin:=Is (lB T au)) (RO:=Zn q.1 q.2 T ta) (MI:=λ_=>False) rfl call260 (λW' W2 hS hB=>by have my:=(hS.links wn A0).size;have Jk:=(hS.links wr A1).size;exact non T aa au tC q.1 q.2 W'.heap.size ta tc W2 hB.size ((sS.toG hS A1 (aj _) (λb off e=>(J b off e).imp id (λh _=>⟨λhx=>hx,by simp only[bN,and_true];omega⟩))).up (aj _) (λk hk=>hB.block k hk)) (by rw[hB.block q.1 aa];exact hS.old A0 Fg zH zy) (by rw[hB.block q.2 aa];exact hS.old A0 Fh zH zy)) (λ_ _ _ hk=>hk.elim) (λW' hS k hk=>by have my:=(hS.links wn A0).size;have Jk:=(hS.links wr A1).size;simp only[dP,fu,cd,dZ,or_false];rcases hk with rfl|rfl|⟨h0,off,e⟩;(exact⟨by omega,by omega,λh=>h⟩);(exact⟨by omega,by omega,λh=>h⟩);exact⟨by have:=(sS.lt e).resolve_left h0;omega,(J _ off e).resolve_left h0,λh=>h⟩) (λ_=>rfl) (λpre G' Hc=>G'=Gh.no/\∃r:Rw,r.Fr Gh.no [wn,wr,w3,w]/\r.Fit 4 pre/\Hc=[(b6,oC #[r.val pre.length] 56)]++(r.hp tJ 110 pre++[])) (λ_ _ _=>False) ⟨rfl,.nil,True.intro,rfl,rfl⟩ zz ?_ ?_ ?_
 ·rintro pre x G' Hc l Dk rec W1 M V Wy qd xN eM ⟨rfl,r,aK,ae,rfl⟩ jh mw Qs yG dO DZ;simp only[ah]at jh yG;have bK:r.ge wn.heap.size:=Rw.ge_of aK A0;have gq:=eM.length_le;simp only[cB,dI,fJ]at gq;have EM:∀p∈r.hp tJ 110 pre,M p.1\/V p.1:=λp hp=>dO.loc.h p VF;refine B 8 ?_;refine Om qd ?_;refine aF 5 (.agg #[ab x.2,ab x.1,ab 0,ak]) ?_;refine kp underlying56 sizeOf110 zeroValue110 rfl rfl rfl rfl rfl rfl rfl ?_;refine yW ?_;intro fK jQ b0;refine jV (r:=r) (xs:=pre) (zs:=[x]) (enc:=tJ) (m:=4) (H0:=[(fK,oC #[ab x.2,ab x.1,ab 0,ak] 110),(b6,oC #[r.val pre.length] 56)]) (H1:=(l,.loop {rec with state:=.busy})::jj Dk) zW Zs V6 rfl rfl rfl rfl (ck.one (z:=x) V6 Lg underlying56 (bF.own (i:=0) rfl)) ae (Rw.Fr_ext EM) zI za ?_;intro oB iz iZ lZ iJ;replace lZ:=yb lZ;refine B 3 ?_;refine qD ?_;refine JY (G2:=Gh.no) (Hc2:=[(b6,oC #[(Rw.row oB iz iZ).val (pre++[x]).length] 56)]++((Rw.row oB iz iZ).hp tJ 110 (pre++[x])++[])) dO mw ⟨λ_ h=>h,λ_ h=>.inl h,λ_ h=>.inl h,(VG rfl (lZ.imp id (λh=>h.1))),zSc⟩ (JZ qd xN) ?_;exact⟨rfl,.row oB iz iZ,lZ.elim (λh=>Rw.Fr_at aK h) (λh=>.inr h.2),iJ,rfl⟩
 ·rintro qz l Dk rec G' Hc rfl jh mw ⟨rfl,r,aK,ae,rfl⟩;replace jh:=yb jh;have bK:r.ge wn.heap.size:=Rw.ge_of aK A0;refine Q3 λWd yF=>?_;have oe:=VH yF;refine B 5 ?_;refine jN (i:=0) rfl sizeOf56 rfl rfl rfl (Rw.val_size _ _) rfl (Rw.val_one _ _) ?_;refine B 4 ?_;have hq:=λ(k:Nat)=>Rw.mem_ge (enc:=tJ) (t:=110) (xs:=lB T au) (k:=k) bK;refine PJ.reH (H':=(b6,oC #[r.val (lB T au).length] 56)::(r.hp tJ 110 (lB T au)++(l,.loop rec)::jj Dk)) VI ?_;refine EN (b:=b6) (r:=r) (xs:=lB T au) (.inl rfl) results134 isAgg56 rfl rfl zI A0 (oe _ A0).1 rfl ae (λp hp=>⟨.tail _ (aY.2 (.inl hp)),(oe p (aY.2 (.inr (aY.2 (.inl hp))))).1⟩) (Rw.ge_of aK A3) (λW H' hS aX=>(hS.links w A3).below λk hk hx=>?_);exact YA
 exact Qt
theorem nCb(tC:di au):Calls prog 134 #[.agg (bJ G),ab au,.slice a l.length cp] w (aD w tJ 4 110 (gG G.g au l) (λs=>.tuple #[s,ab (fj G.g au l)])):=by
 cases hv:ef G.g with
 |false=>rw[show gG G.g au l=[] by simp[gG,hv],show fj G.g au l=1 by simp[fj,hv]];exact nmj G N w hN hG l hxl a cp aI au hv
 |true=>cases hf:jO l with
  |false=>rw[show gG G.g au l=[] by simp[gG,xY,hf],show fj G.g au l=221 by simp[fj,xY,hv,hf]];exact nAn G N w hN hG l hxl a cp aI au hv hf
  |true=>cases hp:lX G.g au l with
   |false=>rw[show gG G.g au l=[] by simp[gG,xY,hp],show fj G.g au l=221 by simp[fj,xY,hv,hp]];exact ndi G N w hN hG l hxl a cp aI au hv hf hp
   |true=>rw[show gG G.g au l=lB (aQ G.g.ns l) au by simp[gG,xY,hv,hf,hp],show fj G.g au l=0 by simp[fj,xY,hv,hf,hp]];exact n0p G N w hN hG l hxl a cp aI au tC hv hf hp
end
structure Dw where
 u:Int
 ba:Option Addr
 bc:Nat
 body:List UInt8
def wrA (x:Dw):Array Value:=#[ab x.u,.slice x.ba x.body.length x.bc]
structure Bx where
 node:Int
 level:Int
 w:Dw
def tM (x:Bx):Array Value:=#[ab x.node,ab x.level,ab x.w.u,.slice x.w.ba x.w.body.length x.w.bc]
structure We where
 dev:Int
 w:Dw
def vg (x:We):Array Value:=#[ab x.dev,ab x.w.u,.slice x.w.ba x.w.body.length x.w.bc]
structure Cm where
 folder:Int
 epoch:Int
 par:Nat->Int
 author:Int
 chs:List Ch
 ca:Option Addr
 cc:Nat
 path:List Int
 pa:Option Addr
 pc:Nat
 bxs:List Bx
 ba:Option Addr
 bc:Nat
 wes:List We
 wa:Option Addr
 wc:Nat
 conf:Nat->Int
 sr:Int
 ss:Int
def cP (c:Cm):Array Value:=(ab c.folder::ab c.epoch::lN c.par (ab c.author:: .slice c.ca c.chs.length c.cc:: .slice c.pa c.path.length c.pc:: .slice c.ba c.bxs.length c.bc:: .slice c.wa c.wes.length c.wc::lN c.conf [ab c.sr,ab c.ss])).toArray
def vh (N:Nat) (w:World) (x:Dw):Prop:=x.body=[]\/∃b off,x.ba=some ⟨b,off,none⟩/\b<N/\cC w b off x.body
theorem vh.up{J:Nat}{w':World}{x:Dw}(h:vh N w x)(hN:N<=J)(hw:∀k,k<N->w'.heap[k]? =w.heap[k]?):vh J w' x:=by
 exact z1h
structure dC (N:Nat) (w:World) (c:Cm):Prop where
 chs:ai gM 5 N w c.ca c.chs
 path:ai encI 1 N w c.pa c.path
 bxs:ai tM 4 N w c.ba c.bxs
 wes:ai vg 3 N w c.wa c.wes
 bb:∀x∈c.bxs,vh N w x.w
 wb:∀x∈c.wes,vh N w x.w
structure qg (c:Cm):Prop where
 bp:ey c.par
 bf:ey c.conf
 chs:c.chs.length<=10
 path:c.path.length<=12
 bxs:c.bxs.length<=40
 wes:c.wes.length<=10
 bb:∀x∈c.bxs,x.w.body.length<=200
 wb:∀x∈c.wes,x.w.body.length<=200
variable {c:Cm}
theorem dC.up{J:Nat}{w':World}(h:dC N w c)(hN:N<=J)(hw:∀k,k<N->w'.heap[k]? =w.heap[k]?):dC J w' c:=⟨h.chs.up hN hw,h.path.up hN hw,h.bxs.up hN hw,h.wes.up hN hw,λx hx=>(h.bb x hx).up hN hw,λx hx=>(h.wb x hx).up hN hw⟩
def Co (x:Dw):Prop:=eo x.u/\16<=x.body.length/\x.body.length<=65552
open Classical in
noncomputable def zq (x:Dw):Int:=if Co x then 0 else 90
theorem nw{x:Dw}:zq x=0↔Co x:=by unfold zq;split<;>simp_all
theorem Zv{x:Dw}(h:¬Co x):ab 90=ab (zq x):=by unfold zq;rw[if_neg h]
theorem nrj{x:Dw}(h:Co x):ab 0=ab (zq x):=by unfold zq;rw[if_pos h]
def qh {α:Type} (p:Nat->α->Prop) (xs:List α) (j:Nat):Prop:=∀i x,i<j->xs[i]? =some x->p i x
theorem qh.next{α:Type}{p:Nat->α->Prop}{xs:List α}{x:α}(h:qh p xs j)(hx:xs[j]? =some x)(hp:p j x):qh p xs (j+1):=by
 exact zfi
theorem qh.all{α:Type}{p:Nat->α->Prop}{xs:List α}(h:qh p xs j)(hj:¬j<xs.length):∀i x,xs[i]? =some x->p i x:=λi x hx=>h i x VM hx
def Zw (x:Bx):Prop:=(1<=x.node/\x.node<1024/\1<=x.level/\x.level<=9)/\Co x.w
def Zx (l:List We) (i:Nat) (x:We):Prop:=di x.dev/\(∀y,0<i->l[i-1]? =some y->y.dev<x.dev)/\Co x.w
structure CkP (c:Cm):Prop where
 fo:qI c.folder
 e1:1<=c.epoch
 e2:c.epoch<=1099511627776
 au:di c.author
 ch:jO c.chs=true
 pl:c.path.length=10
 bl:c.bxs.length<=1024
 wl:c.wes.length<=512
 path:∀(i:Nat) x,c.path[i]? =some x->eo x
 box:∀(i:Nat) x,c.bxs[i]? =some x->Zw x
 wel:∀i x,c.wes[i]? =some x->Zx c.wes i x
open Classical in
noncomputable def sT (c:Cm):Int:=if CkP c then 0 else 220
theorem OV:sT c=0↔CkP c:=by unfold sT;split<;>simp_all
theorem Lj(c:Cm):sT c=0\/sT c=220:=by unfold sT;split<;>simp
theorem nb(h:¬CkP c):ab 220=ab (sT c):=by unfold sT;rw[if_neg h]
theorem nrb(h:CkP c):ab 0=ab (sT c):=by unfold sT;rw[if_pos h]
theorem nEe(x:Dw)(w:World):Calls prog 71 #[.agg (wrA x)] w (aU w (ab (zq x))):=by
 obtain⟨e,he⟩:∃e,(if eo x.u then(0:Int)else 40)=e:=⟨_,rfl⟩;have Jl:=Y8 x.u;rw[he]at Jl;refine eN func71 ntmps71 ?_;refine cK 2 ?_;intro b1 w1 hb1 cN J gb jJ;refine B 16 ?_;refine zVd ?_;refine B 2 ?_;refine ni (t:=11) rfl (λav=>?_) (λav=>?_)
 ·replace av:=ya av;refine B 17 ?_;exact zzg
 replace av:=ya av;refine B 4 ?_;refine ni (t:=15) rfl (λaS=>?_) (λaS=>?_)
 ·replace aS:=ya aS;refine B 13 ?_;exact zzg
 replace aS:=ya aS;refine aG 5 ?_ ?_
 ·intro dh;refine B 7 ?_;exact zzg
 intro dh;refine B 8 ?_;exact zzg
theorem nwb(c:Cm)(qj:qg c)(N:Nat)(w:World)(hN:N<=w.heap.size)(hC:dC N w c):Calls prog 149 #[.agg (cP c)] w (aU w (ab (sT c))):=by
 have AT:=qj.chs;have yZ:=qj.path;have QL:=qj.bxs;have V8:=qj.wes;have zt:=hC.chs;have pH:=hC.path;have RQ:=hC.bxs;have Lk:=hC.wes;refine eN func149 ntmps149 ?_;refine cK 2 ?_;intro b1 w1 hb1 cN gV gb jJ;refine B 8 ?_;refine call call217 rfl rfl rfl (λW hS=>nPl _ W) ?_;refine B 2 ?_;refine ni (t:=13) rfl (λav=>?_) (λav=>?_)
 ·replace av:=ya av;refine B 49 ?_;exact Jo
 replace av:=ya av;refine B 5 ?_;refine ni (t:=18) rfl (λaS=>?_) (λaS=>?_)
 ·replace aS:=ya aS;refine B 44 ?_;exact Jo
 replace aS:=ya aS;refine B 5 ?_;refine ni (t:=23) rfl (λdh=>?_) (λdh=>?_)
 ·replace dh:=ya dh;refine B 39 ?_;exact Jo
 replace dh:=ya dh;refine B 2 ?_;refine call call222 rfl rfl rfl (λW hS=>VQ _ W) ?_;refine B 3 ?_;refine ni (t:=29) rfl (λiR=>?_) (λiR=>?_)
 ·replace iR:=ya iR;refine B 33 ?_;exact Jo
 replace iR:=ya iR;refine B 2 ?_;refine call call196 rfl rfl rfl (λW hS=>nSc c.chs aa N c.ca c.cc W cR (hC.chs.up (aj _) hS.sm)) ?_;refine B 3 ?_;refine ni (t:=35) rfl (λgU=>?_) (λgU=>?_)
 ·replace gU:=ya gU;refine B 27 ?_;exact Jo
 replace gU:=ya gU;refine B 6 ?_;refine ni (t:=41) rfl (λkY=>?_) (λkY=>?_)
 ·replace kY:=ya kY;refine B 21 ?_;exact Jo
 replace kY:=ya kY;refine B 6 ?_;refine ni (t:=47) rfl (λjU=>?_) (λjU=>?_)
 ·replace jU:=ya jU;refine B 15 ?_;exact Jo
 replace jU:=ya jU;refine aG 7 ?_ ?_
 ·intro DV;refine B 7 ?_;exact Jo
 intro DV;refine B 12 ?_;refine CJ.lp (α:=Nat) [1,55] (λj=>[(54,.slice c.pa c.path.length c.pc),(56,ab (j:Int))]) (λj=>[]) (λj=>j<=c.path.length/\qh (λ_ x=>eo x) c.path j) (λj=>c.path.length-j) 0 ⟨cO _,λi x hi=>absurd hi aa⟩ ?_;rintro j ⟨hj,dR⟩;refine aG 6 ?_ ?_
 ·intro pw;refine B 5 ?_;obtain⟨bo,oo,az,to,fg,ez,fh,bX,aR⟩:=pH.get aa;obtain⟨y,hy⟩:=ng c.path j aa;rw[ez];obtain⟨e,he⟩:∃e,(if eo y then(0:Int)else 40)=e:=⟨_,rfl⟩;have Jl:=Y8 y;rw[he]at Jl;refine B 2 ?_;refine rv rfl rfl rfl (ar (v:=ab y) isAgg3 rfl A1 bX zH trivial (by have:=nJ aR hy rfl zz;simpa[encI]using this)) ?_;refine B 6 ?_;refine zVd ?_;refine aG 3 ?_ ?_
  ·intro rC;refine B 11 ?_;exact Jo
  intro rC;refine B 7 ?_;refine ag (j+1) ⟨by omega,dR.next hy (Jl.1 aa)⟩
 intro pw;refine B 15 ?_;have hA1:=dR.all aa;refine CJ.lp (α:=Nat) [1,66] (λj=>[(65,.slice c.ba c.bxs.length c.bc),(67,ab (j:Int))]) (λj=>[]) (λj=>j<=c.bxs.length/\qh (λ_ x=>Zw x) c.bxs j) (λj=>c.bxs.length-j) 0 ⟨cO _,λi x hi=>absurd hi aa⟩ ?_;rintro j ⟨hj,dR⟩;refine aG 6 ?_ ?_
 ·intro mD;refine B 5 ?_;obtain⟨bo,oo,az,to,fg,ez,fh,bX,aR⟩:=RQ.get aa;obtain⟨x,hx⟩:=ng c.bxs j aa;rw[ez];refine aF 2 (.agg (tM x)) ?_;refine bM 1 ?_;intro b6 ky rh;refine B 9 ?_;refine ni (t:=74) rfl (λkg=>?_) (λkg=>?_)
  ·replace kg:=ya kg;refine B 34 ?_;exact RR
  replace kg:=ya kg;refine B 5 ?_;refine ni (t:=79) rfl (λmE=>?_) (λmE=>?_)
  ·replace mE:=ya mE;refine B 29 ?_;exact RR
  replace mE:=ya mE;refine B 5 ?_;refine ni (t:=84) rfl (λuR=>?_) (λuR=>?_)
  ·replace uR:=ya uR;refine B 24 ?_;exact RR
  replace uR:=ya uR;refine B 5 ?_;refine ni (t:=89) rfl (λJ=>?_) (λJ=>?_)
  ·replace J:=ya J;refine B 19 ?_;exact RR
  replace J:=ya J;refine aF 1 (.agg (wrA x.w)) ?_;refine call call71 rfl rfl rfl (λW hS=>nEe x.w W) ?_;refine aG 4 ?_ ?_
  ·intro DW;exact zxi
  intro DW;refine xW ?_;refine ag (j+1) ⟨by omega,dR.next hx ⟨by omega,nw.1 aa⟩⟩
 intro mD;refine B 15 ?_;have Zy:=dR.all aa;refine CJ.lp (α:=Nat) [1,98] (λj=>[(97,.slice c.wa c.wes.length c.wc),(99,ab (j:Int))]) (λj=>[]) (λj=>j<=c.wes.length/\qh (Zx c.wes) c.wes j) (λj=>c.wes.length-j) 0 ⟨cO _,λi x hi=>absurd hi aa⟩ ?_;rintro j ⟨hj,dR⟩;refine aG 6 ?_ ?_
 ·intro RT;refine B 5 ?_;obtain⟨bo,oo,az,to,fg,ez,fh,bX,aR⟩:=Lk.get aa;obtain⟨x,hx⟩:=ng c.wes j aa;rw[ez];refine aF 3 (.agg (vg x)) ?_;refine bM 1 ?_;intro b8 C4 Jb;refine B 5 ?_;by_cases h1:¬di x.dev
  ·refine eA 17 (pb:=by exact zU 2 (k:=by exact aM (nf call222 rfl rfl (λW hS _=>by have h9:=VQ x.dev W;rw[decide_eq_false h1]at h9;exact h9) (λ_=>rfl)) zT)) (sp:=(_::_::(some (bH))::(some cD)::_)) (k:=?_);refine B 23 ?_;exact RR
  by_cases h2:j=0
  ·refine eA 17 (pb:=by exact zU 2 (k:=by exact aM (nf call222 rfl rfl (λW hS _=>by have h9:=VQ x.dev W;rw[decide_eq_true (Classical.not_not.1 h1)]at h9;exact h9) (λ_=>rfl)) zT)) (sp:=(_::_::(some (cD))::(some bH)::_::_::(some bH)::_)) (k:=?_);refine B 5 ?_;refine zYe ?_;refine aG 4 ?_ ?_
   ·intro RU;exact zxi
   intro RU;exact z5g
  obtain⟨y,hy⟩:=ng c.wes (j-1) aa;by_cases h3:x.dev<=y.dev
  ·refine eA 17 (pb:=by exact zU 2 (k:=by exact aM (nf call222 rfl rfl (λW hS _=>by have h9:=VQ x.dev W;rw[decide_eq_true (Classical.not_not.1 h1)]at h9;exact h9) (λ_=>rfl)) (zU 6 (k:=by exact aM (X.v (RV.re (v':=.slice (some ⟨bo,oo,none⟩) c.wes.length c.wc) (ar isAgg57 rfl A0 hb1 cN zy rfl) (congrArg (λq=>Value.slice q c.wes.length c.wc) ez))) (zU 4 (k:=by exact aM (X.v (ar (v:=ab y.dev) isAgg3 rfl A1 bX zH zy (by have:=uA (i:=(j:Int)-1) aR hy aa 0 zz;simpa[vg]using this))) zT)))))) (sp:=(_::_::(some (cD))::(some bH)::_::_::(some cD)::_)) (k:=?_);refine du cD ?_;refine B 22 ?_;exact RR
  refine eA 17 (pb:=by exact zU 2 (k:=by exact aM (nf call222 rfl rfl (λW hS _=>by have h9:=VQ x.dev W;rw[decide_eq_true (Classical.not_not.1 h1)]at h9;exact h9) (λ_=>rfl)) (zU 6 (k:=by exact aM (X.v (RV.re (v':=.slice (some ⟨bo,oo,none⟩) c.wes.length c.wc) (ar isAgg57 rfl A0 hb1 cN zy rfl) (congrArg (λq=>Value.slice q c.wes.length c.wc) ez))) (zU 4 (k:=by exact aM (X.v (ar (v:=ab y.dev) isAgg3 rfl A1 bX zH zy (by have:=uA (i:=(j:Int)-1) aR hy aa 0 zz;simpa[vg]using this))) zT)))))) (sp:=(_::_::(some (cD))::(some bH)::_::_::(some cD)::_)) (k:=?_);refine du bH ?_;refine B 4 ?_;refine zYe ?_;refine aG 4 ?_ ?_
  ·intro zu;exact zxi
  intro zu;exact z5g
 intro RT;refine B 11 ?_;exact Jo
abbrev qK (l:List UInt8):ByteArray:=strOfNums (l.map λu=>(u.toNat:Int))
theorem Ft(l:List UInt8):(qK l).size=l.length:=by rw[strOfNums_size,eK]
def gH (N:Nat) (w:World) (a:Option Addr) (l:List UInt8):Prop:=l=[]\/∃b off,a=some ⟨b,off,none⟩/\b<N/\cC w b off l
theorem nwf{P:Program}(w:World)(src e:Nat)(J:P.underlying src=some (.slice e))(he:P.underlying e=some (.int .u8))(a:Option Addr)(cap:Nat)(dst:Nat)(hd:P.underlying dst=some .string):(convert src dst (.slice a 0 cap)).run P w= .ok (.string (strOfNums [])) w:=by
 cases a with
 |none=>
  have hr:=run_convert_bytes_nil (P:=P) w src e J he 0 cap dst hd;rw[hr];rfl
 |some a=>
  have hl:(loadCells a 0).run P w= .ok (([]:List Int).map (Value.int .u8)).toArray w:=by simp[loadCells,loadCellsFrom]
  rw[run_convert_bytes_string w src dst e _ 0 cap J he hd,run_bytesToString w _ 0 cap [] hl,foldl_push_bytes];simp[strOfNums,ByteArray.empty,ByteArray.emptyWithCapacity];rfl
theorem RW{C:Cx}{G:Gh}{E:Env}{x:Operand}{src dst e c:Nat}{l:List UInt8}{w1:World}(J:C.P.underlying src=some (.slice e))(he:C.P.underlying e=some (.int .u8))(hd:C.P.underlying dst=some .string)(hx:ev E x=some (.slice a l.length c))(hm:w1∈L)(hb:gH N w1 a l)(hG:∀b,b<N->¬G.X b/\bN H b):RV C G L H E (.convert src dst x) (.string (qK l)):=λd ty pos aE g ac W hF hS=>by
 rcases hb with h1|⟨b,off,h1,h2,cs,t,fr,h3,h4,h5⟩
 ·subst h1;have hr:=nwf (P:=C.P) W src e J he a c dst hd;simp only[fJ]at hx;simp[execOp,hF.ev hx,hr];rfl
 subst h1;have hW:=hS.old hm h3 (hG b h2).1 (hG b h2).2;have hr:=run_convert_bytes_arg (P:=C.P) W src e J he b off l.length c (l.map λu=>(u.toNat:Int)) zI (λi hi=>by
  rw[Ll hW,h5 i hi];simp[fU,List.getD,hi]) dst hd
 simp[execOp,hF.ev hx,hr]
theorem nHb(n:Int)(w:World):Calls prog 89 #[ab n] w (aU w (vI n)):=by
 refine eN func89 ntmps89 ?_;refine bM 3 ?_;intro b2 J dH;refine B 10 ?_;refine cA (.inl rfl) results89 bD A0 zA ?_;rfl
theorem Zz(l:List UInt8)(N:Nat)(a:Option Addr)(c:Nat)(w:World)(hN:N<=w.heap.size)(hb:gH N w a l):Calls prog 90 #[.slice a l.length c] w (aU w (vT (qK l))):=by
 refine eN func90 ntmps90 ?_;refine bM 3 ?_;intro b2 J dH;refine B 5 ?_;refine zqe ?_;refine B 5 ?_;refine cA (.inl rfl) results90 bD A0 zA ?_;rfl
theorem ZA(base:Option Addr)(n c:Nat)(w:World):Calls prog 86 #[.slice base n c] w (aU w (vL base n c)):=by
 refine eN func86 ntmps86 ?_;refine bM 3 ?_;intro b2 J dH;refine B 10 ?_;refine cA (.inl rfl) results86 bD A0 zA ?_;rfl
def vj (n:Int):List Value:=[ab 1,ab n,Vs,ak]
theorem ngo(n:Int):(vj n).length=4:=rfl
theorem Lm(n:Int):∀u∈vj n,u.oneCell'=true:=by intro u hu;simp[vj]at hu;rcases hu with rfl|rfl|rfl|rfl<;>rfl
theorem RX:prog.info? 200=some Tryz.t200:=by kernel_rfl
theorem ZB:jM prog 134 200 4:=⟨underlying134,Tryz.t200,.agg #[ab 0,ab 0,Vs,ak],RX,rfl,rfl,rfl,by decide⟩
theorem nRi(xs:List Int)(hxl:xs.length<=1000)(N:Nat)(a:Option Addr)(cp:Nat)(w:World)(hN:N<=w.heap.size)(aI:ai encI 1 N w a xs):Calls prog 88 #[.slice a xs.length cp] w (aD w vj 4 200 xs id):=by
 refine ei 19 func88 ntmps88 ?_;refine CJ.loop (α:=Rw×Nat) (λp=>[(3,p.1.val (xs.take p.2).length),(6,.slice a xs.length cp),(7,ab (xs.length:Int)),(8,ab (p.2:Int))]) (λp=>p.1.hp vj 200 (xs.take p.2)++[]) (λp=>[w]) (λp=>Gh.no) (λp=>p.2<=xs.length/\p.1.Fr Gh.no [w]/\p.1.Fit 4 (xs.take p.2)) (λp=>xs.length-p.2) (.nil,0) ⟨cO _,True.intro,rfl⟩ zR rfl rfl zI ?_;rintro⟨r,j⟩ ⟨hj,aK,ae⟩;dsimp only at hj aK ae ⊢;have bK:r.ge w.heap.size:=Rw.ge_of aK A0;refine aG 6 ?_ ?_
 ·intro av;refine B 5 ?_;obtain⟨bo,oo,an,to,fg,rfl,fh,bX,aR⟩:=aI.get aa;obtain⟨x,hx⟩:=ng xs j aa;refine B 2 ?_;refine rv rfl rfl rfl (ar (v:=ab x) isAgg3 rfl A0 bX zH zy (by have:=nJ aR hx rfl zz;simpa[encI]using this)) ?_;refine B 6 ?_;refine call call89 rfl rfl rfl (λW hS=>nHb _ W) ?_;refine ZC ?_;refine yW ?_;intro dU Fu Ln;refine jV (r:=r) (xs:=(xs.take j)) (zs:=[x]) (enc:=vj) (m:=4) (H0:=[(dU,oC #[ab 1,ab x,Vs,ak] 200)]) (H1:=[]) zW ZB ngo rfl rfl rfl rfl (ck.one (z:=x) ngo Lm underlying134 (bF.own (i:=0) rfl)) ae aK zI (by simp only[kU,dI,fJ];omega) ?_;intro V9 RY RZ J zx;replace J:=yb J;refine B 8 ?_;refine qD ?_;refine PJ.again (Rw.row V9 RY RZ,j+1) ⟨by dsimp only;omega,J.elim (λh=>Rw.Fr_at aK h) (λh=>.inr h),by rw[np hx];exact zx⟩ zS ⟨by rw[np hx];rfl,rfl,rfl,rfl,trivial⟩ (by rw[np hx];rfl) rfl zI
 intro av;refine B 6 ?_;have cH:xs.take j=xs:=iC aa;rw[cH]at ae ⊢;refine B 6 ?_;exact nQ (H0:=[]) (H1:=[]) (r:=r) (.inl rfl) results88 bD A0 YB rfl ae (Rw.ge_of aK A0) zI
abbrev El:=Nat×Nat
def jW (n:Nat) (e:El):List Value:=[ab 3,ab 0,Vs,.slice (ao e.1) n e.2]
theorem OW(n:Nat)(e:El):(jW n e).length=4:=rfl
theorem nth(n:Nat)(e:El):∀u∈jW n e,u.oneCell'=true:=by intro u hu;simp[jW]at hu;rcases hu with rfl|rfl|rfl|rfl<;>rfl
def ja (F:ad) (n:Nat) (es:List El) (ls:List (List V)):Prop:=es.length=ls.length/\∀(i:Nat) (e:El) (l:List V),es[i]? =some e->ls[i]? =some l->l.length=n/\l.all v7=true/\n<=e.2/\∃sp t fr,(e.1,Obj.cells (nM l++sp).toArray t fr)∈F
theorem ja.nil{F:ad}:ja F n [] []:=⟨rfl,λi e l h=>by simp at h⟩
variable {es:List El}
theorem ja.up{F F':ad}(h:ja F n es ls)(hF:∀p∈F,p∈F'):ja F' n es ls:=⟨h.1,λi e l h1 h2=>by
 obtain⟨g1,g2,g3,sp,t,fr,g4⟩:=h.2 i e l h1 h2;exact⟨g1,g2,g3,sp,t,fr,hF _ g4⟩⟩
theorem nfm{α:Type}{xs:List α}{y z:α}(h:(xs++[y])[i]? =some z):xs[i]? =some z\/(i=xs.length/\z=y):=by grind
theorem ja.snoc{F F':ad}{c:Nat}{l:List V}(h:ja F n es ls)(hF:∀p∈F,p∈F')(hl:l.length=n)(hf:l.all v7=true)(hc:n<=c)(hp:(b,Obj.cells (nM l++sp).toArray t fr)∈F'):ja F' n (es++[(b,c)]) (ls++[l]):=by
 refine⟨by simp[h.1],λi e J h1 h2=>?_⟩;have e1:=h.1;rcases nfm h1 with h1|⟨rfl,rfl⟩
 ·rcases nfm h2 with h2|⟨rfl,rfl⟩
  ·exact(h.up hF).2 i e J h1 h2
  have:=nq h1;omega
 all_goals grind
theorem nso{N:Nat}{w:World}:∀(l:List V) (ys:List (List Value)) (pre J:List Value),l.length=ys.length->(∀(i:Nat) (x:V) (y:List Value),l[i]? =some x->ys[i]? =some y->y.length=4/\fy N w x (.agg y.toArray))->gX N w (pre++(ys.flatten++J)).toArray pre.length l
 | [],_,pre,J,_,_=>by simp[gX]
 |x::l,[],pre,J,hl,_=>by simp at hl
 |x::l,y::ys,pre,J,hl,h=>by
  obtain⟨h1,h2⟩:=h 0 x y rfl rfl;have ih:=nso (N:=N) (w:=w) l ys (pre++y) J K9 (λi x' y' hx hy=>h (i+1) x' y' (by simpa using hx) (by simpa using hy));have e:pre++y++(ys.flatten++J)=pre++((y::ys).flatten++J):=by simp
  rw[e]at ih;simp only[gX];have hc:cut (pre++((y::ys).flatten++J)).toArray pre.length 4=y.toArray:=by
   unfold cut;simp only[List.flatten_cons,iY];rw[List.drop_left,<-h1,List.take_left]
  refine⟨?_,by rw[hc];exact h2,?_⟩
  ·simp only[rf,cB,List.flatten_cons];omega
  rw[cB,h1]at ih;exact ih
theorem nRm{α:Type}{enc:α->List Value}{xs:List α}{l:List V}{r:Rw}(hl:l.length=xs.length)(he:∀(i:Nat) (x:α) (y:V),xs[i]? =some x->l[i]? =some y->(enc x).length=4/\fy N w y (.agg (enc x).toArray))(hr:∀p∈r.hp enc t xs,p.1<N/\w.heap[p.1]? =some p.2)(hf:r.Fit 4 xs):fy N w (.list l) (.agg (dS (r.val xs.length))):=by
 simp only[fy];cases r with
 |nil=>
  have h0:xs=[]:=hf;subst h0;have h1:l=[]:=mF K9;subst h1;exact⟨none,0,rfl,aj _,.inl rfl⟩
 |row b cap sp=>
  obtain⟨f1,f2⟩:=hf;obtain⟨g1,g2⟩:=hr (b,bj enc t xs sp) o8;refine⟨some ⟨b,0,none⟩,cap,by rw[hl];rfl,by omega,.inr ⟨b,_,t,(0,0),rfl,g1,g2,?_⟩⟩;have h2:=nso (N:=N) (w:=w) l (xs.map enc) [] sp K9 (λi x y hx hy=>by
   rw[oh]at hy;cases J:xs[i]? with
   |none=>rw[J]at hy;cases hy
   |some z=>rw[J]at hy;cases hy;exact he i z x J hx)
  simpa[iE,List.flatMap]using h2
theorem ja.vat{F:ad}{r:Rw}(h:ja F n es ls)(hw:∀p∈F,p.1<N/\w.heap[p.1]? =some p.2)(hr:∀p∈r.hp (jW n) t es,p∈F)(hf:r.Fit 4 es):fy N w (.list (ls.map V.list)) (.agg (dS (r.val es.length))):=
 nRm (by rw[eK];exact h.1.symm) (λi e y hx hy=>⟨rfl,by
  rw[oh]at hy;cases hl:ls[i]? with
  |none=>rw[hl]at hy;cases hy
  |some l=>
   rw[hl]at hy;cases hy;obtain⟨g1,g2,g3,sp,t',fr,g4⟩:=h.2 i e l hx hl;obtain⟨k1,k2⟩:=hw _ g4;have:=KC (cap:=e.2) g2 k1 aa k2;rw[g1]at this;exact this⟩) (λp hp=>hw p (hr p hp)) hf
theorem Fw{xs:List Int}{r:Rw}(hr:∀p∈r.hp vj t xs,p.1<N/\w.heap[p.1]? =some p.2)(hf:r.Fit 4 xs):fy N w (.list (xs.map V.int)) (.agg (dS (r.val xs.length))):=
 nRm zI (λi x y hx hy=>⟨rfl,by rw[oh,hx]at hy;cases hy;simp only[fy];rfl⟩) hr hf
def Cp (x:Ch):List V:=[.int x.kind,.int x.dev,.int x.pub,.int x.ver,.int x.cut]
def vk (x:Bx):List V:=[.int x.node,.int x.level,.int x.w.u,.text (qK x.w.body)]
def vl (x:We):List V:=[.int x.dev,.int x.w.u,.text (qK x.w.body)]
def oD (c:Cm):List V:=[.int c.folder,.int c.epoch,.text (qK (cM c.par)),.int c.author,.list ((c.chs.map Cp).map V.list),.list (c.path.map V.int),.list ((c.bxs.map vk).map V.list),.list ((c.wes.map vl).map V.list),.text (qK (cM c.conf)),.int c.sr,.int c.ss]
theorem nng{α β:Type}(f:α->β){xs:List α}{x:α}(hx:xs[j]? =some x):(xs.take (j+1)).map f=(xs.take j).map f++[f x]:=by rw[np hx];simp
theorem cC.dgo{off:Nat}{f:Nat->Int}(h:w.heap[b]? =some (.cells cs t fr))(hc:cut cs off 32=Px.dg f)(J:off+32<=cs.size)(hf:ey f):cC w b off (cM f):=
 ⟨cs,t,fr,h,by rw[nI];exact J,λi hi=>by
  rw[nI]at hi;rw[Vy f hf i hi,<-rF f i hi,<-hc];unfold cut;rw[<-OZ,<-OZ];simp only[R0 hi,R1]⟩
theorem Fy{xs:List Int}(h:W.heap[b]? =some (.cells (xs.map ab).toArray t fr)):ai encI 1 W.heap.size W (ao b) xs:=by
 refine .inr ⟨b,0,_,t,fr,rfl,(bB.1 h).1,h,λi hi=>⟨by simp;omega,?_⟩⟩;all_goals grind [cut,encI]
theorem Jp(N:Nat)(w:World)(n:Int):fy N w (.int n) (vI n):=by simp only[fy]
theorem Wb(N:Nat)(w:World)(s:ByteArray):fy N w (.text s) (vT s):=by simp only[fy]
theorem Fz{r:Rw}(W:World):Calls prog 86 #[r.val n] W (aU W (.agg (dS (r.val n)))):=by cases r<;>exact ZA _ _ _ W
theorem n5l(l:List V){cap:Nat}(hl:l.length<=cap)(h:w.heap[b]? =some (.cells cs t fr))(hb:b<N)(hv:gX N w cs 0 l):fy N w (.list l) (vL (ao b) l.length cap):=by grind [fy]
theorem tN{off:Nat}{x:V}{l:List V}(h1:off+4<=cs.size)(h2:fy N w x (.agg (cut cs off 4)))(h3:gX N w cs (off+4) l):gX N w cs off (x::l):=by
 simp only[gX];exact⟨h1,h2,h3⟩
theorem nNl{off:Nat}:gX N w cs off []:=by simp only[gX]
theorem nS(f:Nat->Int):(cM f).length=32:=nI f
theorem gH.up{J:Nat}{w':World}{l:List UInt8}(h:gH N w a l)(hN:N<=J)(hw:∀k,k<N->w'.heap[k]? =w.heap[k]?):gH J w' a l:=by
 exact z1h
theorem nfd(c:Cm)(qj:qg c)(N:Nat)(w:World)(hN:N<=w.heap.size)(hC:dC N w c):Calls prog 45 #[.agg (cP c)] w (dc w (λb:Nat=>.slice (ao b) 11 11) (λb w1=>w.heap.size<=b/\fy w1.heap.size w1 (.list (oD c)) (vL (ao b) 11 11))):=by
 have AT:=qj.chs;have yZ:=qj.path;have QL:=qj.bxs;have V8:=qj.wes;have zt:=hC.chs;have pH:=hC.path;have RQ:=hC.bxs;have Lk:=hC.wes;refine nB (dJ []) [] (vs:=[_]) func45 rfl ntmps45 rfl (Lo w) ?_;refine cK 2 ?_;intro b1 w1 hb1 cN gV gb jJ;refine B 5 ?_;refine zne ?_;refine zne ?_;refine zne ?_;refine bM 1 ?_;intro b3 eO fw;refine bM 1 ?_;intro b4 iW iX;refine bM 1 ?_;intro b5 tr tu;refine B 15 ?_;refine CJ.loop (α:=((Rw×List El)×ad)×Nat) (λp=>[(1,ptr b1 0),(3,ptr b3 0),(4,ptr b4 0),(5,ptr b5 0),(16,.slice c.ca c.chs.length c.cc),(17,ab (c.chs.length:Int)),(18,ab (p.2:Int))]) (λp=>[(b5,oC (dS (ak)) 200),(b4,oC (dS (ak)) 200),(b3,oC (dS (p.1.1.1.val p.1.1.2.length)) 200)]++(p.1.1.1.hp (jW 5) 200 p.1.1.2++[])) (λp=>[w1,w]) (λp=>dJ p.1.2) (λp=>p.2<=c.chs.length/\p.1.1.1.Fr (dJ p.1.2) [w1,w]/\p.1.1.1.Fit 4 p.1.1.2/\ja p.1.2 5 p.1.1.2 ((c.chs.take p.2).map Cp)/\∀q∈([]:ad),q∈p.1.2) (λp=>c.chs.length-p.2) (((.nil,[]),([]:ad)),0) ⟨cO _,True.intro,rfl,ja.nil,λq h=>h⟩ zR rfl rfl zI ?_;rintro⟨⟨⟨r1,J⟩,F1⟩,j1⟩ ⟨hj,aK,ae,pM,O0⟩;dsimp only at hj aK ae pM O0 ⊢;have bK:r1.ge w1.heap.size:=Rw.ge_fz aK A0;have a6:J.length<=50:=by rw[pM.1,eK,kU];omega
 refine aG 6 ?_ ?_
 ·intro av;refine B 5 ?_;obtain⟨bo,oo,bh,to,fg,ez,fh,bX,aR⟩:=zt.get aa;obtain⟨x,hx⟩:=ng c.chs j1 aa;rw[ez];refine B 2 ?_;refine VY ?_;refine yW ?_;intro b7 kh vY;refine B 3 ?_;refine CJ.less (E':=[(1,_),(3,_),(4,_),(5,_),(7,_),(16,_),(17,_),(18,_),(19,_),(20,_),(21,_)]) zR ?_;refine CJ.chn 16 [12,13,14,15] [_,_,_,_,_,_,_,_,_,_,_,_,none,none,none,none] (λcv L' H'=>let ew:ad:=[(b7,oC (gM x) 99),(b5,oC (dS (ak)) 200),(b4,oC (dS (ak)) 200),(b3,oC (dS (r1.val J.length)) 200)]++(r1.hp (jW 5) 200 J++[]);match cv with| []=>L'=[w1,w]/\H'=ew| [v1]=>∃(mX:Nat),v1= .slice (ao mX) 5 5/\L'=[w1,w]/\H'=(mX,oC #[ab x.kind,ab x.dev,ab x.pub,ab x.ver,ab x.cut] 3)::ew/\ah [w1,w] mX| [v1,v2]=>∃(mX:Nat) (bn:Nat) (cn:Nat) (sn:List Value),v1= .slice (ao mX) 5 5/\v2= .slice (ao bn) 5 cn/\L'=[w1,w]/\H'=(bn,bj vj 200 [x.kind,x.dev,x.pub,x.ver,x.cut] sn)::(mX,oC #[ab x.kind,ab x.dev,ab x.pub,ab x.ver,ab x.cut] 3)::ew/\ah [w1,w] mX/\ah [w1,w] bn/\5<=cn| [v1,v2,v3]=>∃(mX:Nat) (bn:Nat) (cn:Nat) (sn:List Value),v1= .slice (ao mX) 5 5/\v2= .slice (ao bn) 5 cn/\v3=vL (ao bn) 5 cn/\L'=[w1,w]/\H'=(bn,bj vj 200 [x.kind,x.dev,x.pub,x.ver,x.cut] sn)::(mX,oC #[ab x.kind,ab x.dev,ab x.pub,ab x.ver,ab x.cut] 3)::ew/\ah [w1,w] mX/\ah [w1,w] bn/\5<=cn| [v1,v2,v3,v4]=>∃(mX:Nat) (bn:Nat) (cn:Nat) (sn:List Value) (oE:Nat),v1= .slice (ao mX) 5 5/\v2= .slice (ao bn) 5 cn/\v3=vL (ao bn) 5 cn/\v4= .slice (ao oE) 1 1/\L'=[w1,w]/\H'=(oE,oC (dS (.slice (ao bn) 5 cn)) 200)::(bn,bj vj 200 [x.kind,x.dev,x.pub,x.ver,x.cut] sn)::(mX,oC #[ab x.kind,ab x.dev,ab x.pub,ab x.ver,ab x.cut] 3)::ew/\ah [w1,w] mX/\ah [w1,w] bn/\5<=cn/\ah [w1,w] oE|_=>False) (pc Yi (pc Wg (pc Lp (pc Wg (pc Lp (pc Wg (pc Lp (pc Wg (pc Lp (pc Wg (pc Lp (pc Wg (pk (pk (pk (pk (pn))))))))))))))))) ?_ ?_
  ·refine ss rfl ?_ ?_
   ·intro cv L' H' hl hP F Q' hk;obtain rfl:=mF hl;obtain⟨rfl,rfl⟩:=hP;refine ET ?_;intro b_ pN iA;exact OJ.done (hk _ _ _ ⟨b_,rfl,rfl,rfl,pN⟩)
   refine ss rfl ?_ ?_
   ·intro cv L' H' hl hP F Q' hk;obtain⟨v1,rfl⟩:=jK hl;obtain⟨mX,rfl,rfl,rfl,lC⟩:=hP;refine Jh (enc:=vj) (m:=4) (t:=200) (xs:=[x.kind,x.dev,x.pub,x.ver,x.cut]) (v:=id) (first:=[]) (cap:=[]) rfl call88 rfl rfl rfl (λW hS=>nRi [x.kind,x.dev,x.pub,x.ver,x.cut] zI W.heap.size (ao mX) 5 W (aj _) (Fy (xs:=[x.kind,x.dev,x.pub,x.ver,x.cut]) (hS.own _ A0))) ?_;intro r_ Wh iK;obtain⟨b_,c_,s_,rfl⟩:=Rw.row_of iK zI;exact OJ.done (hk _ _ _ ⟨mX,b_,c_,s_,rfl,rfl,rfl,rfl,lC,Wh.elim (λh=>h.elim) id,iK.1⟩)
   refine ss rfl ?_ ?_
   ·intro cv L' H' hl hP F Q' hk;obtain⟨v1,v2,rfl⟩:=rL hl;obtain⟨mX,bn,cn,sn,rfl,rfl,rfl,rfl,lC,hfn,uC⟩:=hP;refine call call86 rfl rfl rfl (λW hS=>ZA (ao bn) 5 cn W) ?_;exact OJ.done (hk _ _ _ ⟨mX,bn,cn,sn,rfl,rfl,rfl,rfl,rfl,lC,hfn,uC⟩)
   refine ss rfl ?_ ?_
   ·intro cv L' H' hl hP F Q' hk;obtain⟨v1,v2,v3,rfl⟩:=pB hl;obtain⟨mX,bn,cn,sn,rfl,rfl,rfl,rfl,rfl,lC,hfn,uC⟩:=hP;refine ZC ?_;intro b_ pN iA;exact OJ.done (hk _ _ _ ⟨mX,bn,cn,sn,b_,rfl,rfl,rfl,rfl,rfl,rfl,lC,hfn,uC,pN⟩)
   exact nn
  intro cv L' H' hl hP;obtain⟨v1,v2,v3,v4,rfl⟩:=vm hl;obtain⟨mX,bn,cn,sn,oE,rfl,rfl,rfl,rfl,rfl,rfl,lC,hfn,uC,sU⟩:=hP;refine jV (r:=r1) (xs:=J) (zs:=[((bn,cn):El)]) (enc:=jW 5) (m:=4) (H0:=[(oE,oC (dS (.slice (ao bn) 5 cn)) 200),(bn,bj vj 200 [x.kind,x.dev,x.pub,x.ver,x.cut] sn),(mX,oC #[ab x.kind,ab x.dev,ab x.pub,ab x.ver,ab x.cut] 3),(b7,oC (gM x) 99),(b5,oC (dS (ak)) 200),(b4,oC (dS (ak)) 200),(b3,oC (dS (r1.val J.length)) 200)]) (H1:=[]) rfl ZB (OW 5) rfl rfl rfl rfl (ck.one (z:=((bn,cn):El)) (OW 5) (nth 5) underlying134 (bF.own (i:=0) rfl)) ae aK zI za ?_;intro br cr sr jX rV;refine B 1 ?_;refine kT (i:=6) rfl sizeOf134 rfl rfl rfl rfl (er rfl) rfl ?_;refine B 7 ?_;refine PJ.reH (H':=[(oE,oC (dS (.slice (ao bn) 5 cn)) 200),(bn,bj vj 200 [x.kind,x.dev,x.pub,x.ver,x.cut] sn),(mX,oC #[ab x.kind,ab x.dev,ab x.pub,ab x.ver,ab x.cut] 3),(b7,oC (gM x) 99),(b5,oC (dS (ak)) 200),(b4,oC (dS (ak)) 200),(b3,oC (dS ((Rw.row br cr sr).val (J++[((bn,cn):El)]).length)) 200)]++((br,bj (jW 5) 200 (J++[((bn,cn):El)]) sr)::[])) rfl ?_;refine Wj ?_;refine PJ.fz [(bn,bj vj 200 [x.kind,x.dev,x.pub,x.ver,x.cut] sn)] (H':=[(mX,oC #[ab x.kind,ab x.dev,ab x.pub,ab x.ver,ab x.cut] 3),(b7,oC (gM x) 99),(b5,oC (dS (ak)) 200),(b4,oC (dS (ak)) 200),(b3,oC (dS ((Rw.row br cr sr).val (J++[((bn,cn):El)]).length)) 200)]++((br,bj (jW 5) 200 (J++[((bn,cn):El)]) sr)::[])) (List.Perm.refl _) zdc ?_
  refine PJ.dropAt (i:=0) rfl lC ?_;refine qD ?_;refine ag (((Rw.row br cr sr,(J++[((bn,cn):El)])),(bn,bj vj 200 [x.kind,x.dev,x.pub,x.ver,x.cut] sn)::F1),j1+1) ⟨by dsimp only;omega,jX.elim (λh=>Rw.Fr_at aK h) (λh=>.inr h),rV,by dsimp only;rw[nng Cp hx];exact pM.snoc (λp hp=>.tail _ hp) rfl rfl uC A0,λq hq=>.tail _ (O0 q hq)⟩
 intro av;refine B 7 ?_;have FA:c.chs.take j1=c.chs:=iC aa;rw[FA]at pM;have iL:=ae;refine CJ.fz (r1.hp (jW 5) 200 J) (H':=[(b5,oC (dS (ak)) 200),(b4,oC (dS (ak)) 200),(b3,oC (dS (r1.val J.length)) 200)]) ZD (Rw.fz_above aK) ?_;refine B 8 ?_;refine CJ.loop (α:=((Rw×List El)×ad)×Nat) (λp=>[(1,ptr b1 0),(3,ptr b3 0),(4,ptr b4 0),(5,ptr b5 0),(42,.slice c.ba c.bxs.length c.bc),(43,ab (c.bxs.length:Int)),(44,ab (p.2:Int))]) (λp=>[(b5,oC (dS (ak)) 200),(b4,oC (dS (p.1.1.1.val p.1.1.2.length)) 200),(b3,oC (dS (r1.val J.length)) 200)]++(p.1.1.1.hp (jW 4) 200 p.1.1.2++[])) (λp=>[w1,w]) (λp=>dJ p.1.2) (λp=>p.2<=c.bxs.length/\p.1.1.1.Fr (dJ p.1.2) [w1,w]/\p.1.1.1.Fit 4 p.1.1.2/\ja p.1.2 4 p.1.1.2 ((c.bxs.take p.2).map vk)/\∀q∈(r1.hp (jW 5) 200 J++F1),q∈p.1.2) (λp=>c.bxs.length-p.2) (((.nil,[]),(r1.hp (jW 5) 200 J++F1)),0) ⟨cO _,True.intro,rfl,ja.nil,λq h=>h⟩ zR rfl rfl zI ?_;rintro⟨⟨⟨r2,rW⟩,F2⟩,j2⟩ ⟨hj,aK,ae,tO,AY⟩;dsimp only at hj aK ae tO AY ⊢;have bK:r2.ge w1.heap.size:=Rw.ge_fz aK A0;have a6:rW.length<=50:=by rw[tO.1,eK,kU];omega
 refine aG 6 ?_ ?_
 ·intro aS;refine B 5 ?_;obtain⟨bo,oo,bh,to,fg,ez,fh,bX,aR⟩:=RQ.get aa;obtain⟨x,hx⟩:=ng c.bxs j2 aa;rw[ez];have hq:=λ(k:Nat)=>Rw.mem_ge (enc:=jW 4) (t:=200) (xs:=rW) (k:=k) bK;have rj:gH N w x.w.ba x.w.body:=hC.bb x (cu hx);refine aF 2 (.agg (tM x)) ?_;refine bM 1 ?_;intro b9 xP uh;refine B 3 ?_;refine CJ.less (E':=[(1,_),(3,_),(4,_),(5,_),(9,_),(42,_),(43,_),(44,_),(45,_),(46,_),(47,_)]) zR ?_;refine CJ.chn 19 [16,17,18] [_,_,_,_,_,_,_,_,_,_,_,_,_,_,_,some (vT (qK x.w.body)),none,none,none] (λcv L' H'=>let ew:ad:=[(b9,oC (tM x) 110),(b5,oC (dS (ak)) 200),(b4,oC (dS (r2.val rW.length)) 200),(b3,oC (dS (r1.val J.length)) 200)]++(r2.hp (jW 4) 200 rW++[]);match cv with| []=>L'=[w1,w]/\H'=ew| [v1]=>∃(bn:Nat),v1= .slice (ao bn) 4 4/\L'=[w1,w]/\H'=(bn,oC (nM (vk x)++[]).toArray 200)::ew/\ah [w1,w] bn| [v1,v2]=>∃(bn:Nat),v1= .slice (ao bn) 4 4/\v2=vL (ao bn) 4 4/\L'=[w1,w]/\H'=(bn,oC (nM (vk x)++[]).toArray 200)::ew/\ah [w1,w] bn| [v1,v2,v3]=>∃(bn:Nat) (oE:Nat),v1= .slice (ao bn) 4 4/\v2=vL (ao bn) 4 4/\v3= .slice (ao oE) 1 1/\L'=[w1,w]/\H'=(oE,oC (dS (.slice (ao bn) 4 4)) 200)::(bn,oC (nM (vk x)++[]).toArray 200)::ew/\ah [w1,w] bn/\ah [w1,w] oE|_=>False) (pc Yi (pc xZ (pc (by exact λcv L' H' hd hP=>X.v (cX underlying110 rfl sizeOf3 rfl)) (pc xZ (pc z3 (pc (by exact λcv L' H' hd hP=>X.v (cX underlying110 rfl sizeOf3 rfl)) (pc xZ (pc z3 (pc (by exact λcv L' H' hd hP=>X.v (cX underlying110 rfl sizeOf108 rfl)) (pc z9b (pc xZ (pc z3 (pc (by exact λcv L' H' hd hP=>X.v (cX underlying110 rfl sizeOf108 rfl)) (pc z6b (pc xZ (pc xZ (pk (pk (pk (pn)))))))))))))))))))) ?_ ?_
  ·refine ss rfl ?_ ?_
   ·exact zGg
   refine ss rfl ?_ ?_
   ·intro cv L' H' hl hP F Q' hk;obtain⟨v1,rfl⟩:=jK hl;obtain⟨bn,rfl,rfl,rfl,hfn⟩:=hP;refine call call86 rfl rfl rfl (λW hS=>ZA (ao bn) 4 4 W) ?_;exact z5h
   exact zwg
  intro cv L' H' hl hP;obtain⟨v1,v2,v3,rfl⟩:=pB hl;obtain⟨bn,oE,rfl,rfl,rfl,rfl,rfl,hfn,sU⟩:=hP;refine jV (r:=r2) (xs:=rW) (zs:=[((bn,4):El)]) (enc:=jW 4) (m:=4) (H0:=[(oE,oC (dS (.slice (ao bn) 4 4)) 200),(bn,oC (nM (vk x)++[]).toArray 200),(b9,oC (tM x) 110),(b5,oC (dS (ak)) 200),(b4,oC (dS (r2.val rW.length)) 200),(b3,oC (dS (r1.val J.length)) 200)]) (H1:=[]) rfl ZB (OW 4) rfl rfl rfl rfl (ck.one (z:=((bn,4):El)) (OW 4) (nth 4) underlying134 (bF.own (i:=0) rfl)) ae aK zI za ?_;intro br cr sr jX rV;refine B 1 ?_;refine kT (i:=4) rfl sizeOf134 rfl rfl rfl rfl (er rfl) rfl ?_;refine B 7 ?_;refine PJ.reH (H':=[(oE,oC (dS (.slice (ao bn) 4 4)) 200),(bn,oC (nM (vk x)++[]).toArray 200),(b9,oC (tM x) 110),(b5,oC (dS (ak)) 200),(b4,oC (dS ((Rw.row br cr sr).val (rW++[((bn,4):El)]).length)) 200),(b3,oC (dS (r1.val J.length)) 200)]++((br,bj (jW 4) 200 (rW++[((bn,4):El)]) sr)::[])) rfl ?_;refine Wj ?_;refine PJ.fz [(bn,oC (nM (vk x)++[]).toArray 200)] (H':=[(b9,oC (tM x) 110),(b5,oC (dS (ak)) 200),(b4,oC (dS ((Rw.row br cr sr).val (rW++[((bn,4):El)]).length)) 200),(b3,oC (dS (r1.val J.length)) 200)]++((br,bj (jW 4) 200 (rW++[((bn,4):El)]) sr)::[])) (List.Perm.refl _) zdc ?_;refine qD ?_;refine ag (((Rw.row br cr sr,(rW++[((bn,4):El)])),(bn,oC (nM (vk x)++[]).toArray 200)::F2),j2+1) ⟨by dsimp only;omega,jX.elim (λh=>Rw.Fr_at aK h) (λh=>.inr h),rV,by dsimp only;rw[nng vk hx];exact tO.snoc (λp hp=>.tail _ hp) rfl rfl (aj _) A0,λq hq=>.tail _ (AY q hq)⟩
 intro aS;refine B 7 ?_;have FB:c.bxs.take j2=c.bxs:=iC aa;rw[FB]at tO;have eP:=ae;refine CJ.fz (r2.hp (jW 4) 200 rW) (H':=[(b5,oC (dS (ak)) 200),(b4,oC (dS (r2.val rW.length)) 200),(b3,oC (dS (r1.val J.length)) 200)]) ZD (Rw.fz_above aK) ?_;refine B 8 ?_;refine CJ.loop (α:=((Rw×List El)×ad)×Nat) (λp=>[(1,ptr b1 0),(3,ptr b3 0),(4,ptr b4 0),(5,ptr b5 0),(71,.slice c.wa c.wes.length c.wc),(72,ab (c.wes.length:Int)),(73,ab (p.2:Int))]) (λp=>[(b5,oC (dS (p.1.1.1.val p.1.1.2.length)) 200),(b4,oC (dS (r2.val rW.length)) 200),(b3,oC (dS (r1.val J.length)) 200)]++(p.1.1.1.hp (jW 3) 200 p.1.1.2++[])) (λp=>[w1,w]) (λp=>dJ p.1.2) (λp=>p.2<=c.wes.length/\p.1.1.1.Fr (dJ p.1.2) [w1,w]/\p.1.1.1.Fit 4 p.1.1.2/\ja p.1.2 3 p.1.1.2 ((c.wes.take p.2).map vl)/\∀q∈(r2.hp (jW 4) 200 rW++F2),q∈p.1.2) (λp=>c.wes.length-p.2) (((.nil,[]),(r2.hp (jW 4) 200 rW++F2)),0) ⟨cO _,True.intro,rfl,ja.nil,λq h=>h⟩ zR rfl rfl zI ?_;rintro⟨⟨⟨r3,vn⟩,F3⟩,j3⟩ ⟨hj,aK,ae,Cq,AZ⟩;dsimp only at hj aK ae Cq AZ ⊢;have bK:r3.ge w1.heap.size:=Rw.ge_fz aK A0;have a6:vn.length<=50:=by rw[Cq.1,eK,kU];omega
 refine aG 6 ?_ ?_
 ·intro dh;refine B 5 ?_;obtain⟨bo,oo,bh,to,fg,ez,fh,bX,aR⟩:=Lk.get aa;obtain⟨x,hx⟩:=ng c.wes j3 aa;rw[ez];have hq:=λ(k:Nat)=>Rw.mem_ge (enc:=jW 3) (t:=200) (xs:=vn) (k:=k) bK;have rj:gH N w x.w.ba x.w.body:=hC.wb x (cu hx);refine aF 2 (.agg (vg x)) ?_;refine bM 1 ?_;intro gD uY yQ;refine B 3 ?_;refine CJ.less (E':=[(1,_),(3,_),(4,_),(5,_),(11,_),(71,_),(72,_),(73,_),(74,_),(75,_),(76,_)]) zR ?_;refine CJ.chn 16 [13,14,15] [_,_,_,_,_,_,_,_,_,_,_,_,some (vT (qK x.w.body)),none,none,none] (λcv L' H'=>let ew:ad:=[(gD,oC (vg x) 114),(b5,oC (dS (r3.val vn.length)) 200),(b4,oC (dS (r2.val rW.length)) 200),(b3,oC (dS (r1.val J.length)) 200)]++(r3.hp (jW 3) 200 vn++[]);match cv with| []=>L'=[w1,w]/\H'=ew| [v1]=>∃(bn:Nat),v1= .slice (ao bn) 3 3/\L'=[w1,w]/\H'=(bn,oC (nM (vl x)++[]).toArray 200)::ew/\ah [w1,w] bn| [v1,v2]=>∃(bn:Nat),v1= .slice (ao bn) 3 3/\v2=vL (ao bn) 3 3/\L'=[w1,w]/\H'=(bn,oC (nM (vl x)++[]).toArray 200)::ew/\ah [w1,w] bn| [v1,v2,v3]=>∃(bn:Nat) (oE:Nat),v1= .slice (ao bn) 3 3/\v2=vL (ao bn) 3 3/\v3= .slice (ao oE) 1 1/\L'=[w1,w]/\H'=(oE,oC (dS (.slice (ao bn) 3 3)) 200)::(bn,oC (nM (vl x)++[]).toArray 200)::ew/\ah [w1,w] bn/\ah [w1,w] oE|_=>False) (pc Yi (pc xZ (pc (by exact λcv L' H' hd hP=>X.v (cX underlying114 rfl sizeOf3 rfl)) (pc xZ (pc z3 (pc (by exact λcv L' H' hd hP=>X.v (cX underlying114 rfl sizeOf108 rfl)) (pc z9b (pc xZ (pc z3 (pc (by exact λcv L' H' hd hP=>X.v (cX underlying114 rfl sizeOf108 rfl)) (pc z6b (pc xZ (pc xZ (pk (pk (pk (pn))))))))))))))))) ?_ ?_
  ·refine ss rfl ?_ ?_
   ·exact zGg
   refine ss rfl ?_ ?_
   ·intro cv L' H' hl hP F Q' hk;obtain⟨v1,rfl⟩:=jK hl;obtain⟨bn,rfl,rfl,rfl,hfn⟩:=hP;refine call call86 rfl rfl rfl (λW hS=>ZA (ao bn) 3 3 W) ?_;exact z5h
   exact zwg
  intro cv L' H' hl hP;obtain⟨v1,v2,v3,rfl⟩:=pB hl;obtain⟨bn,oE,rfl,rfl,rfl,rfl,rfl,hfn,sU⟩:=hP;refine jV (r:=r3) (xs:=vn) (zs:=[((bn,3):El)]) (enc:=jW 3) (m:=4) (H0:=[(oE,oC (dS (.slice (ao bn) 3 3)) 200),(bn,oC (nM (vl x)++[]).toArray 200),(gD,oC (vg x) 114),(b5,oC (dS (r3.val vn.length)) 200),(b4,oC (dS (r2.val rW.length)) 200),(b3,oC (dS (r1.val J.length)) 200)]) (H1:=[]) rfl ZB (OW 3) rfl rfl rfl rfl (ck.one (z:=((bn,3):El)) (OW 3) (nth 3) underlying134 (bF.own (i:=0) rfl)) ae aK zI za ?_;intro br cr sr jX rV;refine B 1 ?_;refine kT (i:=3) rfl sizeOf134 rfl rfl rfl rfl (er rfl) rfl ?_;refine B 7 ?_;refine PJ.reH (H':=[(oE,oC (dS (.slice (ao bn) 3 3)) 200),(bn,oC (nM (vl x)++[]).toArray 200),(gD,oC (vg x) 114),(b5,oC (dS ((Rw.row br cr sr).val (vn++[((bn,3):El)]).length)) 200),(b4,oC (dS (r2.val rW.length)) 200),(b3,oC (dS (r1.val J.length)) 200)]++((br,bj (jW 3) 200 (vn++[((bn,3):El)]) sr)::[])) rfl ?_;refine Wj ?_;refine PJ.fz [(bn,oC (nM (vl x)++[]).toArray 200)] (H':=[(gD,oC (vg x) 114),(b5,oC (dS ((Rw.row br cr sr).val (vn++[((bn,3):El)]).length)) 200),(b4,oC (dS (r2.val rW.length)) 200),(b3,oC (dS (r1.val J.length)) 200)]++((br,bj (jW 3) 200 (vn++[((bn,3):El)]) sr)::[])) (List.Perm.refl _) zdc ?_
  refine qD ?_;refine ag (((Rw.row br cr sr,(vn++[((bn,3):El)])),(bn,oC (nM (vl x)++[]).toArray 200)::F3),j3+1) ⟨by dsimp only;omega,jX.elim (λh=>Rw.Fr_at aK h) (λh=>.inr h),rV,by dsimp only;rw[nng vl hx];exact Cq.snoc (λp hp=>.tail _ hp) rfl rfl (aj _) A0,λq hq=>.tail _ (AZ q hq)⟩
 intro dh;refine B 6 ?_;have ZE:c.wes.take j3=c.wes:=iC aa;rw[ZE]at Cq;have oi:=ae;refine CJ.fz (r3.hp (jW 3) 200 vn) (H':=[(b5,oC (dS (r3.val vn.length)) 200),(b4,oC (dS (r2.val rW.length)) 200),(b3,oC (dS (r1.val J.length)) 200)]) ZD (Rw.fz_above aK) ?_;refine CJ.less (E':=[(1,_),(3,_),(4,_),(5,_),(71,_),(72,_),(73,_),(74,_)]) zR ?_;refine CJ.chn 30 [15,16] [_,_,_,_,_,_,_,_,some (vT (qK (cM c.par))),_,_,_,some (.agg (dS (r1.val J.length))),_,_,none,none,some (.agg (dS (r2.val rW.length))),some (.agg (dS (r3.val vn.length))),_,_,some (vT (qK (cM c.conf))),_,_,_,_,_,_,_,_] (λcv L' H'=>let ew:ad:=[(b5,oC (dS (r3.val vn.length)) 200),(b4,oC (dS (r2.val rW.length)) 200),(b3,oC (dS (r1.val J.length)) 200)];match cv with| []=>L'=[w1,w]/\H'=ew| [v1]=>∃(yh:Rw),v1=yh.val c.path.length/\L'=[w1,w]/\H'=ew++(yh.hp vj 200 c.path++[])/\yh.ge w1.heap.size/\yh.Fit 4 c.path| [v1,v2]=>∃(yh:Rw),v1=yh.val c.path.length/\v2= .agg (dS (yh.val c.path.length))/\L'=[w1,w]/\H'=ew++(yh.hp vj 200 c.path++[])/\yh.ge w1.heap.size/\yh.Fit 4 c.path|_=>False) (pc ZF (pc FC (pc z3 (pc ZF (pc FC (pc z3 (pc (by exact λcv L' H' hd hP=>X.v (cX underlying61 rfl sizeOf33 rfl)) (pc zYb (pc FC (pc ZF (pc FC (pc z3 (pc FC (pc z8b (pc FC (pk (pk (pc FC (pc FC (pc (by exact λcv L' H' hd hP=>X.v (cX underlying61 rfl sizeOf33 rfl)) (pc zYb (pc FC (pc (by exact λcv L' H' hd hP=>X.v (cX underlying61 rfl sizeOf59 rfl)) (pc zbc (pc FC (pc z3 (pc (by exact λcv L' H' hd hP=>X.v (cX underlying61 rfl sizeOf59 rfl)) (pc zbc (pc FC (pc z3 (pn))))))))))))))))))))))))))))))) ?_ ?_
 ·refine ss rfl ?_ ?_
  ·intro cv L' H' hl hP F Q' hk;obtain rfl:=mF hl;obtain⟨rfl,rfl⟩:=hP;refine VO (enc:=vj) (m:=4) (t:=200) (xs:=c.path) (v:=id) (first:=[]) (cap:=[]) rfl call88 rfl rfl rfl (λW hS=>nRi c.path aa N c.pa c.pc W cR (pH.up (aj _) (λk hk=>(hS.links w A1).block k aa (λhx=>by rcases hx with hx|hx;(exact hx);simp only[dP,fu,cd,dZ,or_false]at hx;omega)))) ?_;intro r_ Wh iK;exact OJ.done (hk _ _ _ ⟨r_,rfl,rfl,rfl,Rw.ge_fz Wh A0,iK⟩)
  refine ss rfl ?_ ?_
  ·intro cv L' H' hl hP F Q' hk;obtain⟨v1,rfl⟩:=jK hl;obtain⟨yh,rfl,rfl,rfl,rX,rY⟩:=hP;refine call call86 rfl rfl rfl (λW hS=>Fz W) ?_;exact OJ.done (hk _ _ _ ⟨yh,rfl,rfl,rfl,rfl,rX,rY⟩)
  exact nn
 intro cv L' H' hl hP;obtain⟨v1,v2,rfl⟩:=rL hl;obtain⟨yh,rfl,rfl,rfl,rfl,rX,rY⟩:=hP;refine ZC ?_;refine yW ?_;intro ZG dL dp;refine B 4 ?_;refine bS (.inl rfl) results45 bD λW hS=>⟨ZG,rfl,(hS.links w A1).below (λk hk hx=>by rcases hx with hx|hx;(exact hx);simp only[gN,dP,fu,iv,eY,ec,aY,cd,dZ,or_false]at hx;rcases hx with hx|hx|hx|hx|hx<;>first|omega|(have:=Rw.mem_ge rX hx;omega)),by omega,?_⟩;have hF:∀p∈(r3.hp (jW 3) 200 vn++F3),p.1<W.heap.size/\W.heap[p.1]? =some p.2:=λp hp=>⟨(bB.1 (hS.fzAt p hp)).1,hS.fzAt p hp⟩;have hb:=hS.own (ZG,_) A0;have bZ:∀p∈yh.hp vj 200 c.path,p.1<W.heap.size/\W.heap[p.1]? =some p.2:=λp hp=>by have h:=hS.own p (by simp[hp]);exact⟨(bB.1 h).1,h⟩
 have i3:∀p∈F3,p∈(r3.hp (jW 3) 200 vn++F3):=λp hp=>aY.2 (.inr hp);have i2:∀p∈F2,p∈(r3.hp (jW 3) 200 vn++F3):=λp hp=>i3 p (AZ p (aY.2 (.inr hp)));have i1:∀p∈F1,p∈(r3.hp (jW 3) 200 vn++F3):=λp hp=>i2 p (AY p (aY.2 (.inr hp)));have v1:=ja.vat (t:=200) (pM.up i1) hF (λp hp=>i2 p (AY p (aY.2 (.inl hp)))) iL;have bQ:=ja.vat (t:=200) (tO.up i2) hF (λp hp=>i3 p (AZ p (aY.2 (.inl hp)))) eP;have b0:=ja.vat (t:=200) (Cq.up i3) hF (λp hp=>aY.2 (.inl hp)) oi;have vp:=Fw (t:=200) bZ rY;exact n5l (oD c) (aj 11) hb (bB.1 hb).1 (tN (er rfl) (Jp _ _ _) (tN (er rfl) (Jp _ _ _) (tN (er rfl) (Wb _ _ _) (tN (er rfl) (Jp _ _ _) (tN (er rfl) v1 (tN (er rfl) vp (tN (er rfl) bQ (tN (er rfl) b0 (tN (er rfl) (Wb _ _ _) (tN (er rfl) (Jp _ _ _) (tN (er rfl) (Jp _ _ _) (nNl))))))))))))
theorem V.fineL_take{l:List V}(h:V.fineL l):∀k,V.fineL (l.take k):=by
 induction l with
 |nil=>intro k;simp[V.fineL]
 |cons x l ih=>
  intro k;cases k with
  |zero=>simp[V.fineL]
  |succ k=>simp only[ZH,V.fineL]at h ⊢;exact⟨h.1,ih h.2 k⟩
theorem V.depthL_take_le(l:List V):∀k,V.depthL (l.take k)<=V.depthL l:=by
 induction l with
 |nil=>intro k;simp
 |cons x l ih=>
  intro k;cases k with
  |zero=>simp[V.depthL]
  |succ k=>simp only[ZH,V.depthL];have:=ih k;omega
theorem ZI(n:Nat)(hn:n<=100):∀ls:List (List V),(∀l∈ls,l.all v7=true/\l.length<=n)->V.fineL (ls.map V.list)->(V.encL (ls.map V.list)).length<=ls.length*(n*1000000020+11)/\V.depthL (ls.map V.list)<=1
 | [],_,_=>by simp[V.encL,V.depthL]
 |l::ls,h,hf=>by
  simp only[dP,V.fineL,V.fine]at hf;obtain⟨h1,h2⟩:=ZI n hn ls (λl' J=>h l' (by simp[J])) hf.2;obtain⟨h3,h4⟩:=h l zI;obtain⟨h5,h6⟩:=nvf l h3 hf.1.2.2;have h7:=Da (u:=l.length) aa;have h8:l.length*1000000020<=n*1000000020:=wh _ h4;simp only[dP,V.encL,V.depthL,V.enc,V.depth,cB,dI,h6,qL];refine⟨by omega,by omega⟩
theorem R4(c:Cm)(qj:qg c)(hf:V.fineL (oD c)):(V.encL (oD c)).length<=700000000000/\V.depthL (oD c)<=2:=by
 have f1:=qj.chs;have f2:=qj.path;have f3:=qj.bxs;have f4:=qj.wes;simp only[oD,V.fineL]at hf;obtain⟨g1,g2,g3,g4,g5,g6,g7,g8,g9,g10,g11,_⟩:=hf;have J:=ZI 5 zz (c.chs.map Cp) (λl hl=>by obtain⟨x,_,rfl⟩:=bU.1 hl;exact⟨rfl,aj 5⟩) (by simp only[V.fine]at g5;exact g5.2.2);have e7:=ZI 4 zz (c.bxs.map vk) (λl hl=>by obtain⟨x,_,rfl⟩:=bU.1 hl;exact⟨rfl,aj 4⟩) (by simp only[V.fine]at g7;exact g7.2.2);have e8:=ZI 3 zz (c.wes.map vl) (λl hl=>by obtain⟨x,_,rfl⟩:=bU.1 hl;exact⟨rfl,aj 3⟩) (by simp only[V.fine]at g8;exact g8.2.2);have e6:=nvf (c.path.map V.int) (by simp[v7]) (by simp only[V.fine]at g6;exact g6.2.2);have i1:=B6 _ rfl g1;have i2:=B6 _ rfl g2;have i3:=B6 _ rfl g3;have i4:=B6 _ rfl g4;have i9:=B6 _ rfl g9;have i10:=B6 _ rfl g10;have i11:=B6 _ rfl g11;have n5:=Da (u:=((c.chs.map Cp).map V.list).length) mZ;have n6:=Da (u:=(c.path.map V.int).length) mZ;have n7:=Da (u:=((c.bxs.map vk).map V.list).length) mZ;have n8:=Da (u:=((c.wes.map vl).map V.list).length) mZ;have m5:(c.chs.map Cp).length*(5*1000000020+11)<=10*(5*1000000020+11):=wh _ (by rw[eK];exact f1);have m6:(c.path.map V.int).length*1000000020<=12*1000000020:=wh _ (by rw[eK];exact f2);have m7:(c.bxs.map vk).length*(4*1000000020+11)<=40*(4*1000000020+11):=wh _ (by rw[eK];exact f3)
 have m8:(c.wes.map vl).length*(3*1000000020+11)<=10*(3*1000000020+11):=wh _ (by rw[eK];exact f4);have l5:(V.list ((c.chs.map Cp).map V.list)).enc.length<=11+(V.encL ((c.chs.map Cp).map V.list)).length:=by simp only[V.enc,dI,cB];omega
 have l6:(V.list (c.path.map V.int)).enc.length<=11+(V.encL (c.path.map V.int)).length:=by simp only[V.enc,dI,cB];omega
 have l7:(V.list ((c.bxs.map vk).map V.list)).enc.length<=11+(V.encL ((c.bxs.map vk).map V.list)).length:=by simp only[V.enc,dI,cB];omega
 have l8:(V.list ((c.wes.map vl).map V.list)).enc.length<=11+(V.encL ((c.wes.map vl).map V.list)).length:=by simp only[V.enc,dI,cB];omega
 refine⟨?_,?_⟩
 ·unfold oD;simp only[V.encL,cB,fJ];omega
 unfold oD;simp only[V.depthL,V.depth,e6.2];have d5:=J.2;have d7:=e7.2;have d8:=e8.2;omega
theorem ZJ(c:Cm)(qj:qg c)(hf:V.fineL (oD c))(k:Nat):(V.list ((oD c).take k)).fine/\(V.list ((oD c).take k)).depth<=16/\(V.list ((oD c).take k)).enc.length<=800000000000:=by grind [R4,V.depthL_take_le,oD,V.encL_take_le,Da,V.fine,V.fineL_take,V.depth,V.enc,List.length_cons]
theorem nYk{N:Nat}{w:World}{cs:Array Value}:∀{l:List V} {off:Nat} (k:Nat),gX N w cs off l->gX N w cs off (l.take k)
 | [],off,k,h=>by simpa using h
 |x::l,off,0,h=>by simp[gX]
 |x::l,off,k+1,h=>by
  simp only[ZH,gX]at h ⊢;exact⟨h.1,h.2.1,nYk k h.2.2⟩
theorem nqm{cap:Nat}{l:List V}(hn:l.length=n)(J:0<n)(k:Nat)(hk:k<=n)(h:fy N w (.list l) (vL (ao b) n cap)):fy N w (.list (l.take k)) (vL (ao b) k cap):=by grind [fy,nYk]
theorem n1e(hZ:FxOk Z)(s:ByteArray)(hs0:s.size<1000)(l:List V)(ee:(V.list l).fine)(hd:(V.list l).depth<=16)(jt:(V.list l).enc.length<=800000000000)(N bl lc:Nat)(w:World)(hN:N<=w.heap.size)(xS:fy N w (.list l) (vL (ao bl) l.length lc))(hg:Glb w):Calls prog 44 #[.string s,.slice (ao bl) l.length lc] w (aU w (.agg (dg (Z.tg s (V.list l).enc)))):=by
 have an:=hg.lt;obtain⟨df,lD⟩:∃df,Z.tg s (V.list l).enc=df:=⟨_,rfl⟩;refine eN func44 ntmps44 ?_;refine bM 3 ?_;intro b4 iW iX;refine B 5 ?_;refine zne ?_;refine zje ?_;intro fN Jd Kl J oj aq y4;replace J:=yb J;replace oj:=yd oj;refine B 11 ?_;refine z7d ?_;refine B 4 ?_;refine cA (.inl rfl) results44 bD A0 zA ?_;rw[lD];rfl
def aC (Z:Fx) (c:Cm):Nat->Int:=Z.tg (⟨#[99,111,109,109,105,116]⟩:ByteArray) (V.list (oD c)).enc
def oF (Z:Fx) (c:Cm):Nat->Int:=Z.tg (⟨#[99,111,109,109,105,116,32,115,105,103,110]⟩:ByteArray) (V.list ((oD c).take 9)).enc
structure bO (c:Cm):Prop where
 few:qg c
 fine:V.fineL (oD c)
section
variable (hZ:FxOk Z)(c:Cm)(dG:bO c)(N:Nat)(w:World)(hN:N<=w.heap.size)(hC:dC N w c)(hg:Glb w)
include hZ dG hN hC hg
theorem ZK:Calls prog 23 #[.agg (cP c)] w (aU w (.agg (dg (aC Z c)))):=by
 have bu:=hg.lt;obtain⟨df,lD⟩:∃df,aC Z c=df:=⟨_,rfl⟩;have vo:=ZJ c dG.few dG.fine 11;have an:(oD c).take 11=oD c:=rfl;rw[an]at vo;refine eN func23 ntmps23 ?_;refine cK 2 ?_;intro b1 w1 hb1 cN gV gb jJ;refine bM 1 ?_;intro b2 dL dH;refine aF 4 (.agg (cP c)) ?_;refine zRd ?_;rintro W5 b5 w5 Wo J ⟨bh,az⟩;have ZL:=Wo.sizes;replace ZL:=yb ZL;have br:=J.size;have a6:=Wo.under;simp only[I8,dA,eh,and_true]at a6;have aq:=(J.block b2 aa).trans (Wo.own _ A0);refine call call44 rfl rfl rfl (λW hS=>by rw[<-lD];exact n1e hZ (⟨#[99,111,109,109,105,116]⟩:ByteArray) zz (oD c) vo.1 vo.2.1 vo.2.2 w5.heap.size b5 11 W (hS.links w5 A0).size (fy.up (aj _) (λk hk=>by by_cases e2:k=b2;(rw[e2,aq];exact hS.own _ A0);exact(hS.links w5 A0).block k hk (λhx=>by rcases hx with hx|hx;(exact hx);simp at hx;exact e2 hx)) _ _ az) (hg.old hS A2 zF zD)) (v:=.agg (dg df)) ?_;refine B 4 ?_;refine cA (.inl rfl) results23 bD A2 zA ?_;rw[lD];rfl
theorem nyc:Calls prog 147 #[.agg (cP c)] w (dc w (λb:Nat=>.slice (ao b) 32 32) (λb w1=>w.heap.size<=b/\w1.heap[b]? =some (oC (dg (oF Z c)) 33))):=by
 have bh:=hg.lt;obtain⟨df,lD⟩:∃df,oF Z c=df:=⟨_,rfl⟩;have J:=ZJ c dG.few dG.fine 9;refine eN func147 ntmps147 ?_;refine cK 2 ?_;intro b1 w1 hb1 cN gV gb jJ;refine aF 5 (.agg (cP c)) ?_;refine zRd ?_;rintro W5 b5 w5 Wo aq ⟨a6,al⟩;have ZL:=Wo.sizes;replace ZL:=yb ZL;have a8:=aq.size;have an:=Wo.under;simp only[I8,dA,eh,and_true]at an;refine rv rfl rfl rfl (fM (h:=9) underlying134 sizeOf200 rfl ⟨_,_,rfl,rfl⟩ aa) ?_;refine call call44 rfl rfl rfl (λW hS=>by rw[<-lD];exact n1e hZ (⟨#[99,111,109,109,105,116,32,115,105,103,110]⟩:ByteArray) zz ((oD c).take 9) J.1 J.2.1 J.2.2 w5.heap.size b5 11 W (hS.links w5 A0).size (fy.up (aj _) (hS.same A0 (aj _) zF trivial) _ _ (nqm (n:=11) rfl zz 9 zz al)) (hg.old hS A2 zF zD)) (v:=.agg (dg df)) ?_;refine bM 1 ?_;intro b3 eO fw;refine B 5 ?_;refine zze ?_;refine B 4 ?_;exact bS (.inl rfl) results147 bD (λW hS=>⟨b3,rfl,hS.base A2 zA,by omega,by rw[lD];exact hS.own _ A0⟩)
end
def lE (g:Gp) (au:Int) (l:List Ch):Int:=if gF g.ms au=true then((g.ms[pJ g.ms au]?).map (·.ver)).getD 0 else((l[0]?).map (·.ver)).getD 0
theorem nFm{x:Mb}(h:gF g.ms au=true)(hx:g.ms[pJ g.ms au]? =some x):x.ver=lE g au l:=by unfold lE;rw[if_pos h,hx];rfl
theorem nIo(h:gF g.ms au=false)(hx:l[0]? =some x):x.ver=lE g au l:=by unfold lE;rw[if_neg (by rw[h];decide),hx];rfl
theorem nPc(G:Gv)(N:Nat)(w:World)(hN:N<=w.heap.size)(hG:cj N w G)(l:List Ch)(hxl:l.length<=1000000)(a:Option Addr)(cp:Nat)(aI:ai gM 5 N w a l)(au:Int)(DS:gF G.g.ms au=false->0<l.length):Calls prog 135 #[.agg (bJ G),ab au,.slice a l.length cp] w (aU w (ab (lE G.g au l))):=by
 refine eN func135 ntmps135 ?_;refine cK 2 ?_;intro b3 w3 dE da gi eO fw;refine aF 6 (.agg (bJ G)) ?_;refine B 1 ?_;refine call call199 rfl rfl rfl (λW hS=>nYd G N W cR (hG.up (aj _) hS.sm) au) ?_;refine aG 12 ?_ ?_
 ·intro av;refine B 1 ?_;have ay:=hG.mn;have hlt:=K7 cY;have E5:=hG.ms;obtain⟨bo,oo,J,to,fg,ez,fh,bX,aR⟩:=E5.get aa;obtain⟨x,hx⟩:=ng G.g.ms (pJ G.g.ms au) hlt;refine B 2 ?_;refine rq (.slice (some ⟨bo,oo,none⟩) G.g.ms.length G.mc) (ar isAgg48 rfl A0 dE da trivial rfl) (congrArg (λq=>Value.slice q G.g.ms.length G.mc) ez) ?_;refine B 3 ?_;refine rv rfl rfl rfl (ar (v:=ab x.ver) isAgg3 rfl A1 bX zH trivial (by have:=uA aR hx rfl 2 zz;simpa[qH]using this)) ?_;refine B 5 ?_;exact z6h
 intro av;refine B 3 ?_;have my:=DS AW;obtain⟨bo,oo,J,to,fg,rfl,fh,bX,aR⟩:=aI.get aa;obtain⟨x,hx⟩:=ng l 0 aa;refine B 4 ?_;refine rv rfl rfl rfl (ar (v:=ab x.ver) isAgg3 rfl A1 bX zH trivial (by have:=uA aR hx (i:=0) rfl 3 zz;simpa[gM]using this)) ?_;refine B 4 ?_;exact z6h
def lF {α β:Type} (r:α->β->Bool) (xs:List α) (ys:List β):Bool:=decide (xs.length=ys.length)&&(xs.zip ys).all λp=>r p.1 p.2
def Cr {α β:Type} (r:α->β->Bool) (xs:List α) (ys:List β) (j:Nat):Prop:=∀(i:Nat) (x:α) (y:β),i<j->xs[i]? =some x->ys[i]? =some y->r x y=true
section
variable {α β:Type}{r:α->β->Bool}{xs:List α}{ys:List β}
include α β r ys
theorem Cr.next{x:α}{y:β}(h:Cr r xs ys j)(hx:xs[j]? =some x)(hy:ys[j]? =some y)(e:r x y=true):Cr r xs ys (j+1):=by
 exact zEh
theorem nGe(hl:xs.length=ys.length)(h:Cr r xs ys j)(hj:¬j<xs.length):true=lF r xs ys:=by
 unfold lF;rw[decide_eq_true hl,Bool.true_and,eq_comm,uD];rintro⟨x,y⟩ hp;obtain⟨i,hi⟩:=ju.1 hp;rw[List.getElem?_zip_eq_some]at hi;exact h i x y (by have:=nq hi.1;omega) hi.1 hi.2
theorem nQf{x:α}{y:β}(hx:xs[j]? =some x)(hy:ys[j]? =some y)(h:r x y=false):false=lF r xs ys:=by
 unfold lF;have:((xs.zip ys).all λp=>r p.1 p.2)=false:=by
  rw[List.all_eq_false];exact⟨(x,y),ju.2 ⟨j,List.getElem?_zip_eq_some.2 ⟨hx,hy⟩⟩,by simp[h]⟩
 rw[this,Bool.and_false]
theorem nKe(hl:¬xs.length=ys.length):false=lF r xs ys:=by unfold lF;rw[decide_eq_false hl];rfl
end
def Jq (x:Bx) (p:Int×Int):Bool:=decide (x.node=p.2)&&decide (x.level=p.1)
def Wt (x:We) (y:Ch):Bool:=decide (x.dev=y.dev)
theorem R5(x:Bx)(p:Int×Int)(w:World):Calls prog 150 #[.agg (tM x),.agg (RP p)] w (aU w (.bool (Jq x p))):=by
 refine eN func150 ntmps150 ?_;refine cK 2 ?_;intro b2 w2 dz bY ft J dH;refine yX ?_;intro b3 w3 dE da gi eO fw;refine B 11 ?_;refine ni (t:=10) rfl (λav=>?_) (λav=>?_)
 ·exact zPh
 exact zPh
theorem R6(x:We)(y:Ch)(w:World):Calls prog 151 #[.agg (vg x),.agg (gM y)] w (aU w (.bool (Wt x y))):=by
 refine eN func151 ntmps151 ?_;refine cK 2 ?_;intro b2 w2 dz bY ft J dH;refine yX ?_;intro b3 w3 dE da gi eO fw;refine B 14 ?_;refine aL results151 rfl A2 ?_;rfl
theorem ZM(xs:List Bx)(hxl:xs.length<=1000000)(N:Nat)(a:Option Addr)(cp:Nat)(w:World)(hN:N<=w.heap.size)(aI:ai tM 4 N w a xs)(ys:List (Int×Int))(a2:Option Addr)(Y9:Nat)(Fk:ai RP 4 N w a2 ys):Calls prog 152 #[.slice a xs.length cp,.slice a2 ys.length Y9,.func (.func 150) #[] #[]] w (aU w (.bool (lF Jq xs ys))):=by
 refine eN func152 ntmps152 ?_;refine aG 15 ?_ ?_
 ·intro av;refine B 7 ?_;refine aL results152 rfl A0 ?_;exact Wu
 intro av;refine B 11 ?_;refine CJ.lp (α:=Nat) [1,2,15,16] (λj=>[(17,ab (j:Int))]) (λj=>[]) (λj=>j<=xs.length/\Cr Jq xs ys j) (λj=>xs.length-j) 0 ⟨cO _,λi x y hi=>absurd hi aa⟩ ?_;rintro j ⟨hj,dR⟩;refine aG 6 ?_ ?_
 ·intro aS;refine B 5 ?_;obtain⟨bo,oo,J,to,fg,rfl,fh,bX,aR⟩:=aI.get aa;obtain⟨x,hx⟩:=ng xs j aa;refine aF 3 (.agg (tM x)) ?_;refine bM 1 ?_;intro b8 C4 Jb;refine B 5 ?_;obtain⟨bp,op,Za,tp,Zb,rfl,AM,RF,zl⟩:=Fk.get aa;obtain⟨y,hy⟩:=ng ys j aa;refine aF 4 (.agg (RP y)) ?_;refine bM 1 ?_;intro b9 xP uh;refine B 8 ?_;refine C3 (f:=150) (cap:=[]) rfl call150 rfl rfl rfl (λW hS=>R5 x y W) ?_;refine aG 3 ?_ ?_
  ·intro dh;refine B 11 ?_;refine cA (.inl rfl) results152 bD A0 zA ?_;exact Wu
  exact zmi
 intro aS;refine B 11 ?_;refine aL results152 rfl A0 ?_;exact Wu
theorem nwd(xs:List We)(hxl:xs.length<=1000000)(N:Nat)(a:Option Addr)(cp:Nat)(w:World)(hN:N<=w.heap.size)(aI:ai vg 3 N w a xs)(ys:List Ch)(a2:Option Addr)(Y9:Nat)(Fk:ai gM 5 N w a2 ys):Calls prog 153 #[.slice a xs.length cp,.slice a2 ys.length Y9,.func (.func 151) #[] #[]] w (aU w (.bool (lF Wt xs ys))):=by
 refine eN func153 ntmps153 ?_;refine aG 15 ?_ ?_
 ·intro av;refine B 7 ?_;refine aL results153 rfl A0 ?_;exact Wu
 intro av;refine B 11 ?_;refine CJ.lp (α:=Nat) [1,2,15,16] (λj=>[(17,ab (j:Int))]) (λj=>[]) (λj=>j<=xs.length/\Cr Wt xs ys j) (λj=>xs.length-j) 0 ⟨cO _,λi x y hi=>absurd hi aa⟩ ?_;rintro j ⟨hj,dR⟩;refine aG 6 ?_ ?_
 ·intro aS;refine B 5 ?_;obtain⟨bo,oo,J,to,fg,rfl,fh,bX,aR⟩:=aI.get aa;obtain⟨x,hx⟩:=ng xs j aa;refine aF 3 (.agg (vg x)) ?_;refine bM 1 ?_;intro b8 C4 Jb;refine B 5 ?_;obtain⟨bp,op,Za,tp,Zb,rfl,AM,RF,zl⟩:=Fk.get aa;obtain⟨y,hy⟩:=ng ys j aa;refine aF 4 (.agg (gM y)) ?_;refine bM 1 ?_;intro b9 xP uh;refine B 8 ?_;refine C3 (f:=151) (cap:=[]) rfl call151 rfl rfl rfl (λW hS=>R6 x y W) ?_;refine aG 3 ?_ ?_
  ·intro dh;refine B 11 ?_;refine cA (.inl rfl) results153 bD A0 zA ?_;exact Wu
  exact zmi
 intro aS;refine B 11 ?_;refine aL results153 rfl A0 ?_;exact Wu
def rZ (au:Int) (x:Ch):Bool:=decide (x.kind=2\/x.dev=au)
def gP (l:List Ch) (x:Mb):Bool:=l.any λy=>decide (y.dev=x.dev)
theorem nHp(au:Int)(b:Nat)(x:Ch)(w:World)(hb1:w.heap[b]? =some (oC #[ab au] 3)):Calls prog 212 #[.agg (gM x),ptr b 0] w (aU w (.bool (rZ au x))):=by
 have cN:¬Gh.no.X b:=λh=>h;have J:=(bB.1 hb1).1;refine eN func212 ntmps212 ?_;refine cK 2 ?_;intro b2 w2 dz bY ft dL dH;refine B 9 ?_;refine ni (t:=7) rfl (λav=>?_) (λav=>?_)
 ·exact zAh
 exact zAh
theorem Lq(y:Ch)(b:Nat)(x:Mb)(w:World)(hb1:w.heap[b]? =some (oC (qH x) 131)):Calls prog 157 #[.agg (gM y),ptr b 0] w (aU w (.bool (decide (y.dev=x.dev)))):=by
 have cN:¬Gh.no.X b:=λh=>h;have J:=(bB.1 hb1).1;refine eN func157 ntmps157 ?_;refine cK 2 ?_;intro b2 w2 dz bY ft dL dH;refine B 14 ?_;refine aL results157 rfl A1 ?_;rfl
theorem R7(c:Cm)(qj:qg c)(N:Nat)(b:Nat)(x:Mb)(w:World)(hN:N<=w.heap.size)(hC:dC N w c)(hb1:w.heap[b]? =some (oC (cP c) 61)):Calls prog 155 #[.agg (qH x),ptr b 0] w (aU w (.bool (gP c.chs x))):=by
 have cN:¬Gh.no.X b:=λh=>h;have J:=(bB.1 hb1).1;have AT:=qj.chs;refine eN func155 ntmps155 ?_;refine cK 2 ?_;intro b2 w2 dz bY ft dL dH;refine aF 6 (.slice c.ca c.chs.length c.cc) ?_;refine B 1 ?_;refine call call156 rfl rfl rfl (λW hS=>nGd (λy=>decide (y.dev=x.dev)) 157 [ptr b2 0] call157 c.chs aa N c.ca c.cc W cR (hC.chs.up (aj _) hS.sm) (λj y hy W2 hB=>Lq y b2 x W2 (by have h2:=(hS.links w2 A0).size;rw[hB.block b2 aa];exact hS.old A0 dz bY trivial))) ?_;refine B 4 ?_;refine aL results155 rfl A1 ?_;rfl
theorem R8:jM prog 54 99 5:=⟨underlying54,Tryz.t99,.agg #[ab 0,ab 0,ab 0,ab 0,ab 0],K5,rfl,rfl,rfl,by decide⟩
theorem FD:jM prog 48 131 3:=⟨underlying48,Tryz.t131,.agg #[ab 0,ab 0,ab 0],K4,rfl,rfl,rfl,by decide⟩
theorem nKm(n c:Nat)(w:World):Calls prog 138 #[.slice none n c] w (aD w oA 5 99 ([]:List Ch) id):=by
 refine ei 9 func138 ntmps138 ?_;refine rr cD (vq underlying54 rfl rfl) ?_;refine B 10 ?_;exact nQ (H0:=[]) (H1:=[]) (r:=.nil) (.inl rfl) results138 bD A0 trivial rfl rfl True.intro rfl
theorem ndl(xs:List Ch)(hxl:xs.length<=100000)(N:Nat)(q:Addr)(cp:Nat)(w:World)(hN:N<=w.heap.size)(aI:ai gM 5 N w (some q) xs):Calls prog 138 #[.slice (some q) xs.length cp] w (aD w oA 5 99 xs id):=by
 refine ei 9 func138 ntmps138 ?_;refine rr bH (vr underlying54 rfl rfl) ?_;refine B 7 ?_;refine kp underlying54 sizeOf99 zeroValue99 rfl rfl rfl rfl rfl rfl rfl ?_;refine yW ?_;intro b5 tr tu;refine B 1 ?_;refine apR (xs:=([]:List Ch)) (zs:=xs) (enc:=oA) (m:=5) (H0:=[]) (H1:=[]) (sp:=[]) (by rfl) R8 Cl rfl rfl rfl rfl (ck.sl Cl nnk underlying54 A0 aI (λb hb=>⟨λh=>h,by simp only[bN,and_true];omega⟩)) ⟨aj _,rfl⟩ (.inr zB) mZ ?_;intro b7 Dm ZN um J;have FE:w.heap.size<=b7:=by rcases um with h|h;(omega);exact h.not A0
 rw[eY]at J ⊢;refine B 4 ?_;exact nQ (H0:=[]) (H1:=[]) (r:=.row b7 Dm ZN) (.inl rfl) results138 bD A0 (by simp only[eY,Over,and_true];omega) rfl J FE (by rfl)
theorem nul(xs:List Ch)(hxl:xs.length<=100000)(N:Nat)(a:Option Addr)(cp:Nat)(w:World)(hN:N<=w.heap.size)(aI:ai gM 5 N w a xs):Calls prog 138 #[.slice a xs.length cp] w (aD w oA 5 99 xs id):=by
 cases a with
 |none=>
  have h0:xs=[]:=by rcases aI with h|⟨b,off,cs,t,fr,h,_⟩;(exact h);cases h
  subst h0;exact nKm 0 cp w
 |some q=>exact ndl xs hxl N q cp w hN aI
theorem nGm(n c:Nat)(w:World):Calls prog 159 #[.slice none n c] w (aD w pe 3 131 ([]:List Mb) id):=by
 refine ei 9 func159 ntmps159 ?_;refine rr cD (vq underlying48 rfl rfl) ?_;refine B 10 ?_;exact nQ (H0:=[]) (H1:=[]) (r:=.nil) (.inl rfl) results159 bD A0 trivial rfl rfl True.intro rfl
theorem nal(xs:List Mb)(hxl:xs.length<=100000)(N:Nat)(q:Addr)(cp:Nat)(w:World)(hN:N<=w.heap.size)(aI:ai qH 3 N w (some q) xs):Calls prog 159 #[.slice (some q) xs.length cp] w (aD w pe 3 131 xs id):=by
 refine ei 9 func159 ntmps159 ?_;refine rr bH (vr underlying48 rfl rfl) ?_;refine B 7 ?_;refine kp underlying48 sizeOf131 zeroValue131 rfl rfl rfl rfl rfl rfl rfl ?_;refine yW ?_;intro b5 tr tu;refine B 1 ?_;refine apR (xs:=([]:List Mb)) (zs:=xs) (enc:=pe) (m:=3) (H0:=[]) (H1:=[]) (sp:=[]) (by rfl) FD Ck rfl rfl rfl rfl (ck.sl Ck nRh underlying48 A0 aI (λb hb=>⟨λh=>h,by simp only[bN,and_true];omega⟩)) ⟨aj _,rfl⟩ (.inr zB) mZ ?_;intro b7 Dm ZN um J;have FE:w.heap.size<=b7:=by rcases um with h|h;(omega);exact h.not A0
 rw[eY]at J ⊢;refine B 4 ?_;exact nQ (H0:=[]) (H1:=[]) (r:=.row b7 Dm ZN) (.inl rfl) results159 bD A0 (by simp only[eY,Over,and_true];omega) rfl J FE (by rfl)
theorem FF(xs:List Mb)(hxl:xs.length<=100000)(N:Nat)(a:Option Addr)(cp:Nat)(w:World)(hN:N<=w.heap.size)(aI:ai qH 3 N w a xs):Calls prog 159 #[.slice a xs.length cp] w (aD w pe 3 131 xs id):=by
 cases a with
 |none=>
  have h0:xs=[]:=by rcases aI with h|⟨b,off,cs,t,fr,h,_⟩;(exact h);cases h
  subst h0;exact nGm 0 cp w
 |some q=>exact nal xs hxl N q cp w hN aI
section
variable {α:Type}{p:α->Bool}{xs:List α}
include α p
theorem nPg(h:gE p xs k):(xs.take k).filter (λx=> !p x)=xs.take k:=by
 rw[List.filter_eq_self];intro x hx;obtain⟨i,hi⟩:=ju.1 hx;have hl:=nq hi;rw[kU]at hl;rw[R0 aa]at hi;simp[h i x aa hi]
theorem Lr(h:xs.any p=false):xs.filter (λx=> !p x)=xs:=by simp_all
theorem R9{x:α}(hx:xs[j]? =some x):(xs.take (j+1)).filter (λx=> !p x)=(xs.take j).filter (λx=> !p x)++(if p x=true then[]else[x]):=by
 rw[np hx,List.filter_append];congr 1;cases h:p x<;>simp[h]
end
theorem Sa{α:Type}{enc:α->List Value}{m:Nat}{cur:List α}{x:α}(hm:∀x,(enc x).length=m)(hx:cur[j]? =some x):cut (iE enc cur++sp).toArray (0+((j:Int)).toNat*m) m=(enc x).toArray:=by grind [cut,ZO]
theorem Sb{α:Type}{enc:α->List Value}{m:Nat}{cur:List α}(hm:∀x,(enc x).length=m)(hj:j<cur.length):0+((j:Int)).toNat*m+m<=(iE enc cur++sp).toArray.size:=by
 have h2:(j+1)*m<=cur.length*m:=wh _ hj;all_goals grind [sP]
theorem FG:∀l:List Value,(∀u∈l,yN u=true)->bG l=true:=
 by intro x;induction x<;>(intros;grind [bG])
theorem FH:∀{l:List Value},bG l=true->∀u∈l,yN u=true:=
 by intro x;induction x<;>(intros;grind [bG])
theorem nuf{zs:Array Value}(h:bG zs.toList=true)(n:Nat):bG (Builtin.zeroCells zs n).toList=true:=by
 refine FG _ λu hu=>?_;simp only[Builtin.zeroCells,Array.toList_map,bU]at hu;obtain⟨i,hi,rfl⟩:=hu;have J:i<n*zs.size:=by simpa using hi
 have hp:0<zs.size:=by
  rcases Nat.eq_zero_or_pos zs.size with h0|h0
  ·rw[h0]at J;omega
  exact h0
 have hlt:i%zs.size<zs.size:=Nat.mod_lt _ hp;all_goals grind [FH]
theorem FI{W2:World}(h1:aT (· =b) w W)(h2:Below W.heap.size W W2):aT (· =b) w W2:=h1.trans (aT.of_below h2)
theorem nad{α:Type}{cur:List α}{x:α}(h:i<cur.length):(cur.set i x).take (i+1)=cur.take i++[x]:=by
 have h1:(cur.set i x)[i]? =some x:=by simp[h]
 rw[np h1,List.take_set_of_le (aj i)]
theorem n3d{α:Type}{cur:List α}{x:α}(h:i<j):(cur.set i x).drop j=cur.drop j:=List.drop_set_of_lt h
theorem ZP{α:Type}{cur xs:List α}{x:α}(h:cur.drop j=xs.drop j)(hx:xs[j]? =some x):cur[j]? =some x/\cur.drop (j+1)=xs.drop (j+1):=by
 have h1:(cur.drop j)[0]? =(xs.drop j)[0]? :=by rw[h]
 rw[R1,R1,Nat.add_zero,hx]at h1;refine⟨h1,?_⟩;have:=congrArg (List.drop 1) h;rwa[Wz,Wz]at this
theorem n7k(p:Ch->Bool)(f:Nat)(cap:List Value)(aB:eV prog f)(xs:List Ch)(hxl:xs.length<=100000)(b cp:Nat)(sp:List Value)(w:World)(hb:w.heap[b]? =some (bj oA 99 xs sp))(J:(Rw.row b cp sp).Fit 5 xs)(hp:∀(j:Nat) (x:Ch),xs[j]? =some x->∀W,aT (· =b) w W->b<W.heap.size->Calls prog f (.agg (gM x)::cap).toArray W (aU W (.bool (p x)))):Calls prog 211 #[.slice (ao b) xs.length cp,.func (.func f) #[] cap.toArray] w (λe w'=>∃bZ,e= .returned ((λr=>r.val (xs.filter (λx=> !p x)).length) (Rw.row b cp bZ))/\aT (· =b) w w'/\(Rw.row b cp bZ).Fit 5 (xs.filter (λx=> !p x))/\w'.heap[b]? =some (bj oA 99 (xs.filter (λx=> !p x)) bZ)):=by
 have iL:=J.1;have eP:=J.2;have jq:=(bB.1 hb).1;refine nB (Gh.lent (· =b)) [(b,bj oA 99 xs sp)] (vs:=[_,_]) func211 rfl ntmps211 rfl (Eo hb) ?_;refine B 9 ?_;refine ny (α:=Int) (v:=λi:Int=>ab i) (Φ:=λ_ i _=>fE p xs i) call225 rfl rfl rfl (λW hS=>?_) ?_
 ·have zV:=hS.own (b,_) A0;have jP:ai gM 5 W.heap.size W (ao b) xs:=by
   obtain⟨a9,c9,e9,h9⟩:=(Rw.row b cp sp).sl (enc:=oA) (t:=99) (N:=W.heap.size) (w:=W) Cl J zV (aj _);exact zHh
  exact nZe p f cap aB xs aa W.heap.size (ao b) cp W (aj _) jP (λj x hx W2 hB=>hp j x hx W2 (FI ((hS.links w A0).mono (λk _ hk=>by rcases hk with hk|hk;(exact hk);(simp only[dP,fu,dA,eh,cd,dZ,or_false]at hk;first|exact hk|(rcases hk with hk|hk;(exfalso;omega);exact hk)))) hB) (by have:=(bB.1 zV).1;have:=hB.size;omega))
 intro Wi i wi Fi Fj hi;have bh:=Fi.lt (b,_) A0;have bu:=Fj.size;refine B 5 ?_;rcases hi with⟨rfl,r7⟩|⟨k,x0,rfl,tF,WA,sR⟩
 ·refine B 2 ?_;refine Jr ?_;exact bS (.inl rfl) results211 bD λW hS=>⟨sp,by rw[Lr r7];rfl,hS.baseX A1 OH,by rw[Lr r7];exact J,by rw[Lr r7];exact hS.own _ A0⟩
 refine B 2 ?_;refine wX ?_;have sQ:=nq tF;refine B 7 ?_;refine CJ.loop (α:=(Nat×List Ch)×Nat) (λp9=>[(0,.slice (ao b) xs.length cp),(1,.func (.func f) #[] cap.toArray),(5,ab (p9.1.1:Int)),(6,ab (p9.2:Int))]) (λp9=>[(b,bj oA 99 p9.1.2 sp)]) (λp9=>[w]) (λp9=>Gh.lent (· =b)) (λp9=>p9.1.1<p9.2/\p9.2<=xs.length/\p9.1.2.length=xs.length/\p9.1.2.take p9.1.1=(xs.take p9.2).filter (λx=> !p x)/\p9.1.2.drop p9.2=xs.drop p9.2) (λp9=>xs.length-p9.2) ((k,xs),k+1) ⟨by dsimp only;omega,by dsimp only;omega,rfl,by dsimp only;rw[R9 tF,if_pos WA,nPg sR,ec],rfl⟩ zR rfl rfl zI ?_;rintro⟨⟨i2,cur⟩,j⟩ ⟨ve,tD,mB,vt,Aa⟩;dsimp only at ve tD mB vt Aa ⊢;refine aG 9 ?_ ?_
 ·intro av;refine B 5 ?_;obtain⟨x,hx⟩:=ng xs j aa;obtain⟨wj,sa⟩:=ZP Aa hx;refine B 4 ?_;refine rq (.agg (gM x)) (fO (i:=0) rfl isAgg99 sizeOf99 rfl (Sb Cl aa)) (va (Sa (sp:=sp) Cl wj)) ?_;refine bM 1 ?_;intro b7 kh vY;refine B 7 ?_;refine zDd ?_;refine aG 3 ?_ ?_
  ·intro aS;refine B 6 ?_;refine Ls (enc:=oA) (m:=5) (i:=1) (j:=i2) (z:=x) rfl Cl nnk sizeOf99 rfl rfl rfl zI aa rfl rfl ?_;exact zQg
  exact zjh
 intro av;refine B 6 ?_;have Ab:j=xs.length:=by omega
 have kC:cur.take i2=(xs.filter (λx=> !p x)):=by rw[vt,Ab,ur]
 refine B 3 ?_;refine rq (.slice (some ⟨b,if cp=i2 then 0 else 0+i2*5,none⟩) (cur.drop i2).length (cp-i2)) (gy (l:=i2) (h:=xs.length) underlying54 sizeOf99 rfl ⟨_,_,rfl,rfl⟩ rfl aa aa rfl) (by rw[Cf,mB]) ?_;refine OJ.reH (H':=[(b,bj oA 99 (cur.take i2++cur.drop i2) sp)]) (by rw[Ba]) ?_;refine Bb (i:=0) rfl Cl underlying54 zeroValue99 rfl (nuf rfl _) rfl rfl zqb ?_;intro Sc Ac;refine B 6 ?_;refine rq (.slice (ao b) (cur.take i2).length cp) (fM (h:=i2) underlying54 sizeOf99 rfl ⟨_,_,rfl,rfl⟩ aa) WB ?_;refine B 4 ?_;exact bS (.inl rfl) results211 bD λW hS=>⟨Sc,by rw[<-kC];rfl,hS.baseX A0 OH,by rw[<-kC];exact⟨by rw[kU];omega,by rw[Ac,Cf,kU,eP,Nat.min_eq_left aa,mB,<-qL];congr 1;omega⟩,by rw[<-kC];exact hS.own _ A0⟩
theorem nhl(p:Mb->Bool)(f:Nat)(cap:List Value)(aB:eV prog f)(xs:List Mb)(hxl:xs.length<=100000)(b cp:Nat)(sp:List Value)(w:World)(hb:w.heap[b]? =some (bj pe 131 xs sp))(J:(Rw.row b cp sp).Fit 3 xs)(hp:∀(j:Nat) (x:Mb),xs[j]? =some x->∀W,aT (· =b) w W->b<W.heap.size->Calls prog f (.agg (qH x)::cap).toArray W (aU W (.bool (p x)))):Calls prog 158 #[.slice (ao b) xs.length cp,.func (.func f) #[] cap.toArray] w (λe w'=>∃bZ,e= .returned ((λr=>r.val (xs.filter (λx=> !p x)).length) (Rw.row b cp bZ))/\aT (· =b) w w'/\(Rw.row b cp bZ).Fit 3 (xs.filter (λx=> !p x))/\w'.heap[b]? =some (bj pe 131 (xs.filter (λx=> !p x)) bZ)):=by
 have iL:=J.1;have eP:=J.2;have jq:=(bB.1 hb).1;refine nB (Gh.lent (· =b)) [(b,bj pe 131 xs sp)] (vs:=[_,_]) func158 rfl ntmps158 rfl (Eo hb) ?_;refine B 9 ?_;refine ny (α:=Int) (v:=λi:Int=>ab i) (Φ:=λ_ i _=>fE p xs i) call118 rfl rfl rfl (λW hS=>?_) ?_
 ·have zV:=hS.own (b,_) A0;have jP:ai qH 3 W.heap.size W (ao b) xs:=by
   obtain⟨a9,c9,e9,h9⟩:=(Rw.row b cp sp).sl (enc:=pe) (t:=131) (N:=W.heap.size) (w:=W) Ck J zV (aj _);exact zHh
  exact nyd p f cap aB xs aa W.heap.size (ao b) cp W (aj _) jP (λj x hx W2 hB=>hp j x hx W2 (FI ((hS.links w A0).mono (λk _ hk=>by rcases hk with hk|hk;(exact hk);(simp only[dP,fu,dA,eh,cd,dZ,or_false]at hk;first|exact hk|(rcases hk with hk|hk;(exfalso;omega);exact hk)))) hB) (by have:=(bB.1 zV).1;have:=hB.size;omega))
 intro Wi i wi Fi Fj hi;have bh:=Fi.lt (b,_) A0;have bu:=Fj.size;refine B 5 ?_;rcases hi with⟨rfl,r7⟩|⟨k,x0,rfl,tF,WA,sR⟩
 ·refine B 2 ?_;refine Jr ?_;exact bS (.inl rfl) results158 bD λW hS=>⟨sp,by rw[Lr r7];rfl,hS.baseX A1 OH,by rw[Lr r7];exact J,by rw[Lr r7];exact hS.own _ A0⟩
 refine B 2 ?_;refine wX ?_;have sQ:=nq tF;refine B 7 ?_;refine CJ.loop (α:=(Nat×List Mb)×Nat) (λp9=>[(0,.slice (ao b) xs.length cp),(1,.func (.func f) #[] cap.toArray),(5,ab (p9.1.1:Int)),(6,ab (p9.2:Int))]) (λp9=>[(b,bj pe 131 p9.1.2 sp)]) (λp9=>[w]) (λp9=>Gh.lent (· =b)) (λp9=>p9.1.1<p9.2/\p9.2<=xs.length/\p9.1.2.length=xs.length/\p9.1.2.take p9.1.1=(xs.take p9.2).filter (λx=> !p x)/\p9.1.2.drop p9.2=xs.drop p9.2) (λp9=>xs.length-p9.2) ((k,xs),k+1) ⟨by dsimp only;omega,by dsimp only;omega,rfl,by dsimp only;rw[R9 tF,if_pos WA,nPg sR,ec],rfl⟩ zR rfl rfl zI ?_;rintro⟨⟨i2,cur⟩,j⟩ ⟨ve,tD,mB,vt,Aa⟩;dsimp only at ve tD mB vt Aa ⊢;refine aG 9 ?_ ?_
 ·intro av;refine B 5 ?_;obtain⟨x,hx⟩:=ng xs j aa;obtain⟨wj,sa⟩:=ZP Aa hx;refine B 4 ?_;refine rq (.agg (qH x)) (fO (i:=0) rfl isAgg131 sizeOf131 rfl (Sb Ck aa)) (va (Sa (sp:=sp) Ck wj)) ?_;refine bM 1 ?_;intro b7 kh vY;refine B 7 ?_;refine zDd ?_;refine aG 3 ?_ ?_
  ·intro aS;refine B 6 ?_;refine Ls (enc:=pe) (m:=3) (i:=1) (j:=i2) (z:=x) rfl Ck nRh sizeOf131 rfl rfl rfl zI aa rfl rfl ?_;exact zQg
  exact zjh
 intro av;refine B 6 ?_;have Ab:j=xs.length:=by omega
 have kC:cur.take i2=(xs.filter (λx=> !p x)):=by rw[vt,Ab,ur]
 refine B 3 ?_;refine rq (.slice (some ⟨b,if cp=i2 then 0 else 0+i2*3,none⟩) (cur.drop i2).length (cp-i2)) (gy (l:=i2) (h:=xs.length) underlying48 sizeOf131 rfl ⟨_,_,rfl,rfl⟩ rfl aa aa rfl) (by rw[Cf,mB]) ?_;refine OJ.reH (H':=[(b,bj pe 131 (cur.take i2++cur.drop i2) sp)]) (by rw[Ba]) ?_;refine Bb (i:=0) rfl Ck underlying48 zeroValue131 rfl (nuf rfl _) rfl rfl zqb ?_;intro Sc Ac;refine B 6 ?_;refine rq (.slice (ao b) (cur.take i2).length cp) (fM (h:=i2) underlying48 sizeOf131 rfl ⟨_,_,rfl,rfl⟩ aa) WB ?_;refine B 4 ?_;exact bS (.inl rfl) results158 bD λW hS=>⟨Sc,by rw[<-kC];rfl,hS.baseX A0 OH,by rw[<-kC];exact⟨by rw[kU];omega,by rw[Ac,Cf,kU,eP,Nat.min_eq_left aa,mB,<-qL];congr 1;omega⟩,by rw[<-kC];exact hS.own _ A0⟩
section
open Go.Proofs Go.Shelf Go.Lib Go.Sort
theorem Lt(a:Int)(W:World):Calls prog 169 #[ab a] W λe w'=>e= .returned (bH)/\w'=W:=by
 go_enter func169,ntmps169
 go_wp2
 go_ret
 simp
theorem Bc(a b:Int)(W:World):Calls prog 103 #[ab a,ab b] W λe w'=>e= .returned (ab (dy a b))/\w'=W:=by
 have key:∀v:Int,v=dy a b->ab v=ab (dy a b):=λv h=>by rw[h]
 go_enter func103,ntmps103
 go_wp2_with (go_at_call 169;refine(Lt _ _).mono ?_;rintro e w' ⟨rfl,rfl⟩)
 all_goals go_ret
 all_goals exact⟨congrArg Ending.returned (key _ (by unfold dy;(repeat' split)<;>omega)),rfl⟩
theorem aja(x y:Ch)(W:World):Calls prog 214 #[.agg (oA x).toArray,.agg (oA y).toArray] W λe w'=>e= .returned (ab (dy x.dev y.dev))/\∃q Ad,w'=grow (W.drewN q) Ad:=by
 have J:=λW'=>Bc x.dev y.dev W';generalize dy x.dev y.dev=r at J ⊢;unfold oA
 go_enter func214,ntmps214
 go_wp2_with (go_at_call 103;refine(J _).mono ?_;rintro e w' ⟨rfl,rfl⟩)
 go_ret
 exact zkh
theorem ajb(x y:Mb)(W:World):Calls prog 161 #[.agg (pe x).toArray,.agg (pe y).toArray] W λe w'=>e= .returned (ab (dy x.dev y.dev))/\∃q Ad,w'=grow (W.drewN q) Ad:=by
 have J:=λW'=>Bc x.dev y.dev W';generalize dy x.dev y.dev=r at J ⊢;unfold pe
 go_enter func161,ntmps161
 go_wp2_with (go_at_call 103;refine(J _).mono ?_;rintro e w' ⟨rfl,rfl⟩)
 go_ret
 exact zkh
instance:Inhabited Ch:=⟨⟨0,0,0,0,0⟩⟩
instance:Inhabited Mb:=⟨⟨0,0,0⟩⟩
def gY {α:Type} [Inhabited α] (cf:α->α->Int) (xs:List α):List α:=(pdq (ltOf cf) xs.toArray 0 xs.toArray.size (Lib.bitLen xs.toArray.size) true true).toList
theorem nLh{α:Type}(k:α->Int):SWO (ltOf λx y:α=>dy (k x) (k y)):=by
 refine⟨λx=>?_,λx y z h1 h2=>?_,λx y z h1 h2=>?_⟩<;>simp only[ltOf,nwj,decide_eq_true_eq,decide_eq_false_iff_not]at* <;>omega
theorem ndo{α:Type}(q:Array α)(n:Nat)(h:q.size=n):q.extract 0 n=q:=by subst h;simp
theorem WC{α:Type}[Inhabited α]{cf:α->α->Int}(hO:SWO (ltOf cf))(xs:List α):(gY cf xs).Perm xs:=by
 have h:=(pdq_sorts (ltOf cf) hO xs.toArray 0 xs.toArray.size (Lib.bitLen xs.toArray.size) true true (cO _) (aj _) (Or.inl rfl)).1;obtain⟨h1,_,h3⟩:=h;rw[ndo _ _ h1,ndo _ _ rfl]at h3;exact h3
theorem O1{α:Type}[Inhabited α]{cf:α->α->Int}(hO:SWO (ltOf cf))(xs:List α):(gY cf xs).length=xs.length:=(WC hO xs).length_eq
end
abbrev Cs (xs:List Ch):List Ch:=gY (λx y=>dy x.dev y.dev) xs
abbrev se (xs:List Mb):List Mb:=gY (λx y=>dy x.dev y.dev) xs
theorem nmg(xs:List Ch):(Cs xs).length=xs.length:=O1 (nLh (λx:Ch=>x.dev)) xs
theorem ZQ(xs:List Mb):(se xs).length=xs.length:=O1 (nLh (λx:Mb=>x.dev)) xs
theorem ZR{xs:List Ch}(hl:xs.length<=1000000){cap:Nat}(bQ:(Rw.row b cap sp).Fit 5 xs)(h:W.heap[b]? =some (bj oA 99 xs sp)):Calls prog 213 #[.slice (ao b) xs.length cap,.func (.func 214) #[] #[]] W (λe w'=>∃J,e= .returned ((λ_=>.tuple #[]) (Rw.row b cap J))/\aT (· =b) W w'/\(Rw.row b cap J).Fit 5 (Cs xs)/\w'.heap[b]? =some (bj oA 99 (Cs xs) J)):=by
 have hc:=Go.Proofs.AnyQ.slices_SortFunc_eq Go.Proofs.Tryz.laySX 5 isAgg99 sizeOf99 oA Cl nnk (λx y=>dy x.dev y.dev) (nLh (λx:Ch=>x.dev)) 214 #[] b 0 cap xs.toArray W (Go.Proofs.enters_of func214 zN rfl) (λ_ _ _ _ x y=>aja x y _) (nnj Cl h) (bB.1 h).1 mZ;change Calls prog 213 _ _ _ at hc;refine hc.mono ?_;rintro e w' ⟨rfl,n,os,rfl⟩;have hp:=ZS (n:=n) (os:=os) Cl h (ys:=Cs xs) (nmg xs);exact⟨sp,rfl,hp.1,by simp only[Rw.Fit,nmg];exact bQ,hp.2⟩
theorem ZT(hl:xs.length<=1000000){cap:Nat}(bQ:(Rw.row b cap sp).Fit 3 xs)(h:W.heap[b]? =some (bj pe 131 xs sp)):Calls prog 160 #[.slice (ao b) xs.length cap,.func (.func 161) #[] #[]] W (λe w'=>∃J,e= .returned ((λ_=>.tuple #[]) (Rw.row b cap J))/\aT (· =b) W w'/\(Rw.row b cap J).Fit 3 (se xs)/\w'.heap[b]? =some (bj pe 131 (se xs) J)):=by
 have hc:=Go.Proofs.AnyQ.slices_SortFunc_eq Go.Proofs.Tryz.laySM 3 isAgg131 sizeOf131 pe Ck nRh (λx y=>dy x.dev y.dev) (nLh (λx:Mb=>x.dev)) 161 #[] b 0 cap xs.toArray W (Go.Proofs.enters_of func161 zN rfl) (λ_ _ _ _ x y=>ajb x y _) (nnj Ck h) (bB.1 h).1 mZ;change Calls prog 160 _ _ _ at hc;refine hc.mono ?_;rintro e w' ⟨rfl,n,os,rfl⟩;have hp:=ZS (n:=n) (os:=os) Ck h (ys:=se xs) (ZQ xs);exact⟨sp,rfl,hp.1,by simp only[Rw.Fit,ZQ];exact bQ,hp.2⟩
theorem n2h(f:Nat)(cap:List Value)(aB:eV prog f)(w:World):Calls prog 211 #[ak,.func (.func f) #[] cap.toArray] w (aU w (ak)):=by
 refine ei 9 func211 ntmps211 ?_;refine ny (α:=Int) (v:=λi:Int=>ab i) (Φ:=λ_ i _=>fE (λ_:Ch=>false) [] i) call225 rfl rfl rfl (λW hS=>nZe (λ_=>false) f cap aB [] zI W.heap.size none 0 W (aj _) (.inl rfl) (λj x hx=>by simp at hx)) ?_;intro Wi i wi J Fj hi;have qB:i= -1:=by rcases hi with⟨h,_⟩|⟨k,x,_,hx,_⟩;(exact h);simp at hx
 subst qB;refine B 7 ?_;refine Jr ?_;refine aL results211 rfl A1 ?_;rfl
theorem ncl(w:World):Calls prog 312 #[ak,ab 0,ab 0,.func (.func 214) #[] #[]] w (aU w (.tuple #[])):=by
 refine ei 8 func312 ntmps312 ?_;refine zGd ?_;rintro j _;refine B 5 ?_;refine wX ?_;exact cA (.inr rfl) results312 bD A0 trivial rfl
theorem nZo(l:Int)(w:World):Calls prog 273 #[ak,ab 0,ab 0,ab l,.func (.func 214) #[] #[]] w (aU w (.tuple #[])):=by
 refine ei 11 func273 ntmps273 ?_;refine zHd ?_;rintro j _;refine QK ?_;refine B 9 ?_;refine call call312 rfl rfl rfl (λW hS=>ncl W) ?_;refine B 7 ?_;exact cA (.inl rfl) results273 bD A0 trivial rfl
theorem nin(w:World):Calls prog 213 #[ak,.func (.func 214) #[] #[]] w (aU w (.tuple #[])):=by
 refine eN func213 ntmps213 ?_;refine z0f ?_;refine call call273 rfl rfl rfl (λW hS=>nZo _ W) ?_;refine B 1 ?_;exact cA (.inr rfl) results213 bD A0 trivial rfl
theorem n0h(f:Nat)(cap:List Value)(aB:eV prog f)(w:World):Calls prog 158 #[ak,.func (.func f) #[] cap.toArray] w (aU w (ak)):=by
 refine ei 9 func158 ntmps158 ?_;refine ny (α:=Int) (v:=λi:Int=>ab i) (Φ:=λ_ i _=>fE (λ_:Mb=>false) [] i) call118 rfl rfl rfl (λW hS=>nyd (λ_=>false) f cap aB [] zI W.heap.size none 0 W (aj _) (.inl rfl) (λj x hx=>by simp at hx)) ?_;intro Wi i wi J Fj hi;have qB:i= -1:=by rcases hi with⟨h,_⟩|⟨k,x,_,hx,_⟩;(exact h);simp at hx
 subst qB;refine B 7 ?_;refine Jr ?_;refine aL results158 rfl A1 ?_;rfl
theorem n8k(w:World):Calls prog 276 #[ak,ab 0,ab 0,.func (.func 161) #[] #[]] w (aU w (.tuple #[])):=by
 refine ei 8 func276 ntmps276 ?_;refine zGd ?_;rintro j _;refine B 5 ?_;refine wX ?_;exact cA (.inr rfl) results276 bD A0 trivial rfl
theorem nfp(l:Int)(w:World):Calls prog 226 #[ak,ab 0,ab 0,ab l,.func (.func 161) #[] #[]] w (aU w (.tuple #[])):=by
 refine ei 11 func226 ntmps226 ?_;refine zHd ?_;rintro j _;refine QK ?_;refine B 9 ?_;refine call call276 rfl rfl rfl (λW hS=>n8k W) ?_;refine B 7 ?_;exact cA (.inl rfl) results226 bD A0 trivial rfl
theorem nnn(w:World):Calls prog 160 #[ak,.func (.func 161) #[] #[]] w (aU w (.tuple #[])):=by
 refine eN func160 ntmps160 ?_;refine z0f ?_;refine call call226 rfl rfl rfl (λW hS=>nfp _ W) ?_;refine B 1 ?_;exact cA (.inr rfl) results160 bD A0 trivial rfl
theorem ntm:Cs []=[]:=mF (nmg [])
theorem FJ:se []=[]:=mF (ZQ [])
def oH (au:Int) (l:List Ch):List Ch:=Cs (l.filter λx=> !rZ au x)
theorem n7b(au:Int)(l:List Ch)(hxl:l.length<=100000)(N:Nat)(a:Option Addr)(cp:Nat)(w:World)(hN:N<=w.heap.size)(aI:ai gM 5 N w a l):Calls prog 144 #[ab au,.slice a l.length cp] w (aD w oA 5 99 (oH au l) id):=by
 refine eN func144 ntmps144 ?_;refine cK 2 ?_;intro b2 w2 dz bY ft dL dH;refine B 6 ?_;refine Jh (enc:=oA) (m:=5) (t:=99) (xs:=l) (v:=id) (first:=[]) (cap:=[]) rfl call138 rfl rfl rfl (λW hS=>nul l hxl N a cp W cR (aI.up (aj _) hS.sm)) ?_;intro r aK ae;have bK:=Rw.ge_of aK A1;refine B 1 ?_;refine EU (r:=r) (enc:=oA) (m:=5) (t:=99) (xs:=l) (ys:=l.filter λx=> !rZ au x) (H0:=[]) (H1:=[]) (v:=λr=>r.val (l.filter λx=> !rZ au x).length) rfl call211 rfl rfl rfl (λhr W hS=>?_) (λb cap sp hr W hS h=>?_) ?_
 ·subst hr;have h0:l=[]:=ae;subst h0;exact(n2h 212 [ptr b2 0] call212 W).mono λe w2 h=>⟨h.1,rfl,h.2⟩
 ·subst hr;have a8:w2.heap.size<=b:=(aK.elim (λh=>h.elim) id:ah _ b).not (w:=w2) A0;exact n7k (rZ au) 212 [ptr b2 0] call212 l aa b cap sp W h ae (λj x hx W2 hK az=>nHp au b2 x W2 (by have h2:=(hS.links w2 A0).size;rw[hK.block b2 aa aa];exact hS.old A0 dz bY zy))
 intro r2 eP lW rQ kz;have gO:=lW aK;have eE:=rQ _ bK;refine B 6 ?_;refine EU (r:=r2) (enc:=oA) (m:=5) (t:=99) (xs:=l.filter λx=> !rZ au x) (ys:=oH au l) (H0:=[]) (H1:=[]) (v:=λ_=>.tuple #[]) rfl call213 rfl rfl rfl (λhr W hS=>?_) (λb cap sp hr W hS h=>?_) ?_
 ·subst hr;have h0:(l.filter λx=> !rZ au x)=[]:=eP;unfold oH;rw[h0];exact(nin W).mono λe w2 h=>⟨h.1,ntm,h.2⟩
 ·subst hr;exact ZR (eB (Sd _ _) aa) eP h
 intro r3 oi u7 EV EW;have KO:=u7 gO;have J:=EV _ eE;refine B 9 ?_;have yS:(l.filter λx=> !rZ au x).length=(oH au l).length:=by unfold oH;rw[nmg]
 exact nQ (H0:=[]) (H1:=[]) (r:=r3) (.inl rfl) results144 bD A1 (by rw[ec];exact Rw.over J) (by show r2.val _=r3.val _;rw[EW,yS]) oi J zI
def uF:Gp:=⟨0,0,λ_=>0,[],[]⟩
def gj:Gv:=⟨uF,none,0,none,0⟩
theorem ZU(N:Nat)(w:World):cj N w gj:=⟨.inl rfl,.inl rfl,by simp[gj,uF],by simp[gj,uF]⟩
def Dx (w:World) (g:Gp) (e:Int):Ending->World->Prop:=dc w (λX:Gv=>.tuple #[.agg (bJ X),ab e]) (λX w'=>X.g=g/\cj w'.heap.size w' X/\(∀q,X.ma=some q->w.heap.size<=q.block)/\(∀q,X.na=some q->w.heap.size<=q.block))
def lG (g:Gp) (c:Cm):Bool:=decide (c.folder=g.folder)&&decide (c.epoch=g.epoch+1)&&iD c.par g.last
noncomputable def oI (ns:List Nd) (d:Int):Int:=if jF ns=0 then(if(aH (dq ns) (512+d)).isSome=true then 0 else 200)else 210
noncomputable def cx (ns:List Nd) (d:Int) (l:List Int):List Nd:=if jF ns=0/\(aH (dq ns) (512+d)).isSome=true then nU (rS (dq ns) d l)else[]
theorem nLg(ns:List Nd)(hn:ns.length<=100000)(N:Nat)(a:Option Addr)(cp:Nat)(w:World)(hN:N<=w.heap.size)(aI:ai fZ 2 N w a ns)(d:Int)(hd:di d)(l:List Int)(ow:∀y∈l,eo y)(hl:l.length<=1000)(J:Nat)(ap:Option Addr)(im:Nat)(oy:ai encI 1 J w ap l)(Dq:J<=w.heap.size)(Ru:l.length=10)(aq:ns.length<90000):Calls prog 154 #[.agg #[.slice a ns.length cp],ab d,.slice ap l.length im] w (aD w ik 2 240 (cx ns d l) (λs=>.tuple #[.agg #[s],ab (oI ns d)])):=by
 rcases nEh ns with h|h
 ·by_cases h2:(aH (dq ns) (512+d)).isSome=true
  ·have e1:cx ns d l=nU (rS (dq ns) d l):=by unfold cx;rw[if_pos ⟨h,h2⟩]
   have e2:oI ns d=0:=by unfold oI;rw[if_pos h,if_pos h2]
   rw[e1,e2];exact Fe ns hn N a cp w hN aI h d hd h2 l ow hl J ap im oy Dq Ru aq
  have e1:cx ns d l=[]:=by unfold cx;rw[if_neg λg=>h2 g.2]
  have e2:oI ns d=200:=by unfold oI;rw[if_pos h,if_neg h2]
  rw[e1,e2];exact Fc ns hn N a cp w hN aI h d hd Lb l ow hl J ap im oy Dq
 have e1:cx ns d l=[]:=by unfold cx;rw[if_neg λg=>by have:=g.1;omega]
 have e2:oI ns d=210:=by unfold oI;rw[if_neg aa]
 rw[e1,e2];exact nRp ns hn N a cp w hN aI h d l ow hl J ap im oy Dq
section
variable (hZ:FxOk Z)(G:Gv)(c:Cm)(dG:bO c)(N:Nat)(w:World)(hN:N<=w.heap.size)(hG:cj N w G)(hC:dC N w c)(hg:Glb w)
include hZ dG hN hG hC hg
theorem FK(hv:ef G.g=false):Calls prog 83 #[.agg (bJ G),.agg (cP c)] w (Dx w uF 1):=by
 refine Lu ?_;refine yV ?_;intro b2 w2 dz bY ft J dH;refine yX ?_;intro b3 w3 dE da gi eO fw;refine bM 1 ?_;intro b4 iW iX;refine aF 6 (.agg (bJ G)) ?_;refine zwe ?_;refine B 12 ?_;exact ZV
theorem FL(hv:ef G.g=true)(kD:sT c=220):Calls prog 83 #[.agg (bJ G),.agg (cP c)] w (Dx w uF 220):=by
 refine Lu ?_;refine yV ?_;intro b2 w2 dz bY ft J dH;refine yX ?_;intro b3 w3 dE da gi eO fw;refine bM 1 ?_;intro b4 iW iX;refine Zu ?_;refine aF 8 (.agg (cP c)) ?_;refine call call149 rfl rfl rfl (λW hS=>by rw[<-kD];exact nwb c dG.few N W cR (hC.up (aj _) hS.sm)) (v:=ab 220) ?_;refine aF 6 cD ?_;refine B 13 ?_;exact ZV
end
theorem Sf(hf:lG g c=false)(h1:c.folder=g.folder)(h2:c.epoch=g.epoch+1):iD c.par g.last=false:=by grind [iD,lG]
theorem WD(hf:lG g c=true):c.folder=g.folder/\c.epoch=g.epoch+1/\iD c.par g.last=true:=by grind [lG]
section
variable (hZ:FxOk Z)(G:Gv)(c:Cm)(dG:bO c)(N:Nat)(w:World)(hN:N<=w.heap.size)(hG:cj N w G)(hC:dC N w c)(hg:Glb w)(hv:ef G.g=true)(kD:sT c=0)
include hZ dG hN hG hC hg hv kD
theorem FM(hf:lG G.g c=false):Calls prog 83 #[.agg (bJ G),.agg (cP c)] w (Dx w uF 220):=by
 have J:=zm.1 hv;have WE:=J.1.2.2.1;have vw:=J.1.2.1;have fY:=OV.1 kD;have Cu:=fY.e1;have Cv:=fY.e2;refine Lu ?_;refine yV ?_;intro b2 w2 dz bY ft dL dH;refine yX ?_;intro b3 w3 dE da gi eO fw;refine bM 1 ?_;intro b4 iW iX;refine Zu ?_;refine B 8 ?_;refine zhf ?_;refine B 6 ?_;refine wX ?_;by_cases h1:¬c.folder=G.g.folder
 ·refine aF 5 cD ?_;refine B 27 ?_;exact ZV
 by_cases h2:¬c.epoch=G.g.epoch+1
 ·refine B 5 ?_;refine Ew ?_;refine du cD ?_;refine B 20 ?_;exact ZV
 have h3:=Sf hf aa aa;refine B 5 ?_;refine Ew ?_;refine Ew ?_;refine rq cD (dV nO zz nF rfl rfl rfl) (congrArg (λq=>Value.bool (!q)) h3) ?_;refine B 13 ?_;exact ZV
theorem FN(hf:lG G.g c=true)(hne:fj G.g c.author c.chs=221):Calls prog 83 #[.agg (bJ G),.agg (cP c)] w (Dx w uF 221):=by
 have sO:=zm.1 hv;have WE:=sO.1.2.2.1;have vw:=sO.1.2.1;have J:=OV.1 kD;have Cu:=J.e1;have Cv:=J.e2;obtain⟨h1,h2,h3⟩:=WD hf;have tC:=J.au;have AT:=dG.few.chs;refine Lu ?_;refine yV ?_;intro b2 w2 dz bY ft dL dH;refine yX ?_;intro b3 w3 dE da gi eO fw;refine bM 1 ?_;intro b4 iW iX;refine Zu ?_;refine B 8 ?_;refine zhf ?_;refine aF 6 bH ?_;refine B 12 ?_;refine Ew ?_;refine Ew ?_;refine rq bH (dV nO zz nF rfl rfl rfl) (congrArg (λq=>Value.bool (!q)) h3) ?_;refine aF 8 (.agg (bJ G)) ?_;refine B 4 ?_;refine nH (enc:=tJ) (m:=4) (t:=110) (xs:=(gG G.g c.author c.chs)) (v:=λs=>.tuple #[s,ab 221]) (first:=[]) (cap:=[]) rfl call134 rfl rfl rfl V6 (λW hS=>by rw[<-hne];exact nCb G N W cR (hG.up (aj _) hS.sm) c.chs aa c.ca c.cc (hC.chs.up (aj _) hS.sm) c.author tC) ?_;intro Wn an cn wn tK AX sg sh;have w6:=tK.sizes;replace w6:=yb w6;have V7:=AX.size;have uB:=tK.under;replace uB:=yg uB;refine aF 11 cD ?_;refine B 13 ?_;exact z0h
end
theorem n6m(hv:ef g=true)(h:fj g au l=0):jO l=true/\lX g au l=true/\gG g au l=lB (aQ g.ns l) au:=by grind [fj,xY,gG]
noncomputable def vx (g:Gp) (c:Cm):Bool:=lF Jq c.bxs (gG g c.author c.chs)
def xa (c:Cm):Bool:=lF Wt c.wes (oH c.author c.chs)
noncomputable def Ae (Z:Fx) (g:Gp) (c:Cm):Bool:=pD Z (lE g c.author c.chs) (cM (oF Z c)) c.sr c.ss
section
variable (hZ:FxOk Z)(G:Gv)(c:Cm)(dG:bO c)(N:Nat)(w:World)(hN:N<=w.heap.size)(hG:cj N w G)(hC:dC N w c)(hg:Glb w)(hv:ef G.g=true)(kD:sT c=0)(hf:lG G.g c=true)(hne:fj G.g c.author c.chs=0)
include hZ dG hN hG hC hg hv kD hf hne
theorem Lv(hb:vx G.g c=false):Calls prog 83 #[.agg (bJ G),.agg (cP c)] w (Dx w uF 220):=by
 have sO:=zm.1 hv;have WE:=sO.1.2.2.1;have vw:=sO.1.2.1;have J:=OV.1 kD;have Cu:=J.e1;have Cv:=J.e2;obtain⟨h1,h2,h3⟩:=WD hf;have tC:=J.au;have AT:=dG.few.chs;have yZ:=dG.few.bxs;have V8:=dG.few.wes;refine Lu ?_;refine yV ?_;intro b2 w2 dz bY ft dL dH;refine yX ?_;intro b3 w3 dE da gi eO fw;refine bM 1 ?_;intro b4 iW iX;refine ZX ?_;intro Wn an cn wn tK AX sg sh;have w6:=tK.sizes;replace w6:=yb w6;have V7:=AX.size;have uB:=tK.under;replace uB:=yg uB;refine ZY ?_;refine eA 15 (pb:=by exact zU 4 (k:=by exact aM (nf call152 rfl rfl (λW hS _=>by have h9:=ZM c.bxs aa W.heap.size c.ba c.bc W (aj _) (hC.bxs.up cR hS.sm) (gG G.g c.author c.chs) an cn (sg.to hS A0 (aj _) (λb off e=>.inr ZZ));rw[show lF Jq c.bxs (gG G.g c.author c.chs)=false from hb]at h9;exact h9) (λ_=>rfl)) zT)) (sp:=(_::_::_::_::(some (bH))::(some cD)::_)) (k:=?_);refine B 15 ?_;exact z0h
theorem Lw(hb:vx G.g c=true)(hw:xa c=false):Calls prog 83 #[.agg (bJ G),.agg (cP c)] w (Dx w uF 220):=by
 have sO:=zm.1 hv;have WE:=sO.1.2.2.1;have vw:=sO.1.2.1;have J:=OV.1 kD;have Cu:=J.e1;have Cv:=J.e2;obtain⟨h1,h2,h3⟩:=WD hf;have tC:=J.au;have AT:=dG.few.chs;have yZ:=dG.few.bxs;have V8:=dG.few.wes;refine Lu ?_;refine yV ?_;intro b2 w2 dz bY ft dL dH;refine yX ?_;intro b3 w3 dE da gi eO fw;refine bM 1 ?_;intro b4 iW iX;refine ZX ?_;intro Wn an cn wn tK AX sg sh;have w6:=tK.sizes;replace w6:=yb w6;have V7:=AX.size;have uB:=tK.under;replace uB:=yg uB;refine ZY ?_;refine eS 15 13 [] (pb:=by exact zU 4 (k:=by exact aM (nf call152 rfl rfl (λW hS _=>by have h9:=ZM c.bxs aa W.heap.size c.ba c.bc W (aj _) (hC.bxs.up cR hS.sm) (gG G.g c.author c.chs) an cn (sg.to hS A0 (aj _) (λb off e=>.inr ZZ));rw[show lF Jq c.bxs (gG G.g c.author c.chs)=true from hb]at h9;exact h9) (λ_=>rfl)) zT)) (sp:=(_::_::_::_::(some (cD))::(some bH)::_)) (h:=?_);intro _ _ hk;refine z7c ?_;intro W_ aw cw ww qM wo xd si;have Cw:=(qM.links wn A0).size;have xe:∀q,aw=some q->wn.heap.size<=q.block:=λq e=>eB Cw (si q e);refine zE ?_;refine call call153 rfl rfl rfl (λW hS=>by have h9:=nwd c.wes aa W.heap.size c.wa c.wc W (aj _) (hC.wes.up cR hS.sm) (oH c.author c.chs) aw cw (xd.to hS A0 (aj _) (λb off e=>.inr zGb));rw[show lF Wt c.wes (oH c.author c.chs)=false from hw]at h9;exact h9) (v:=.bool false) ?_
 refine du cD ?_;refine B 13 ?_;exact bS (.inl rfl) results83 bD λW hS=>⟨gj,rfl,hS.base A4 zA,rfl,ZU _ _,λq h=>zQ,λq h=>zQ⟩
end
theorem nkk(h:lX g au l=true)(h0:0<=g.epoch)(hm:gF g.ms au=false):0<l.length:=by grind [lX]
theorem FO(hZ:FxOk Z)(G:Gv)(c:Cm)(dG:bO c)(N:Nat)(w:World)(hN:N<=w.heap.size)(hG:cj N w G)(hC:dC N w c)(hg:Glb w)(hv:ef G.g=true)(kD:sT c=0)(hf:lG G.g c=true)(hne:fj G.g c.author c.chs=0)(hb:vx G.g c=true)(hw:xa c=true)(Js:Ae Z G.g c=false):Calls prog 83 #[.agg (bJ G),.agg (cP c)] w (Dx w uF 222):=by
 have sO:=zm.1 hv;have WE:=sO.1.2.2.1;have vw:=sO.1.2.1;have J:=OV.1 kD;have Cu:=J.e1;have Cv:=J.e2;obtain⟨h1,h2,h3⟩:=WD hf;have tC:=J.au;have AT:=dG.few.chs;have yZ:=dG.few.bxs;have V8:=dG.few.wes;have a8:=hg.lt;obtain⟨uG,gW,wZ⟩:=n6m hv hne;refine Lu ?_;refine yV ?_;intro b2 w2 dz bY ft dL dH;refine yX ?_;intro b3 w3 dE da gi eO fw;refine bM 1 ?_;intro b4 iW iX;refine ZX ?_;intro Wn an cn wn tK AX sg sh;have w6:=tK.sizes;replace w6:=yb w6;have V7:=AX.size;have uB:=tK.under;replace uB:=yg uB;refine ZY ?_;refine eS 15 13 [] (pb:=by exact zU 4 (k:=by exact aM (nf call152 rfl rfl (λW hS _=>by have h9:=ZM c.bxs aa W.heap.size c.ba c.bc W (aj _) (hC.bxs.up cR hS.sm) (gG G.g c.author c.chs) an cn (sg.to hS A0 (aj _) (λb off e=>.inr ZZ));rw[show lF Jq c.bxs (gG G.g c.author c.chs)=true from hb]at h9;exact h9) (λ_=>rfl)) zT)) (sp:=(_::_::_::_::(some (cD))::(some bH)::_)) (h:=?_);intro _ _ hk;refine z7c ?_;intro W_ aw cw ww qM wo xd si;have Cw:=(qM.links wn A0).size;have xe:∀q,aw=some q->wn.heap.size<=q.block:=λq e=>eB Cw (si q e);refine z6c ?_;refine Vg ?_;refine eS 10 7 [] (pb:=by exact zU 5 (k:=by exact aM (nf call135 rfl rfl (λW hS _=>nPc G N W cR (hG.up (aj _) hS.sm) c.chs aa c.ca c.cc (hC.chs.up (aj _) hS.sm) c.author (λhm=>nkk gW vw hm)) (λ_=>rfl)) zT)) (sp:=[some (.agg (bJ G)),_,_,_,some (.slice c.ca c.chs.length c.cc),some (ab (lE G.g c.author c.chs)),some (.agg (cP c)),_,_,some (.agg #[ab c.sr,ab c.ss])]) (h:=?_)
 intro _ _ hk;refine zdd ?_;rintro W_ bm wm qM wo ⟨Cw,o9⟩;try dsimp only at Cw o9
 have FP:=(qM.links wn A1).size;have ql:wn.heap.size<=bm:=by omega
 refine zE ?_;refine call call75 rfl rfl rfl (λW hS=>by have h9:=n1c hZ (lE G.g c.author c.chs) c.sr c.ss (cM (oF Z c)) bm 0 32 (by rw[nS];decide) W (cC.dg (hS.old A0 o9 zH zy) (hZ.byt _ _)) (hg.old hS A5 zF zD);rw[nS,show pD Z (lE G.g c.author c.chs) (cM (oF Z c)) c.sr c.ss=false from Js]at h9;exact h9) (v:=.bool false) ?_;refine YZ ?_;exact bS (.inl rfl) results83 bD λW hS=>⟨gj,rfl,hS.base A5 zA,rfl,ZU _ _,λq h=>zQ,λq h=>zQ⟩
structure Cd where
 at_:Int
 c:Cm
 id:Nat->Int
 since:Int
 x:Gv
def jl (d:Cd):Array Value:=(ab d.at_::ab d.c.folder::ab d.c.epoch::lN d.c.par (ab d.c.author:: .slice d.c.ca d.c.chs.length d.c.cc:: .slice d.c.pa d.c.path.length d.c.pc:: .slice d.c.ba d.c.bxs.length d.c.bc:: .slice d.c.wa d.c.wes.length d.c.wc::lN d.c.conf (ab d.c.sr::ab d.c.ss::lN d.id (ab d.since::ab d.x.g.folder::ab d.x.g.epoch::lN d.x.g.last [.slice d.x.ma d.x.g.ms.length d.x.mc,.slice d.x.na d.x.g.ns.length d.x.nc])))).toArray
def rmN (l:List Ch):Nat:=(l.filter λx=>decide (x.kind=2)).length
def ajh (dv:Int) (y:Ch):Bool:=decide (y.kind=2/\y.dev=dv)
theorem n2j{α:Type}{p:α->Bool}:∀{xs:List α} {j:Nat} {x:α},gE p xs j->xs[j]? =some x->p x=true->xs.find? p=some x
 | [],j,x,_,hx,_=>by simp at hx
 |y::xs,0,x,_,hx,hp=>by
  simp only[Ka,wK]at hx;subst hx;simp[hp]
 |y::xs,j+1,x,h,hx,hp=>by
  have h0:p y=false:=h 0 y aa rfl;simp only[Jc]at hx;rw[List.find?_cons,h0];exact n2j (λi z hi hz=>h (i+1) z aa (by simpa using hz)) hx hp
theorem nFk{α:Type}{p:α->Bool}{xs:List α}(h:gE p xs j)(hj:¬j<xs.length):xs.find? p=none:=by
 have:=nAd h hj;all_goals grind
def Cy (ms:List Mb) (dv:Int):Int:=((ms.find? λm=>decide (m.dev=dv)).map (·.since)).getD 0
theorem FQ{ms:List Mb}{dv:Int}{x:Mb}(h:gE (λm:Mb=>decide (m.dev=dv)) ms j)(hx:ms[j]? =some x)(hp:x.dev=dv):ab x.since=ab (Cy ms dv):=by unfold Cy;rw[n2j h hx (by simpa using hp)];rfl
theorem O2{ms:List Mb}{dv:Int}(h:gE (λm:Mb=>decide (m.dev=dv)) ms j)(hj:¬j<ms.length):ab 0=ab (Cy ms dv):=by unfold Cy;rw[nFk h hj];rfl
theorem Lx(G:Gv)(N:Nat)(w:World)(hN:N<=w.heap.size)(hG:cj N w G)(dv:Int):Calls prog 108 #[.agg (bJ G),ab dv] w (aU w (ab (Cy G.g.ms dv))):=by
 have an:=hG.mn;have E5:=hG.ms;refine eN func108 ntmps108 ?_;refine cK 2 ?_;intro b2 w2 dz bY ft dL dH;refine B 13 ?_;refine CJ.lp (α:=Nat) [1,2,9] (λj=>[(8,.slice G.ma G.g.ms.length G.mc),(10,ab (j:Int))]) (λj=>[]) (λj=>j<=G.g.ms.length/\gE (λm:Mb=>decide (m.dev=dv)) G.g.ms j) (λj=>G.g.ms.length-j) 0 ⟨cO _,λi x hi=>absurd hi aa⟩ ?_;rintro j ⟨hj,dR⟩;refine aG 6 ?_ ?_
 ·intro av;refine B 5 ?_;obtain⟨bo,oo,J,to,fg,ez,fh,bX,aR⟩:=E5.get aa;obtain⟨x,hx⟩:=ng G.g.ms j aa;rw[ez];refine aF 2 (.agg (qH x)) ?_;refine bM 1 ?_;intro b6 ky rh;refine aG 11 ?_ ?_
  ·intro aS;refine B 13 ?_;refine cA (.inl rfl) results108 bD A1 zA ?_;first|exact FQ dR hx cY|exact O2 dR aa
  intro aS;refine xW ?_;refine ag (j+1) ⟨by omega,dR.next hx (by simpa using ‹¬x.dev=dv›)⟩
 intro av;refine B 11 ?_;refine aL results108 rfl A1 ?_;first|exact FQ dR hx cY|exact O2 dR aa
theorem FR(hZ:FxOk Z)(G:Gv)(c:Cm)(dG:bO c)(N:Nat)(w:World)(hN:N<=w.heap.size)(hG:cj N w G)(hC:dC N w c)(hg:Glb w)(hv:ef G.g=true)(kD:sT c=0)(hf:lG G.g c=true)(hne:fj G.g c.author c.chs=0)(hb:vx G.g c=true)(hw:xa c=true)(Js:Ae Z G.g c=true)(e:Int)(Ly:oI (aQ G.g.ns c.chs) c.author=e)(he:¬e=0):Calls prog 83 #[.agg (bJ G),.agg (cP c)] w (Dx w uF e):=by
 have sO:=zm.1 hv;have WE:=sO.1.2.2.1;have vw:=sO.1.2.1;have J:=OV.1 kD;have Cu:=J.e1;have Cv:=J.e2;obtain⟨h1,h2,h3⟩:=WD hf;have tC:=J.au;have AT:=dG.few.chs;have yZ:=dG.few.bxs;have V8:=dG.few.wes;have a8:=hg.lt;obtain⟨uG,gW,wZ⟩:=n6m hv hne;obtain⟨lA,yS⟩:=Zt uG;have Vx:=hG.nn;have Lc:=OT c.chs G.g.ns;obtain⟨T,hT⟩:∃T,aQ G.g.ns c.chs=T:=⟨_,rfl⟩;rw[hT]at Ly Lc;have gq:=J.pl;have ow:∀y∈c.path,eo y:=λy hy=>by obtain⟨i,hi⟩:=ju.1 hy;exact J.path i y hi
 refine Lu ?_;refine yV ?_;intro b2 w2 dz bY ft dL dH;refine yX ?_;intro b3 w3 dE da gi eO fw;refine bM 1 ?_;intro b4 iW iX;refine ZX ?_;intro Wn an cn wn tK AX sg sh;have w6:=tK.sizes;replace w6:=yb w6;have V7:=AX.size;have uB:=tK.under;replace uB:=yg uB;refine ZY ?_;refine eS 15 13 [] (pb:=by exact zU 4 (k:=by exact aM (nf call152 rfl rfl (λW hS _=>by have h9:=ZM c.bxs aa W.heap.size c.ba c.bc W (aj _) (hC.bxs.up cR hS.sm) (gG G.g c.author c.chs) an cn (sg.to hS A0 (aj _) (λb off e=>.inr ZZ));rw[show lF Jq c.bxs (gG G.g c.author c.chs)=true from hb]at h9;exact h9) (λ_=>rfl)) zT)) (sp:=(_::_::_::_::(some (cD))::(some bH)::_)) (h:=?_);intro _ _ hk;refine z7c ?_;intro W_ aw cw ww qM wo xd si;have Cw:=(qM.links wn A0).size;have xe:∀q,aw=some q->wn.heap.size<=q.block:=λq e=>eB Cw (si q e);refine z6c ?_;refine Vg ?_;refine eS 10 7 [] (pb:=by exact zU 5 (k:=by exact aM (nf call135 rfl rfl (λW hS _=>nPc G N W cR (hG.up (aj _) hS.sm) c.chs aa c.ca c.cc (hC.chs.up (aj _) hS.sm) c.author (λhm=>nkk gW vw hm)) (λ_=>rfl)) zT)) (sp:=[some (.agg (bJ G)),_,_,_,some (.slice c.ca c.chs.length c.cc),some (ab (lE G.g c.author c.chs)),some (.agg (cP c)),_,_,some (.agg #[ab c.sr,ab c.ss])]) (h:=?_);intro _ _ hk;refine zdd ?_
 rintro W_ bm wm qM wo ⟨Cw,o9⟩;try dsimp only at Cw o9
 have FP:=(qM.links wn A1).size;have ql:wn.heap.size<=bm:=by omega
 refine zE ?_;refine zAd ?_;refine Ew ?_;refine eA 6 (pb:=by exact zU 5 (k:=by exact aM (nf call23 rfl rfl (λW hS _=>ZK hZ c dG N W cR (hC.up (aj _) hS.sm) (hg.old hS A5 zF zD)) (λ_=>rfl)) (ra rfl))) (sp:=[_,_,_,_,some (.agg (cP c)),some (.agg (dg (aC Z c)))]) (k:=?_);refine zLf ?_;have Cb:=(bB.1 o9).1;refine z1c ?_;refine CJ.chn 14 [3,8,9,10,13] [some (.agg (bJ G)),_,some (.slice c.ca c.chs.length c.cc),none,_,_,_,some (.slice c.pa c.path.length c.pc),none,none,none,some (ab e),_,none] (λcv L' H'=>let uH:ad:=[(b4,oC (bJ (⟨⟨G.g.folder,c.epoch,aC Z c,[],[]⟩,none,0,none,0⟩:Gv)) 53)];let ew:ad:=uH;let jb:List World:=[wm,ww,wn,w3,w2,w];match cv with| []=>L'=jb/\H'=ew| [v1]=>∃(ta:Option Addr) (tc:Nat) (wr:World),v1= .agg #[.slice ta T.length tc]/\L'=wr::jb/\H'=ew/\ai fZ 2 wr.heap.size wr ta T/\(∀b off,ta=some ⟨b,off,none⟩->T=[]\/b<N\/wm.heap.size<=b)/\wm.heap.size<=wr.heap.size| [v1,v2]=>∃(ta:Option Addr) (tc:Nat) (wr:World) (r8:Rw),v1= .agg #[.slice ta T.length tc]/\v2= .tuple #[.agg #[r8.val (cx T c.author c.path).length],ab e]/\L'=wr::jb/\H'=uH++(r8.hp ik 240 (cx T c.author c.path)++[])/\ai fZ 2 wr.heap.size wr ta T/\(∀b off,ta=some ⟨b,off,none⟩->T=[]\/b<N\/wm.heap.size<=b)/\wm.heap.size<=wr.heap.size/\Rw.Fr Gh.no [wr,wm,ww,wn,w3,w2,w] r8/\r8.Fit 2 (cx T c.author c.path)/\r8.ge wr.heap.size| [v1,v2,v3]=>∃(ta:Option Addr) (tc:Nat) (wr:World) (r8:Rw),v1= .agg #[.slice ta T.length tc]/\v2= .tuple #[.agg #[r8.val (cx T c.author c.path).length],ab e]/\v3= .tuple #[.agg #[r8.val (cx T c.author c.path).length],ab e]/\L'=wr::jb/\H'=uH++(r8.hp ik 240 (cx T c.author c.path)++[])/\ai fZ 2 wr.heap.size wr ta T/\(∀b off,ta=some ⟨b,off,none⟩->T=[]\/b<N\/wm.heap.size<=b)/\wm.heap.size<=wr.heap.size/\Rw.Fr Gh.no [wr,wm,ww,wn,w3,w2,w] r8/\r8.Fit 2 (cx T c.author c.path)/\r8.ge wr.heap.size| [v1,v2,v3,v4]=>∃(ta:Option Addr) (tc:Nat) (wr:World) (r8:Rw),v1= .agg #[.slice ta T.length tc]/\v2= .tuple #[.agg #[r8.val (cx T c.author c.path).length],ab e]/\v3= .tuple #[.agg #[r8.val (cx T c.author c.path).length],ab e]/\v4= .agg #[r8.val (cx T c.author c.path).length]/\L'=wr::jb/\H'=uH++(r8.hp ik 240 (cx T c.author c.path)++[])/\ai fZ 2 wr.heap.size wr ta T/\(∀b off,ta=some ⟨b,off,none⟩->T=[]\/b<N\/wm.heap.size<=b)/\wm.heap.size<=wr.heap.size/\Rw.Fr Gh.no [wr,wm,ww,wn,w3,w2,w] r8/\r8.Fit 2 (cx T c.author c.path)/\r8.ge wr.heap.size| [v1,v2,v3,v4,v5]=>∃(ta:Option Addr) (tc:Nat) (wr:World) (r8:Rw),v1= .agg #[.slice ta T.length tc]/\v2= .tuple #[.agg #[r8.val (cx T c.author c.path).length],ab e]/\v3= .tuple #[.agg #[r8.val (cx T c.author c.path).length],ab e]/\v4= .agg #[r8.val (cx T c.author c.path).length]/\v5= .tuple #[]/\L'=wr::jb/\H'=[(b4,oC (setCells (bJ (⟨⟨G.g.folder,c.epoch,aC Z c,[],[]⟩,none,0,none,0⟩:Gv)) 35 [r8.val (cx T c.author c.path).length]) 53)]++(r8.hp ik 240 (cx T c.author c.path)++[])/\ai fZ 2 wr.heap.size wr ta T/\(∀b off,ta=some ⟨b,off,none⟩->T=[]\/b<N\/wm.heap.size<=b)/\wm.heap.size<=wr.heap.size/\Rw.Fr Gh.no [wr,wm,ww,wn,w3,w2,w] r8/\r8.Fit 2 (cx T c.author c.path)/\r8.ge wr.heap.size|_=>False) (pc O3 (pc (by exact λcv L' H' hd hP=>X.v (cX underlying61 rfl sizeOf54 rfl)) (pc O3 (pk (pc ZF (pc O3 (pc z8b (pc O3 (pk (pk (pk (pc (λcv L' H' hd hP=>match cv,hd,hP with| [],hd,hP=>(absurd (show false=true from hd) zz)| [v1],hd,hP=>(absurd (show false=true from hd) zz)| [v1,v2],hd,hP=>(absurd (show false=true from hd) zz)| [v1,v2,v3],hd,hP=>zkc| [v1,v2,v3,v4],hd,hP=>zic| [v1,v2,v3,v4,v5],hd,hP=>zfc|_::_::_::_::_::_::_,_,hP=>hP.elim) (pc Zd (pk (pn))))))))))))))) ?_ ?_
 ·exact zcg
 intro cv L' H' hl hP;obtain⟨v1,v2,v3,v4,v5,rfl⟩:=tP hl;obtain⟨ta,tc,wr,r8,rfl,rfl,rfl,rfl,rfl,rfl,rfl,sS,iF,rU,oJ,iM,jR⟩:=hP;refine B 6 ?_;refine VR ?_;refine du (.agg (bJ gj)) ?_;refine B 7 ?_;exact bS (.inl rfl) results83 bD λW hS=>⟨gj,rfl,(hS.links w A6).below (λk hk hx=>by rcases hx with hx|hx;(exact hx);simp only[dA,iv,eY,ec,gN,dP,fu,aY,cd,dZ,or_false]at hx;rcases hx with hx|hx;(omega);have:=Rw.mem_ge jR hx;omega),rfl,ZU _ _,λq h=>zQ,λq h=>zQ⟩
theorem O4{ns:List Nd}(h:u9 ns):∀(i:Nat) (x:Nd),ns[i]? =some x->(i:Int)+1<=x.at_
 |0,x,hx=>by have:=(h 0 x hx).1;omega
 |i+1,x,hx=>by
  obtain⟨y,hy⟩:=ng ns i VM;have h1:=O4 h i y hy;have h2:=(h (i+1) x hx).2.2.1 y aa (by simpa using hy);omega
theorem Sg(h:u9 ns):ns.length<=1023:=by
 by_cases h0:ns.length=0
 ·omega
 obtain⟨x,hx⟩:=ng ns (ns.length-1) aa;have h1:=O4 h _ x hx;have h2:=(h _ x hx).2.1;omega
theorem nGn(h:ef g=true):g.ns.length<=1023/\g.ms.length<=1023:=by
 have h1:=zm.1 h;have h2:=Sg (nJh.1 h1.1.2.2.2);refine⟨h2,?_⟩;have h3:=congrArg List.length h1.2.2.1;rw[eK]at h3;have:=nom g.ns;omega
def Sh (f e:Int) (id:Nat->Int) (a b:Value):Array Value:=(ab f::ab e::lN id [a,b]).toArray
theorem Lz(f e:Int)(id:Nat->Int)(r J:Rw)(n m:Nat):bG (Value.agg (Sh f e id (r.val n) (J.val m))).cells.toList=true:=by cases r<;>cases J<;>rfl
def oK (e:Int) (l:List Ch):List Mb:=(l.filter λx=> !decide (x.kind=2)).map λy=>⟨y.dev,e,y.ver⟩
theorem n2n{e:Int}(hx:l[j]? =some x)(h:¬x.kind=2)(F:List Mb):F++oK e (l.take (j+1))=(F++oK e (l.take j))++[⟨x.dev,e,x.ver⟩]:=by rw[np hx];simp[oK,h]
theorem FU{e:Int}(hx:l[j]? =some x)(h:x.kind=2)(F:List Mb):F++oK e (l.take (j+1))=F++oK e (l.take j):=by rw[np hx];simp[oK,h]
theorem nYj(e:Int)(l:List Ch):(oK e l).length<=l.length:=by unfold oK;rw[eK];exact Sd _ _
theorem Z0(e:Int)(l:List Ch)(F:List Mb):F++oK e (l.take 0)=F:=by simp[oK]
noncomputable def jY (Z:Fx) (g:Gp) (c:Cm):Gp:=⟨g.folder,c.epoch,aC Z c,se (g.ms.filter (λx=> !gP c.chs x)++oK c.epoch c.chs),cx (aQ g.ns c.chs) c.author c.path⟩
theorem FV(hd:di d)(l:List Int):(cx ns d l).length<=ns.length+10:=by grind [cx,noh,nrm,dq,VK]
theorem Rw.val_new{r:Rw}{cp:Nat}(h:r.ge k)(e:r.val n= .slice a n cp):∀q,a=some q->k<=q.block:=by
 intro q hq;cases r with
 |nil=>simp only[Rw.val,Value.slice.injEq]at e;rw[<-e.1]at hq;cases hq
 |row b cap sp=>simp only[Rw.val,Value.slice.injEq]at e;rw[<-e.1]at hq;cases hq;exact h
theorem LA(hZ:FxOk Z)(G:Gv)(c:Cm)(dG:bO c)(N:Nat)(w:World)(hN:N<=w.heap.size)(hG:cj N w G)(hC:dC N w c)(hg:Glb w)(hv:ef G.g=true)(kD:sT c=0)(hf:lG G.g c=true)(hne:fj G.g c.author c.chs=0)(hb:vx G.g c=true)(hw:xa c=true)(Js:Ae Z G.g c=true)(e:Int)(Ly:oI (aQ G.g.ns c.chs) c.author=e)(he:e=0):Calls prog 83 #[.agg (bJ G),.agg (cP c)] w (Dx w (jY Z G.g c) 0):=by
 have sO:=zm.1 hv;have WE:=sO.1.2.2.1;have vw:=sO.1.2.1;have fY:=OV.1 kD;have Cu:=fY.e1;have Cv:=fY.e2;obtain⟨h1,h2,h3⟩:=WD hf;have tC:=fY.au;have AT:=dG.few.chs;have yZ:=dG.few.bxs;have V8:=dG.few.wes;have dn:=hg.lt;obtain⟨uG,gW,wZ⟩:=n6m hv hne;obtain⟨lA,yS⟩:=Zt uG;have Vx:=hG.nn;have Lc:=OT c.chs G.g.ns;obtain⟨T,hT⟩:∃T,aQ G.g.ns c.chs=T:=⟨_,rfl⟩;rw[hT]at Ly Lc;have gq:=fY.pl;have ow:∀y∈c.path,eo y:=λy hy=>by obtain⟨i,hi⟩:=ju.1 hy;exact fY.path i y hi
 have dK:=nGn hv;refine Lu ?_;refine yV ?_;intro b2 w2 dz bY ft dL dH;refine yX ?_;intro b3 w3 dE da gi eO fw;refine bM 1 ?_;intro b4 iW iX;refine ZX ?_;intro Wn an cn wn tK AX sg sh;have w6:=tK.sizes;replace w6:=yb w6;have V7:=AX.size;have uB:=tK.under;replace uB:=yg uB;refine ZY ?_;refine eS 15 13 [] (pb:=by exact zU 4 (k:=by exact aM (nf call152 rfl rfl (λW hS _=>by have h9:=ZM c.bxs aa W.heap.size c.ba c.bc W (aj _) (hC.bxs.up cR hS.sm) (gG G.g c.author c.chs) an cn (sg.to hS A0 (aj _) (λb off e=>.inr ZZ));rw[show lF Jq c.bxs (gG G.g c.author c.chs)=true from hb]at h9;exact h9) (λ_=>rfl)) zT)) (sp:=(_::_::_::_::(some (cD))::(some bH)::_)) (h:=?_);intro _ _ hk;refine z7c ?_;intro W_ aw cw ww qM wo xd si;have Cw:=(qM.links wn A0).size;have xe:∀q,aw=some q->wn.heap.size<=q.block:=λq e=>eB Cw (si q e);refine z6c ?_;refine Vg ?_;refine eS 10 7 [] (pb:=by exact zU 5 (k:=by exact aM (nf call135 rfl rfl (λW hS _=>nPc G N W cR (hG.up (aj _) hS.sm) c.chs aa c.ca c.cc (hC.chs.up (aj _) hS.sm) c.author (λhm=>nkk gW vw hm)) (λ_=>rfl)) zT)) (sp:=[some (.agg (bJ G)),_,_,_,some (.slice c.ca c.chs.length c.cc),some (ab (lE G.g c.author c.chs)),some (.agg (cP c)),_,_,some (.agg #[ab c.sr,ab c.ss])]) (h:=?_)
 intro _ _ hk;refine zdd ?_;rintro W_ bm wm qM wo ⟨Cw,o9⟩;try dsimp only at Cw o9
 have FP:=(qM.links wn A1).size;have ql:wn.heap.size<=bm:=by omega
 refine zE ?_;refine zAd ?_;refine Ew ?_;refine eA 6 (pb:=by exact zU 5 (k:=by exact aM (nf call23 rfl rfl (λW hS _=>ZK hZ c dG N W cR (hC.up (aj _) hS.sm) (hg.old hS A5 zF zD)) (λ_=>rfl)) (ra rfl))) (sp:=[_,_,_,_,some (.agg (cP c)),some (.agg (dg (aC Z c)))]) (k:=?_);refine zLf ?_;have Cb:=(bB.1 o9).1;refine z1c ?_;refine CJ.chn 14 [3,8,9,10,13] [some (.agg (bJ G)),_,some (.slice c.ca c.chs.length c.cc),none,_,_,_,some (.slice c.pa c.path.length c.pc),none,none,none,some (ab e),_,none] (λcv L' H'=>let uH:ad:=[(b4,oC (bJ (⟨⟨G.g.folder,c.epoch,aC Z c,[],[]⟩,none,0,none,0⟩:Gv)) 53)];let ew:ad:=uH;let jb:List World:=[wm,ww,wn,w3,w2,w];match cv with| []=>L'=jb/\H'=ew| [v1]=>∃(ta:Option Addr) (tc:Nat) (wr:World),v1= .agg #[.slice ta T.length tc]/\L'=wr::jb/\H'=ew/\ai fZ 2 wr.heap.size wr ta T/\(∀b off,ta=some ⟨b,off,none⟩->T=[]\/b<N\/wm.heap.size<=b)/\wm.heap.size<=wr.heap.size| [v1,v2]=>∃(ta:Option Addr) (tc:Nat) (wr:World) (r8:Rw),v1= .agg #[.slice ta T.length tc]/\v2= .tuple #[.agg #[r8.val (cx T c.author c.path).length],ab e]/\L'=wr::jb/\H'=uH++(r8.hp ik 240 (cx T c.author c.path)++[])/\ai fZ 2 wr.heap.size wr ta T/\(∀b off,ta=some ⟨b,off,none⟩->T=[]\/b<N\/wm.heap.size<=b)/\wm.heap.size<=wr.heap.size/\Rw.Fr Gh.no [wr,wm,ww,wn,w3,w2,w] r8/\r8.Fit 2 (cx T c.author c.path)/\r8.ge wr.heap.size| [v1,v2,v3]=>∃(ta:Option Addr) (tc:Nat) (wr:World) (r8:Rw),v1= .agg #[.slice ta T.length tc]/\v2= .tuple #[.agg #[r8.val (cx T c.author c.path).length],ab e]/\v3= .tuple #[.agg #[r8.val (cx T c.author c.path).length],ab e]/\L'=wr::jb/\H'=uH++(r8.hp ik 240 (cx T c.author c.path)++[])/\ai fZ 2 wr.heap.size wr ta T/\(∀b off,ta=some ⟨b,off,none⟩->T=[]\/b<N\/wm.heap.size<=b)/\wm.heap.size<=wr.heap.size/\Rw.Fr Gh.no [wr,wm,ww,wn,w3,w2,w] r8/\r8.Fit 2 (cx T c.author c.path)/\r8.ge wr.heap.size| [v1,v2,v3,v4]=>∃(ta:Option Addr) (tc:Nat) (wr:World) (r8:Rw),v1= .agg #[.slice ta T.length tc]/\v2= .tuple #[.agg #[r8.val (cx T c.author c.path).length],ab e]/\v3= .tuple #[.agg #[r8.val (cx T c.author c.path).length],ab e]/\v4= .agg #[r8.val (cx T c.author c.path).length]/\L'=wr::jb/\H'=uH++(r8.hp ik 240 (cx T c.author c.path)++[])/\ai fZ 2 wr.heap.size wr ta T/\(∀b off,ta=some ⟨b,off,none⟩->T=[]\/b<N\/wm.heap.size<=b)/\wm.heap.size<=wr.heap.size/\Rw.Fr Gh.no [wr,wm,ww,wn,w3,w2,w] r8/\r8.Fit 2 (cx T c.author c.path)/\r8.ge wr.heap.size| [v1,v2,v3,v4,v5]=>∃(ta:Option Addr) (tc:Nat) (wr:World) (r8:Rw),v1= .agg #[.slice ta T.length tc]/\v2= .tuple #[.agg #[r8.val (cx T c.author c.path).length],ab e]/\v3= .tuple #[.agg #[r8.val (cx T c.author c.path).length],ab e]/\v4= .agg #[r8.val (cx T c.author c.path).length]/\v5= .tuple #[]/\L'=wr::jb/\H'=[(b4,oC (setCells (bJ (⟨⟨G.g.folder,c.epoch,aC Z c,[],[]⟩,none,0,none,0⟩:Gv)) 35 [r8.val (cx T c.author c.path).length]) 53)]++(r8.hp ik 240 (cx T c.author c.path)++[])/\ai fZ 2 wr.heap.size wr ta T/\(∀b off,ta=some ⟨b,off,none⟩->T=[]\/b<N\/wm.heap.size<=b)/\wm.heap.size<=wr.heap.size/\Rw.Fr Gh.no [wr,wm,ww,wn,w3,w2,w] r8/\r8.Fit 2 (cx T c.author c.path)/\r8.ge wr.heap.size|_=>False) (pc O3 (pc (by exact λcv L' H' hd hP=>X.v (cX underlying61 rfl sizeOf54 rfl)) (pc O3 (pk (pc ZF (pc O3 (pc z8b (pc O3 (pk (pk (pk (pc (λcv L' H' hd hP=>match cv,hd,hP with| [],hd,hP=>(absurd (show false=true from hd) zz)| [v1],hd,hP=>(absurd (show false=true from hd) zz)| [v1,v2],hd,hP=>(absurd (show false=true from hd) zz)| [v1,v2,v3],hd,hP=>zkc| [v1,v2,v3,v4],hd,hP=>zic| [v1,v2,v3,v4,v5],hd,hP=>zfc|_::_::_::_::_::_::_,_,hP=>hP.elim) (pc Zd (pk (pn))))))))))))))) ?_ ?_
 ·exact zcg
 intro cv L' H' hl hP;obtain⟨v1,v2,v3,v4,v5,rfl⟩:=tP hl;obtain⟨ta,tc,wr,r8,rfl,rfl,rfl,rfl,rfl,rfl,rfl,sS,iF,rU,oJ,iM,jR⟩:=hP;refine aF 6 bH ?_;refine aF 14 (.slice G.ma G.g.ms.length G.mc) ?_;refine Jh (enc:=pe) (m:=3) (t:=131) (xs:=G.g.ms) (v:=id) (first:=[]) (cap:=[]) rfl call159 rfl rfl rfl (λW hS=>FF G.g.ms aa N G.ma G.mc W cR (hG.ms.up (aj _) (hS.same A6 hN zF (by simp only[Over,nC,iv,eY,ec,dA,and_true];(repeat' apply And.intro);all_goals first|omega|exact True.intro|exact Rw.over (Rw.ge_mono jR aa))))) ?_;intro r9 Z1 FX;have oM:=Rw.ge_of Z1 A0;refine B 1 ?_;refine EU (r:=r9) (enc:=pe) (m:=3) (t:=131) (xs:=G.g.ms) (ys:=(G.g.ms.filter λx=> !gP c.chs x)) (H0:=[]) (H1:=[(b4,oC (setCells (bJ (⟨⟨G.g.folder,c.epoch,aC Z c,[],[]⟩,none,0,none,0⟩:Gv)) 35 [r8.val (cx T c.author c.path).length]) 53)]++(r8.hp ik 240 (cx T c.author c.path)++[])) (v:=λr=>r.val (G.g.ms.filter λx=> !gP c.chs x).length) rfl call158 rfl rfl rfl (λhr W hS=>?_) (λb cap sp hr W hS h=>?_) ?_
 ·subst hr;have h0:G.g.ms=[]:=FX;rw[h0];exact(n0h 155 [ptr b3 0] call155 W).mono λe w2 h=>⟨h.1,rfl,h.2⟩
 ·subst hr;have c4:wr.heap.size<=b:=oM;have bz:=(hS.links w A6).size;have db:=(hS.links w3 A4).size;have e8:=(bB.1 dE).1;exact nhl (gP c.chs) 155 [ptr b3 0] call155 G.g.ms aa b cap sp W h FX (λj x hx W2 hK eL=>R7 c dG.few N b3 x W2 (eB hN (eB bz hK.size)) (hC.up (aj _) (λk hk=>(hK.block k aa aa).trans (hS.same A6 hN zF (by simp only[Over,nC,iv,eY,ec,dA,and_true];(repeat' apply And.intro);all_goals first|omega|exact True.intro|exact Rw.over (Rw.ge_mono jR aa)|exact Rw.over (Rw.ge_mono oM aa)) k hk))) (by rw[hK.block b3 aa aa];exact hS.old A4 dE da zy))
 intro J Si Z2 Z3 eJ;have Z4:=Z2 Z1;have ed:=Z3 _ oM;refine B 1 ?_;refine OJ.perm (H':=[(b4,oC (Sh G.g.folder c.epoch (aC Z c) (ak) (r8.val (cx T c.author c.path).length)) 53)]++(r8.hp ik 240 (cx T c.author c.path)++(J.hp pe 131 (G.g.ms.filter λx=> !gP c.chs x)++[]))) (by simp only[eY,ec,iv];exact List.perm_append_comm) ?_;refine kT (i:=0) rfl sizeOf48 rfl rfl rfl (Rw.val_size _ _) (er rfl) (Rw.val_one _ _) ?_;refine aF 6 (.slice c.ca c.chs.length c.cc) ?_;refine B 5 ?_;have xO:=Z0 c.epoch c.chs (G.g.ms.filter λx=> !gP c.chs x);refine CJ.reH (H':=[(b4,oC (Sh G.g.folder c.epoch (aC Z c) (J.val ((G.g.ms.filter λx=> !gP c.chs x)++oK c.epoch (c.chs.take 0)).length) (r8.val (cx T c.author c.path).length)) 53)]++(r8.hp ik 240 (cx T c.author c.path)++(J.hp pe 131 ((G.g.ms.filter λx=> !gP c.chs x)++oK c.epoch (c.chs.take 0))++[]))) (by rw[xO,Rw.val_cells];rfl) ?_;refine CJ.lp (α:=Rw×Nat) [2,3,4,122] (λp=>[(121,.slice c.ca c.chs.length c.cc),(123,ab (p.2:Int))]) (λp=>[(b4,oC (Sh G.g.folder c.epoch (aC Z c) (p.1.val ((G.g.ms.filter λx=> !gP c.chs x)++oK c.epoch (c.chs.take p.2)).length) (r8.val (cx T c.author c.path).length)) 53)]++(r8.hp ik 240 (cx T c.author c.path)++(p.1.hp pe 131 ((G.g.ms.filter λx=> !gP c.chs x)++oK c.epoch (c.chs.take p.2))++[]))) (λp=>p.2<=c.chs.length/\p.1.Fr Gh.no [wr,wm,ww,wn,w3,w2,w]/\p.1.Fit 3 ((G.g.ms.filter λx=> !gP c.chs x)++oK c.epoch (c.chs.take p.2))) (λp=>c.chs.length-p.2) (J,0) ⟨cO _,Z4,by rw[xO];exact Si⟩ ?_
 rintro⟨r,j⟩ ⟨hj,aK,ae⟩;dsimp only at hj aK ae ⊢;have bK:r.ge wr.heap.size:=Rw.ge_of aK A0;have kC:=Sd (λx=> !gP c.chs x) G.g.ms;have vZ:=nYj c.epoch (c.chs.take j);rw[kU]at vZ;refine aG 6 ?_ ?_
 ·intro av;refine B 5 ?_;obtain⟨bo,oo,en,to,fg,ez,fh,bX,aR⟩:=hC.chs.get aa;obtain⟨x,hx⟩:=ng c.chs j aa;rw[ez];refine B 2 ?_;refine VY ?_;refine yW ?_;intro iI E3 E4;refine aG 10 ?_ ?_
  ·intro aS;refine B 10 ?_;refine kp underlying48 sizeOf131 zeroValue131 rfl rfl rfl rfl rfl rfl rfl ?_;refine yW ?_;intro bh dO eg;refine jV (r:=r) (xs:=((G.g.ms.filter λx=> !gP c.chs x)++oK c.epoch (c.chs.take j))) (zs:=[(⟨x.dev,c.epoch,x.ver⟩:Mb)]) (enc:=pe) (m:=3) (H0:=(bh,oC #[ab x.dev,ab c.epoch,ab x.ver] 131)::(iI,oC (gM x) 99)::(b4,oC (Sh G.g.folder c.epoch (aC Z c) (r.val ((G.g.ms.filter λx=> !gP c.chs x)++oK c.epoch (c.chs.take j)).length) (r8.val (cx T c.author c.path).length)) 53)::r8.hp ik 240 (cx T c.author c.path)) (H1:=[]) zW FD Ck rfl rfl rfl rfl (ck.one (z:=(⟨x.dev,c.epoch,x.ver⟩:Mb)) Ck nRh underlying48 (bF.own (i:=0) rfl)) ae aK zI yU ?_;intro bw Z5 Z6 FY LB;replace FY:=yb FY;refine B 1 ?_;refine kT (i:=2) rfl sizeOf48 rfl rfl rfl rfl (er rfl) rfl ?_;refine LC ?_;refine PJ.again (Rw.row bw Z5 Z6,j+1) ⟨by dsimp only;omega,FY.elim (λh=>Rw.Fr_at aK h) (λh=>.inr h),by rw[n2n hx cY];exact LB⟩ zS zR (by rw[n2n hx cY];rfl) rfl zI
  intro aS;refine xW ?_;refine PJ.again (r,j+1) ⟨by dsimp only;omega,aK,by rw[FU hx aa];exact ae⟩ zS zR (by rw[FU hx aa];rfl) rfl zI
 intro av;refine B 6 ?_;have cH:c.chs.take j=c.chs:=iC aa;rw[cH]at ae ⊢;refine B 3 ?_;have fe:=nYj c.epoch c.chs;refine EU (r:=r) (enc:=pe) (m:=3) (t:=131) (xs:=((G.g.ms.filter λx=> !gP c.chs x)++oK c.epoch c.chs)) (ys:=se ((G.g.ms.filter λx=> !gP c.chs x)++oK c.epoch c.chs)) (H0:=(b4,oC (Sh G.g.folder c.epoch (aC Z c) (r.val ((G.g.ms.filter λx=> !gP c.chs x)++oK c.epoch c.chs).length) (r8.val (cx T c.author c.path).length)) 53)::r8.hp ik 240 (cx T c.author c.path)) (H1:=[]) (v:=λ_=>.tuple #[]) rfl call160 rfl rfl rfl (λhr W hS=>?_) (λb cap sp hr W hS h=>?_) ?_
 ·subst hr;have h0:((G.g.ms.filter λx=> !gP c.chs x)++oK c.epoch c.chs)=[]:=ae;rw[h0];exact(nnn W).mono λe w2 h=>⟨h.1,FJ,h.2⟩
 ·subst hr;exact ZT (by rw[cB];omega) ae h
 intro al lu eD Z7 Sj;have FZ:=Z7 _ bK;refine B 5 ?_;refine jN (i:=0) rfl sizeOf53 rfl rfl rfl rfl rfl (Lz _ _ _ _ _ _ _) ?_;refine B 4 ?_;refine bS (.inl rfl) results83 bD λW hS=>?_;have a6:r8.At ik 240 (cx T c.author c.path) W:=by
  cases r8 with
  |nil=>trivial
  |row b cap sp=>exact hS.own (b,_) o8
 have Z8:al.At pe 131 (se ((G.g.ms.filter λx=> !gP c.chs x)++oK c.epoch c.chs)) W:=by
  cases al with
  |nil=>trivial
  |row b cap sp=>exact hS.own (b,_) o8
 obtain⟨a,cp,uq,ay⟩:=Rw.sl (xs:=se ((G.g.ms.filter λx=> !gP c.chs x)++oK c.epoch c.chs)) Ck lu Z8 (aj W.heap.size);obtain⟨a8,OM,az,vc⟩:=Rw.sl KL iM a6 (aj W.heap.size);have h1:r.val ((G.g.ms.filter λx=> !gP c.chs x)++oK c.epoch c.chs).length= .slice a (se ((G.g.ms.filter λx=> !gP c.chs x)++oK c.epoch c.chs)).length cp:=by rw[<-ZQ ((G.g.ms.filter λx=> !gP c.chs x)++oK c.epoch c.chs),<-Sj];exact uq
 have c6:=nGn hv;have cz:=FV (ns:=T) tC c.path;have eP:=nYj c.epoch c.chs;refine⟨⟨jY Z G.g c,a,cp,a8,OM⟩,?_,?_,rfl,⟨ay,by rw[<-hT]at vc;exact vc,?_,?_⟩,Rw.val_new (Rw.ge_mono FZ aa) uq,Rw.val_new (Rw.ge_mono jR aa) az⟩
 ·show Ending.returned (.tuple #[.agg (Sh G.g.folder c.epoch (aC Z c) (r.val ((G.g.ms.filter λx=> !gP c.chs x)++oK c.epoch c.chs).length) (r8.val (cx T c.author c.path).length)),ab 0])=_;rw[h1,az,<-hT];rfl
 ·exact(hS.links w A6).below (λk hk hx=>by rcases hx with hx|hx;(exact hx);simp only[dA,iv,eY,ec,gN,dP,fu,aY,cd,dZ,or_false]at hx;rcases hx with hx|hx|hx;(omega);(have:=Rw.mem_ge jR hx;omega);(have:=Rw.mem_ge FZ hx;omega))
 ·show(se ((G.g.ms.filter λx=> !gP c.chs x)++oK c.epoch c.chs)).length<=10000;rw[ZQ,cB];omega
 show(cx (aQ G.g.ns c.chs) c.author c.path).length<=80000;rw[hT];omega
noncomputable def iB (Z:Fx) (g:Gp) (c:Cm):Int:=
 if ef g=true then(if sT c=0 then(if lG g c=true then(if fj g c.author c.chs=0 then(if vx g c=true then(if xa c=true then(if Ae Z g c=true then oI (aQ g.ns c.chs) c.author else 222)else 220)else 220)else 221)else 220)else 220)else 1
noncomputable def yi (Z:Fx) (g:Gp) (c:Cm):Gp:=if iB Z g c=0 then jY Z g c else uF
theorem F5(hv:ef g=true):fj g au l=0\/fj g au l=221:=by
 unfold fj;rw[if_pos hv];split<;>simp
theorem nxd(hZ:FxOk Z)(G:Gv)(c:Cm)(dG:bO c)(N:Nat)(w:World)(hN:N<=w.heap.size)(hG:cj N w G)(hC:dC N w c)(hg:Glb w):Calls prog 83 #[.agg (bJ G),.agg (cP c)] w (Dx w (yi Z G.g c) (iB Z G.g c)):=by
 have key:∀e:Int,iB Z G.g c=e->e≠0->Calls prog 83 #[.agg (bJ G),.agg (cP c)] w (Dx w uF e)->Calls prog 83 #[.agg (bJ G),.agg (cP c)] w (Dx w (yi Z G.g c) (iB Z G.g c)):=by
  intro e he h0 h;have:yi Z G.g c=uF:=by unfold yi;rw[he,if_neg h0]
  rw[this,he];exact h
 cases hv:ef G.g with
 |false=>exact key 1 (by simp[iB,hv]) zz (FK hZ G c dG N w hN hG hC hg hv)
 |true=>
  rcases Lj c with kD|kD
  ·cases hf:lG G.g c with
   |false=>exact key 220 (by simp[iB,hv,kD,hf]) zz (FM hZ G c dG N w hN hG hC hg hv kD hf)
   |true=>
    rcases F5 (au:=c.author) (l:=c.chs) hv with hne|hne
    ·cases hb:vx G.g c with
     |false=>exact key 220 (by simp[iB,hv,kD,hf,hne,hb]) zz (Lv hZ G c dG N w hN hG hC hg hv kD hf hne hb)
     |true=>
      cases hw:xa c with
      |false=>exact key 220 (by simp[iB,hv,kD,hf,hne,hb,hw]) zz (Lw hZ G c dG N w hN hG hC hg hv kD hf hne hb hw)
      |true=>
       cases Js:Ae Z G.g c with
       |false=>exact key 222 (by simp[iB,hv,kD,hf,hne,hb,hw,Js]) zz (FO hZ G c dG N w hN hG hC hg hv kD hf hne hb hw Js)
       |true=>
        have e1:iB Z G.g c=oI (aQ G.g.ns c.chs) c.author:=by simp[iB,hv,kD,hf,hne,hb,hw,Js]
        by_cases he:oI (aQ G.g.ns c.chs) c.author=0
        ·have e2:iB Z G.g c=0:=e1.trans he;have e3:yi Z G.g c=jY Z G.g c:=by unfold yi;rw[e2,if_pos rfl]
         rw[e2,e3];exact LA hZ G c dG N w hN hG hC hg hv kD hf hne hb hw Js 0 he rfl
        exact key _ e1 he (FR hZ G c dG N w hN hG hC hg hv kD hf hne hb hw Js _ rfl he)
    exact key 221 (by simp[iB,hv,kD,hf,hne]) zz (FN hZ G c dG N w hN hG hC hg hv kD hf hne)
  exact key 220 (by simp[iB,hv,kD]) zz (FL hZ G c dG N w hN hG hC hg hv kD)
theorem LD{l:List Value}(h:l.all (λu=>u.oneCell')=true):∀u∈l,u.oneCell'=true:=λu hu=>uD.1 h u hu
def lP (x:Gv):List Value:=(ab x.g.folder::ab x.g.epoch::lN x.g.last [.slice x.ma x.g.ms.length x.mc,.slice x.na x.g.ns.length x.nc])
theorem Z9(x:Gv):(lP x).length=36:=rfl
theorem nxo(x:Gv):∀u∈lP x,u.oneCell'=true:=LD rfl
def pg (d:Cd):List Value:=(ab d.at_::ab d.c.folder::ab d.c.epoch::lN d.c.par (ab d.c.author:: .slice d.c.ca d.c.chs.length d.c.cc:: .slice d.c.pa d.c.path.length d.c.pc:: .slice d.c.ba d.c.bxs.length d.c.bc:: .slice d.c.wa d.c.wes.length d.c.wc::lN d.c.conf (ab d.c.sr::ab d.c.ss::lN d.id (ab d.since::ab d.x.g.folder::ab d.x.g.epoch::lN d.x.g.last [.slice d.x.ma d.x.g.ms.length d.x.mc,.slice d.x.na d.x.g.ns.length d.x.nc]))))
theorem F7(d:Cd):(pg d).length=143:=by simp only[pg,dI,fJ]
theorem ntk(d:Cd):∀u∈pg d,u.oneCell'=true:=LD rfl
def cZ (k:Dk):List Value:=k.1.map (Value.int .u8)
theorem yj(k:Dk):(cZ k).length=32:=by simp[cZ,k.2]
theorem WG(k:Dk):∀u∈cZ k,u.oneCell'=true:=by
 intro u hu;obtain⟨x,_,rfl⟩:=bU.1 hu;rfl
def dk (f:Nat->Int):Dk:=⟨[f 0,f 1,f 2,f 3,f 4,f 5,f 6,f 7,f 8,f 9,f 10,f 11,f 12,f 13,f 14,f 15,f 16,f 17,f 18,f 19,f 20,f 21,f 22,f 23,f 24,f 25,f 26,f 27,f 28,f 29,f 30,f 31],rfl⟩
theorem nPn(f:Nat->Int):(cZ (dk f)).toArray=dg f:=rfl
theorem O5(f g:Nat->Int):iD f g=decide (dk f=dk g):=by
 have h:=WH (dk f).1 (dk g).1 (by rw[(dk f).2,(dk g).2]);have e:decide (dk f=dk g)=decide ((dk f).1=(dk g).1):=by simp only[Subtype.ext_iff]
 rw[e,<-h];rfl
theorem LF:prog.info? 53=some Tryz.t53:=by kernel_rfl
theorem LG:prog.info? 159=some Tryz.t159:=by kernel_rfl
theorem LH:prog.info? 33=some Tryz.t33:=by kernel_rfl
theorem F8:jM prog 75 53 36:=⟨underlying75,Tryz.t53,.agg (ab 0::ab 0::ui [ak,ak]).toArray,LF,rfl,rfl,rfl,by decide⟩
theorem Ga:jM prog 162 159 143:=⟨underlying162,Tryz.t159,.agg (ab 0::ab 0::ab 0::ui (ab 0::ak::ak::ak::ak::ui (ab 0::ab 0::ui (ab 0::ab 0::ab 0::ui [ak,ak])))).toArray,LG,rfl,rfl,rfl,by decide⟩
theorem ndj:jM prog 72 33 32:=⟨underlying72,Tryz.t33,.agg (ui []).toArray,LH,rfl,rfl,rfl,by decide⟩
theorem Gb:xf prog 33 vy:=aaa underlying33 underlying5 sizeOf5 isAgg5
def pO (l:List Dk) (k:Dk):Int:=match l.findIdx? (λx=>decide (x=k))with|some i=>(i:Int)|none=> -1
theorem njo{l:List Dk}{k x:Dk}(dR:gE (λy=>decide (y=k)) l j)(hx:l[j]? =some x)(h:decide (x=k)=true):(j:Int)=pO l k:=by
 have e:l.findIdx? (λy=>decide (y=k))=some j:=by
  rw[aqr];have hl:=nq hx;obtain⟨_,Jt⟩:=hJ.1 hx;refine⟨hl,by rw[Jt];exact h,λi hi=>?_⟩;have:=dR i l[i] hi (ll _);simp[this]
 unfold pO;rw[e]
theorem Sk{l:List Dk}{k:Dk}(dR:gE (λy=>decide (y=k)) l j)(hj:¬j<l.length):(-1:Int)=pO l k:=by
 have e:l.findIdx? (λy=>decide (y=k))=none:=by
  rw[List.findIdx?_eq_none_iff];intro x hx;have:=List.any_eq_false.1 (nAd dR hj) x hx;simpa using this
 unfold pO;rw[e]
def vz (k:Dk):Array Value:=(cZ k).toArray
theorem Sl(f:Nat->Int)(k:Dk):oY (dg f).toList (vz k).toList=decide (k=dk f):=by
 have h:=WH (dk f).1 k.1 (by rw[(dk f).2,k.2]);have e:decide (k=dk f)=decide ((dk f).1=k.1):=by simp only[Subtype.ext_iff];exact decide_eq_decide.2 ⟨Eq.symm,Eq.symm⟩
 rw[e,<-h];rfl
theorem Sm(f:Nat->Int)(k:Dk):kM (mH 32 [.i]) (dg f).toList (vz k).toList=true:=n8f 32 (dk f).1 k.1 (dk f).2 k.2
theorem Gc(xs:List Dk)(hxl:xs.length<=1000000)(N:Nat)(a:Option Addr)(cp:Nat)(w:World)(hN:N<=w.heap.size)(aI:ai vz 32 N w a xs)(f:Nat->Int):Calls prog 107 #[.slice a xs.length cp,.agg (dg f)] w (aU w (ab (pO xs (dk f)))):=by
 refine eN func107 ntmps107 ?_;refine cK 2 ?_;intro b3 w3 dE da gi eO fw;refine B 12 ?_;refine CJ.lp (α:=Nat) [0,3,7] (λj=>[(8,ab (j:Int))]) (λj=>[]) (λj=>j<=xs.length/\gE (λy=>decide (y=dk f)) xs j) (λj=>xs.length-j) 0 ⟨cO _,λi x hi=>absurd hi aa⟩ ?_;rintro j ⟨hj,dR⟩;refine aG 6 ?_ ?_
 ·intro av;refine B 11 ?_;obtain⟨bo,oo,J,to,fg,rfl,fh,bX,aR⟩:=aI.get aa;obtain⟨x,hx⟩:=ng xs j aa;refine eA 5 (sp:=[_,_,_,_,some (.agg (vz x))]) (k:=?_);refine rq (.bool (decide (x=dk f))) (hQ nO zz nF rfl rfl (Sm f x)) (vb (Sl f x)) ?_;refine aG 2 ?_ ?_
  ·intro aS;refine B 12 ?_;exact zQh
  intro aS;refine B 7 ?_;exact zUh
 intro av;refine B 11 ?_;exact zQh
end Px
