/- Contracts of functions of the program. No condition beyond those stated. -/
import Derived.Test.YtpgobjebhigaoaaGreatDoorKh
import Derived.Test.YtpgobjebhigaoaaGreatDoorProg
set_option linter.unusedSimpArgs false
set_option linter.unusedVariables false
set_option linter.unusedSectionVars false
set_option linter.unnecessarySimpa false
set_option maxRecDepth 20000
set_option maxHeartbeats 8000000
namespace Px
open Go Go.RowKit Go.Proofs Go.Proofs.Tryz
noncomputable def dq (Z:Fx) (s:Sc):Nat->Lk->Bool
 |0,l=>nz l&&(if l.by_= -1 then false else JY Z s l)
 |n+1,l=>nz l&&(if l.by_= -1 then(match dh Z s.lks l with
  |some p=>iF Z s.pls l p&&dq Z s n p
  |none=>false)else JY Z s l)
variable {JE:Array Value} {C:Cx} {R:Ending->World->Prop} {E:Env} {e:Exit} {Z:Fx} {G:Gh} {g:Gp} {H:ad} {d:Int} {D:List Deferred} {pre:List Gv} {rs:List ResultVar} {vs:List Value} {L:List World} {lk:Lk} {N T i j k:Nat} {TJ:Nat×Nat} {o:Obj} {x:Operand} {a:Option Addr} {s:Sc} {v:Value} {W:World}
theorem HK{l:Lk}(hv:nz l=false):∀n,dq Z s n l=false
 |0=>by unfold dq;rw[hv];rfl
 |n+1=>by unfold dq;rw[hv];rfl
theorem ND{l:Lk}(hv:nz l=true)(hb:¬l.by_= -1):∀n,dq Z s n l=JY Z s l
 |0=>by unfold dq;rw[hv,if_neg hb];rfl
 |n+1=>by unfold dq;rw[hv,if_neg hb];rfl
theorem CN{l:Lk}(hb:l.by_= -1)(hp:dh Z s.lks l=none):∀n,dq Z s n l=false
 |0=>by unfold dq;rw[if_pos hb];simp
 |n+1=>by unfold dq;rw[if_pos hb,hp];simp
theorem CP{l:Lk}(hb:l.by_= -1):dq Z s 0 l=false:=by unfold dq;rw[if_pos hb];simp
theorem nYl{l p:Lk}(hv:nz l=true)(hb:l.by_= -1)(hp:dh Z s.lks l=some p)(n:Nat):dq Z s (n+1) l=(iF Z s.pls l p&&dq Z s n p):=by
 rw[dq,hv,if_pos hb,hp];rfl
def UJ (Z:Fx) (s:Sc) (N n:Nat):Prop:=∀(l:Lk) (w:World),cW l->N<=w.heap.size->dS N w s->Glb w->Calls prog 19 #[.agg (eZ s),.agg (lkC l),.int .i64 (n:Int)] w (av w (.bool (dq Z s n l)))
theorem n3j(hZ:FxOk Z)(s:Sc)(ho:eP s)(N:Nat)(w:World)(hN:N<=w.heap.size)(hs:dS N w s)(l:Lk)(hlk:cW l)(hg:Glb w)(n:Nat)(hn:n<=256)(hv:nz l=false):Calls prog 19 #[.agg (eZ s),.agg (lkC l),.int .i64 (n:Int)] w (av w (.bool (dq Z s n l))):=by
 have ew:=hg.lt;refine La ?_;refine yV ?_;intro b3 w3 aJ aD dr bY cR;refine yX ?_;intro b4 w4 cT dI k4 dD dH;refine B 6 ?_;refine R4 ?_;refine call call26 rfl rfl rfl (λW hS=>by have h9:=nI l W;rwa[hv]at h9) (v:=.bool false) ?_;refine B 11 ?_;refine ay results19 rfl A2 ?_;exact vb (HK hv n).symm
theorem n0k(hZ:FxOk Z)(s:Sc)(ho:eP s)(N:Nat)(w:World)(hN:N<=w.heap.size)(hs:dS N w s)(l:Lk)(hlk:cW l)(hg:Glb w)(n:Nat)(hn:n<=256)(hv:nz l=true)(hb:¬l.by_= -1):Calls prog 19 #[.agg (eZ s),.agg (lkC l),.int .i64 (n:Int)] w (av w (.bool (dq Z s n l))):=by
 have ew:=hg.lt;refine La ?_;refine yV ?_;intro b3 w3 aJ aD dr bY cR;refine yX ?_;intro b4 w4 cT dI k4 dD dH;refine B 6 ?_;refine R4 ?_;refine call call26 rfl rfl rfl (λW hS=>by have h9:=nI l W;rwa[hv]at h9) (v:=.bool true) ?_;refine B 11 ?_;refine rr (.int .i64 l.by_) (aa isAgg3 rfl A0 cT dI trivial rfl) ?_;refine rq (.bool true) (bM rfl rfl) (vb Nx) ?_;refine B 5 ?_;refine rr (.agg (eZ s)) (af isAgg81 sizeOf81 rfl A1 aJ aD trivial rfl) ?_;refine R4 ?_;refine call (v:=.bool (JY Z s l)) call35 rfl rfl rfl (λW hS=>nuj hZ s ho N W (aS hN (hS.links w A2).size) (hs.up (ao _) (hS.same A2 hN zU trivial)) l hlk (hg.old hS A2 zU trivial)) ?_;refine B 5 ?_;refine ay results19 rfl A2 ?_;exact vb (ND hv hb n).symm
theorem nVi(hZ:FxOk Z)(s:Sc)(ho:eP s)(N:Nat)(w:World)(hN:N<=w.heap.size)(hs:dS N w s)(l:Lk)(hlk:cW l)(hg:Glb w)(n:Nat)(hn:n<=256)(hv:nz l=true)(hb:l.by_= -1)(hp:dh Z s.lks l=none):Calls prog 19 #[.agg (eZ s),.agg (lkC l),.int .i64 (n:Int)] w (av w (.bool (dq Z s n l))):=by
 have ew:=hg.lt;refine La ?_;refine yV ?_;intro b3 w3 aJ aD dr bY cR;refine yX ?_;intro b4 w4 cT dI k4 dD dH;refine B 6 ?_;refine zse ?_;refine call (v:=.tuple #[.agg (lkC kO),.bool false]) call36 rfl rfl rfl (λW hS=>by have h9:=nOc hZ s ho N W (aS hN (hS.links w A2).size) (hs.up (ao _) (hS.same A2 hN zU trivial)) l (hg.old hS A2 zU trivial);rwa[hp]at h9) ?_;refine B 3 ?_;refine RQ ?_;refine yW ?_;intro b7 fu lG;refine IY ?_;refine B 27 ?_;refine YD ?_;exact vb (CN hb hp n).symm
theorem nio(hZ:FxOk Z)(s:Sc)(ho:eP s)(N:Nat)(w:World)(hN:N<=w.heap.size)(hs:dS N w s)(l:Lk)(hlk:cW l)(hg:Glb w)(n:Nat)(hn:n<=256)(hv:nz l=true)(hb:l.by_= -1)(p:Lk)(hp:dh Z s.lks l=some p)(h0:n=0):Calls prog 19 #[.agg (eZ s),.agg (lkC l),.int .i64 (n:Int)] w (av w (.bool (dq Z s n l))):=by
 have ew:=hg.lt;refine La ?_;refine yV ?_;intro b3 w3 aJ aD dr bY cR;refine yX ?_;intro b4 w4 cT dI k4 dD dH;refine zKi ?_;refine yW ?_;intro b7 fu lG;refine IY ?_;refine B 8 ?_;refine KL ?_;refine B 18 ?_;refine YD ?_;exact vb (by subst h0;exact(CP hb).symm)
theorem nCo(hZ:FxOk Z)(s:Sc)(ho:eP s)(N:Nat)(w:World)(hN:N<=w.heap.size)(hs:dS N w s)(l:Lk)(hlk:cW l)(hg:Glb w)(n:Nat)(hn:n<=256)(hv:nz l=true)(hb:l.by_= -1)(p:Lk)(hp:dh Z s.lks l=some p)(m:Nat)(h0:n=m+1)(hc:iF Z s.pls l p=false):Calls prog 19 #[.agg (eZ s),.agg (lkC l),.int .i64 (n:Int)] w (av w (.bool (dq Z s n l))):=by
 have ew:=hg.lt;refine La ?_;refine yV ?_;intro b3 w3 aJ aD dr bY cR;refine yX ?_;intro b4 w4 cT dI k4 dD dH;refine zKi ?_;refine yW ?_;intro b7 fu lG;refine IY ?_;refine B 8 ?_;refine QT ?_;refine B 2 ?_;refine zGf ?_;refine call (v:=.bool false) call37 rfl rfl rfl (λW hS=>by have h9:=ndf hZ s ho N W (aS hN (hS.links w A2).size) (hs.up (ao _) (hS.same A2 hN zU wN)) l p hlk (hg.old hS A2 zU wN);rwa[hc]at h9) ?_;refine B 12 ?_;refine YD ?_;exact vb (by subst h0;rw[nYl hv hb hp,hc];rfl)
theorem nBo(hZ:FxOk Z)(s:Sc)(ho:eP s)(N:Nat)(w:World)(hN:N<=w.heap.size)(hs:dS N w s)(l:Lk)(hlk:cW l)(hg:Glb w)(n:Nat)(hn:n<=256)(hv:nz l=true)(hb:l.by_= -1)(p:Lk)(hp:dh Z s.lks l=some p)(m:Nat)(h0:n=m+1)(hc:iF Z s.pls l p=true)(ih:UJ Z s N m):Calls prog 19 #[.agg (eZ s),.agg (lkC l),.int .i64 (n:Int)] w (av w (.bool (dq Z s n l))):=by
 have ew:=hg.lt;refine La ?_;refine yV ?_;intro b3 w3 aJ aD dr bY cR;refine yX ?_;intro b4 w4 cT dI k4 dD dH;refine zKi ?_;refine yW ?_;intro b7 fu lG;refine IY ?_;refine B 8 ?_;refine QT ?_;refine B 2 ?_;refine zGf ?_;refine call (v:=.bool true) call37 rfl rfl rfl (λW hS=>by have h9:=ndf hZ s ho N W (aS hN (hS.links w A2).size) (hs.up (ao _) (hS.same A2 hN zU wN)) l p hlk (hg.old hS A2 zU wN);rwa[hc]at h9) ?_;refine B 2 ?_;refine rr (.agg (eZ s)) (af isAgg81 sizeOf81 rfl A1 aJ aD zL rfl) ?_;refine rr (.agg (lkC p)) (aK (i:=0) rfl isAgg84 sizeOf84 rfl rfl) ?_;refine B 1 ?_;refine rq (.int .i64 (m:Int)) (gP rfl rfl zM zM) ((vi zM)) ?_;refine call (v:=.bool (dq Z s m p)) call19 rfl rfl rfl (λW hS=>ih p W (ho.ko p (HD hp)) (aS hN (hS.links w A2).size) (hs.up (ao _) (hS.same A2 hN zU wN)) (hg.old hS A2 zU wN)) ?_;refine B 5 ?_;refine YD ?_;exact vb (by subst h0;rw[nYl hv hb hp,hc];rfl)
theorem YE(hZ:FxOk Z)(s:Sc)(ho:eP s)(N:Nat):∀n,n<=256->UJ Z s N n:=by
 intro n;induction n with
 |zero=>
  intro hn l w hlk hN hs hg;cases hv:nz l with
  |false=>exact n3j hZ s ho N w hN hs l hlk hg 0 hn hv
  |true=>
   by_cases hb:l.by_= -1
   ·cases hp:dh Z s.lks l with
    |none=>exact nVi hZ s ho N w hN hs l hlk hg 0 hn hv hb hp
    |some p=>exact nio hZ s ho N w hN hs l hlk hg 0 hn hv hb p hp rfl
   exact n0k hZ s ho N w hN hs l hlk hg 0 hn hv hb
 |succ m ih=>
  intro hn l w hlk hN hs hg;cases hv:nz l with
  |false=>exact n3j hZ s ho N w hN hs l hlk hg (m+1) hn hv
  |true=>
   by_cases hb:l.by_= -1
   ·cases hp:dh Z s.lks l with
    |none=>exact nVi hZ s ho N w hN hs l hlk hg (m+1) hn hv hb hp
    |some p=>
     cases hc:iF Z s.pls l p with
     |false=>exact nCo hZ s ho N w hN hs l hlk hg (m+1) hn hv hb p hp m rfl hc
     |true=>exact nBo hZ s ho N w hN hs l hlk hg (m+1) hn hv hb p hp m rfl hc (ih zM)
   exact n0k hZ s ho N w hN hs l hlk hg (m+1) hn hv hb
theorem nZl(p:Fa->Bool)(f:Nat)(cap:List Value)(ax:dU prog f)(xs:List Fa)(ck:xs.length<=1000000)(N:Nat)(a:Option Addr)(cp:Nat)(w:World)(hN:N<=w.heap.size)(aN:ah gD 68 N w a xs)(hp:∀(j:Nat) (x:Fa),xs[j]? =some x->∀W,Below w.heap.size w W->Calls prog f (.agg (gD x)::cap).toArray W (av W (.bool (p x)))):Calls prog 42 #[.slice a xs.length cp,.func (.func f) #[] cap.toArray] w (cu w (λi:Int=>.int .i64 i) (λi _=>cZ p xs i)):=by
 refine enter (vs:=[_,_]) func42 rfl ntmps42 rfl ?_;refine Jj ?_;rintro j ⟨hj,er⟩;refine B 6 ?_;refine aO ?_ ?_
 ·intro aj;refine B 11 ?_;obtain⟨bo,oo,cs0,to,fA,rfl,fG,hcs,ar⟩:=aN.get zM;obtain⟨x,hx⟩:=nj xs j zM;refine B 5 ?_;refine rq (.agg (gD x)) (ag isAgg59 sizeOf59 rfl A0 hcs zZ trivial (nl ar hx rfl)) (va (nq ar hx rfl)) ?_;refine Jk ?_;refine aO ?_ ?_
  ·intro aQ;refine B 12 ?_;refine jM (j:Int) results42 rfl A0 rfl ?_;exact Jl
  exact Gs
 intro aj;refine B 11 ?_;refine jM (-1:Int) results42 rfl A0 rfl ?_;exact Gt
noncomputable def ra (Z:Fx) (s:Sc) (lk:Lk) (g:Gp):Option (Gp×Fa):=match s.fas.find? (λf:Fa=>jZ Z (dh Z s.lks lk) (jI Z lk) g f)with
 |some f=>if g.epoch<=lk.exp then some (g,f)else none
 |none=>none
noncomputable def xF (Z:Fx) (s:Sc) (lk:Lk) (ds:List Int):List (Gp×Fa):=ds.flatMap λd=>(p5 Z s d).filterMap (ra Z s lk)
noncomputable def py (Z:Fx) (s:Sc) (lk:Lk):List (Gp×Fa):=xF Z s lk (jC s.pls lk.fo)
def mM (e:Gv×Fa):Gp×Fa:=(e.1.g,e.2)
theorem NF(h:s.fas.any (λf:Fa=>jZ Z (dh Z s.lks lk) (jI Z lk) g f)=false):ra Z s lk g=none:=by
 unfold ra;rw[nMn h]
theorem CQ{f:Fa}(hk:s.fas[k]? =some f)(hp:jZ Z (dh Z s.lks lk) (jI Z lk) g f=true)(eN:fY (λf:Fa=>jZ Z (dh Z s.lks lk) (jI Z lk) g f) s.fas k)(he:¬g.epoch<=lk.exp):ra Z s lk g=none:=by
 unfold ra;rw[eN.find hk hp];exact if_neg he
theorem HL{f:Fa}(hk:s.fas[k]? =some f)(hp:jZ Z (dh Z s.lks lk) (jI Z lk) g f=true)(eN:fY (λf:Fa=>jZ Z (dh Z s.lks lk) (jI Z lk) g f) s.fas k)(he:g.epoch<=lk.exp):ra Z s lk g=some (g,f):=by
 unfold ra;rw[eN.find hk hp];exact if_pos he
theorem nmm{ds:List Int}(h:ds[i]? =some d):xF Z s lk (ds.take (i+1))=xF Z s lk (ds.take i)++(p5 Z s d).filterMap (ra Z s lk):=by
 unfold xF;rw[nC h,List.flatMap_append,List.flatMap_singleton]
theorem HM{ds:List Int}(i:Nat):xF Z s lk (ds.take i) <+:xF Z s lk ds:=by
 unfold xF;conv=>rhs;rw[<-yj i ds,List.flatMap_append]
 exact List.prefix_append _ _
theorem nDn{ys:List (Gv×Fa)}{x:Gv}(oX:ys.map mM=(pre.map (·.g)).filterMap (ra Z s lk))(h1:ra Z s lk x.g=none):ys.map mM=((pre++[x]).map (·.g)).filterMap (ra Z s lk):=by
 rw[ga,List.filterMap_append,oX];simp[h1]
theorem nun{ys:List (Gv×Fa)}{x:Gv}{y:Fa}(oX:ys.map mM=(pre.map (·.g)).filterMap (ra Z s lk))(h1:ra Z s lk x.g=some (x.g,y)):(ys++[(x,y)]).map mM=((pre++[x]).map (·.g)).filterMap (ra Z s lk):=by
 rw[ga,ga,List.filterMap_append,oX];simp[h1,mM]
theorem NG{ds:List Int}{yd ys:List (Gv×Fa)}{x:Gv}{y:Fa}(J1:yd.map mM=xF Z s lk (ds.take i))(oX:ys.map mM=(pre.map (·.g)).filterMap (ra Z s lk))(hx:ds[i]? =some d)(hp:(pre++[x]).map (·.g) <+:p5 Z s d)(h1:ra Z s lk x.g=some (x.g,y)):((yd++ys)++[(x,y)]).map mM <+:xF Z s lk ds:=by
 refine List.IsPrefix.trans ?_ (HM (i+1));rw[iH,ga,nun oX h1,J1,nmm hx];exact(List.prefix_append_right_inj _).2 (hp.filterMap _)
theorem HN{ds:List Int}{yd ys:List (Gv×Fa)}{xs:List Gv}(J1:yd.map mM=xF Z s lk (ds.take i))(oX:ys.map mM=(xs.map (·.g)).filterMap (ra Z s lk))(hx:ds[i]? =some d)(hf:xs.map (·.g)=p5 Z s d):(yd++ys).map mM=xF Z s lk (ds.take (i+1)):=by
 rw[ga,oX,J1,hf,nmm hx]
structure lz (Z:Fx) (s:Sc) (lk:Lk) (q:Nat×Nat×Nat) (W:World):Prop where
 r:W.heap[q.1]? =some (.cells #[.func (.func 79) #[] #[],.func (.func 80) #[] #[ptr q.2.1 0,ptr q.2.2 0]] 128 (0,0))
 p:W.heap[q.2.1]? =some (.cells #[.bool (dh Z s.lks lk).isSome] 4 (0,0))
 l:W.heap[q.2.2]? =some (.cells (lkC ((dh Z s.lks lk).getD kO)) 84 (0,0))
structure Qc (Z:Fx) (s:Sc) (lk:Lk) (g:Gv) (bi bg bs:Nat) (W:World):Prop where
 at_:aM W.heap.size W g
 glb:Glb W
 hi:W.heap[bi]? =some (.cells (dg (jI Z lk)) 34 (0,0))
 hg:W.heap[bg]? =some (.cells (aZ g) 57 (0,0))
 ru:∃q,W.heap[bs]? =some (.cells #[.slice (some ⟨q.1,0,none⟩) 2 2] 118 (0,0))/\lz Z s lk q W
theorem Qd{w:World}(hB:Below w.heap.size w W)(h:w.heap[k]? =some o):W.heap[k]? =some o:=(hB.block k (aL.1 h).1).trans h
theorem lz.bel{q:Nat×Nat×Nat}{w:World}(h:lz Z s lk q w)(hB:Below w.heap.size w W):lz Z s lk q W:=⟨Qd hB h.r,Qd hB h.p,Qd hB h.l⟩
theorem Qc.bel{g:Gv}{bi bg bs:Nat}{w:World}(h:Qc Z s lk g bi bg bs w)(hB:Below w.heap.size w W):Qc Z s lk g bi bg bs W:=by
 obtain⟨q,h1,h2⟩:=h.ru;exact⟨h.at_.up hB.size λk hk=>hB.block k hk,h.glb.bel hB,Qd hB h.hi,Qd hB h.hg,q,Qd hB h1,h2.bel hB⟩
theorem Qc.call(hZ:FxOk Z){g:Gv}{bi bg bs:Nat}(h:Qc Z s lk g bi bg bs W)(f:Fa)(hf:kL f):Calls prog 43 #[.agg (gD f),ptr bi 0,ptr bg 0,ptr bs 0] W (av W (.bool (jZ Z (dh Z s.lks lk) (jI Z lk) g.g f))):=by
 obtain⟨⟨q1,q2,q3⟩,h1,h2⟩:=h.ru;exact CK hZ f hf g W.heap.size W (ao _) h.at_ h.glb (dh Z s.lks lk) (jI Z lk) bi bg bs q1 q2 q3 h.hi h.hg h1 h2.r h2.p h2.l
theorem St.blk{w:World}(hS:St G L H W)(hw:w∈L)(hk:k<w.heap.size)(hX:¬G.X k)(ho:bE H k):W.heap[k]? =w.heap[k]? :=(hS.links w hw).block k hk (λhx=>hx.elim hX ho.mem)
theorem nAo{c:Code}{Q:aF}(L':List World)(ha:∀w∈L',∀p∈H,w.heap.size<=p.1)(hs:∀w∈L',w∈L)(k:∀W,St G L H W->CJ C c Q E D G (W::L') []):CJ C c Q E D G L H:=
 λa W hN hD hF hS=>by
  have hl:∀w∈L',aG (λk=>G.X k\/k∈([]:ad).map (·.1)) w W:=λw hw=>(hS.links w (hs w hw)).mono λj hj hx=>by
   rcases hx with hx|hx
   ·exact .inl hx
   obtain⟨p,hp,rfl⟩:=bU.1 hx;have:=ha w hw p hp;omega
  exact k W hS a W hN hD hF (St.snap ⟨hS.ghost,hS.vlt,hS.xlt,hl,(λp hp=>by cases hp),Jg,(λp hp=>by cases hp)⟩)
theorem nxg(s:Sc)(lk:Lk)(w:World):Calls prog 20 #[.agg (eZ s),.agg (lkC lk)] w (cu w (λq:Nat×Nat=>.func (.func 38) #[] #[ptr q.1 0,ptr q.2 0]) (λq w1=>w.heap.size<=q.1/\w.heap.size<=q.2/\w1.heap[q.1]? =some (.cells (lkC lk) 84 (0,0))/\w1.heap[q.2]? =some (.cells (eZ s) 81 (0,0)))):=by
 refine enter (vs:=[_,_]) func20 rfl ntmps20 rfl ?_;refine B 2 ?_;refine yX ?_;intro b2 w2 aI aE dY cA db;refine yX ?_;intro b3 w3 aJ aD dr bY cR;refine B 10 ?_;refine jM (b3,b2) results20 rfl A2 rfl ?_;try simp only[ab]at cA bY
 have Ru:=cA.1;have K5:=bY.1;try have aeS:=bY.2.1
 exact λW hS=>⟨by omega,by omega,hS.old A0 aJ aD trivial,hS.old A1 aI aE trivial⟩
theorem nfh(hZ:FxOk Z)(s:Sc)(ho:eP s)(N:Nat)(lk:Lk)(hlk:cW lk)(b1 b2:Nat)(W:World)(hN:N<=W.heap.size)(hNg:5<=N)(hs:dS N W s)(hg:Glb W)(aP:W.heap[b1]? =some (.cells (lkC lk) 84 (0,0)))(aI:W.heap[b2]? =some (.cells (eZ s) 81 (0,0))):vz prog 38 [ptr b1 0,ptr b2 0] (λe:Gv×Fa=>[.agg (aZ e.1),.agg (gD e.2)]) (λp:List (Gv×Fa)=>p.map mM <+:py Z s lk/\p.length<=20000) (λp:List (Gv×Fa)=>p.map mM=py Z s lk/\p.length<=20000) (λ_=>False) (q4 N b1 b2) W:=by
 intro l0 M0 I X0 hM hI hX hy h0;have aX:¬(cj hM (λ_=>False) (hI [] _)).X b1:=by rintro(h|h);exact(hM _ h).2.2 (.inr (.inl rfl));exact h.elim
 have aE:¬(cj hM (λ_=>False) (hI [] _)).X b2:=by rintro(h|h);exact(hM _ h).2.2 (.inr (.inr rfl));exact h.elim
 have mB:=(aL.1 aP).1;have xj:=(aL.1 aI).1;refine wy (cj hM (λ_=>False) (hI [] _)) [] (vs:=[_,_,_]) func38 rfl ntmps38 rfl (I6 hM (hI [] _) h0 z1 Jg z1) ?_;refine B 2 ?_;refine yX ?_;intro b3 w3 aJ aD dr bY cR;refine B 3 ?_;refine ng (E':=[(0,_),(1,_),(2,_),(3,_)]) zR ?_;refine Pg 7 [4,5,6] [([],some (.agg (lkC lk))),([0],some (.agg (dg (jI Z lk)))),([],some (.agg (eZ s))),([],some (.agg (lkC lk))),([2,3],none),([],none),([],none)] [[],[],[]] (λcv L' H'=>match cv with| [none,none,none]=>L'=[w3,W]/\H'=[]| [none,none,some v6]=>∃(b5:Nat),v6=ptr b5 0/\L'=[w3,W]/\H'=[(b5,.cells #[.slice none 0 0] 118 (0,0))]/\W.heap.size<=b5/\w3.heap.size<=b5| [none,some v5,none]=>∃(b4:Nat),v5=ptr b4 0/\L'=[w3,W]/\H'=[(b4,.cells (dg (λ_=>0)) 34 (0,0))]/\W.heap.size<=b4/\w3.heap.size<=b4| [none,some v5,some v6]=>∃(b4:Nat) (b5:Nat),v5=ptr b4 0/\v6=ptr b5 0/\L'=[w3,W]/\H'=[(b5,.cells #[.slice none 0 0] 118 (0,0)),(b4,.cells (dg (λ_=>0)) 34 (0,0))]/\W.heap.size<=b4/\w3.heap.size<=b4/\W.heap.size<=b5/\w3.heap.size<=b5| [some v4,none,none]=>∃(q:Nat×Nat×Nat) (wr:World),v4= .slice (some ⟨q.1,0,none⟩) 2 2/\L'=[wr,w3,W]/\H'=[]/\lz Z s lk q wr/\(q.1<wr.heap.size/\q.2.1<wr.heap.size/\q.2.2<wr.heap.size)/\(W.heap.size<=q.1/\W.heap.size<=q.2.1/\W.heap.size<=q.2.2)| [some v4,none,some v6]=>∃(q:Nat×Nat×Nat) (wr:World) (b5:Nat),v4= .slice (some ⟨q.1,0,none⟩) 2 2/\v6=ptr b5 0/\L'=[wr,w3,W]/\H'=[(b5,.cells #[.slice none 0 0] 118 (0,0))]/\lz Z s lk q wr/\(q.1<wr.heap.size/\q.2.1<wr.heap.size/\q.2.2<wr.heap.size)/\(W.heap.size<=q.1/\W.heap.size<=q.2.1/\W.heap.size<=q.2.2)/\W.heap.size<=b5/\w3.heap.size<=b5/\(q.1≠b5/\q.2.1≠b5/\q.2.2≠b5)| [some v4,some v5,none]=>∃(q:Nat×Nat×Nat) (wr:World) (b4:Nat),v4= .slice (some ⟨q.1,0,none⟩) 2 2/\v5=ptr b4 0/\L'=[wr,w3,W]/\H'=[(b4,.cells (dg (λ_=>0)) 34 (0,0))]/\lz Z s lk q wr/\(q.1<wr.heap.size/\q.2.1<wr.heap.size/\q.2.2<wr.heap.size)/\(W.heap.size<=q.1/\W.heap.size<=q.2.1/\W.heap.size<=q.2.2)/\W.heap.size<=b4/\w3.heap.size<=b4/\(q.1≠b4/\q.2.1≠b4/\q.2.2≠b4)| [some v4,some v5,some v6]=>∃(q:Nat×Nat×Nat) (wr:World) (b4:Nat) (b5:Nat),v4= .slice (some ⟨q.1,0,none⟩) 2 2/\v5=ptr b4 0/\v6=ptr b5 0/\L'=[wr,w3,W]/\H'=[(b5,.cells #[.slice none 0 0] 118 (0,0)),(b4,.cells (dg (λ_=>0)) 34 (0,0))]/\lz Z s lk q wr/\(q.1<wr.heap.size/\q.2.1<wr.heap.size/\q.2.2<wr.heap.size)/\(W.heap.size<=q.1/\W.heap.size<=q.2.1/\W.heap.size<=q.2.2)/\W.heap.size<=b4/\w3.heap.size<=b4/\W.heap.size<=b5/\w3.heap.size<=b5/\(q.1≠b4/\q.2.1≠b4/\q.2.2≠b4)/\(q.1≠b5/\q.2.1≠b5/\q.2.2≠b5)|_=>False) zT ⟨rfl,rfl⟩ zT zT zT zT zT zT rfl (qc YF (qc YF (qc YF (qc YF (qk (qk (qk (qn)))))))) ?_ ?_
 ·refine nc rfl rfl rfl rfl ?_ ?_
  ·intro cv L' H' hl hr hP F Q' hk;obtain⟨x4,x5,x6,rfl⟩:=gp hl;rcases x4 with _|v4<;>rcases x5 with _|v5<;>rcases x6 with _|v6
   ·obtain⟨rfl,rfl⟩:=hP;refine YG ?_;rintro Wr q wr pg L1 ⟨hg1,tu,G7,kM,tN,sW⟩;try dsimp only at hg1 tu G7 kM tN sW
    have oD:lz Z s lk q wr:=⟨kM,tN,sW⟩;have mh:(q.1<wr.heap.size/\q.2.1<wr.heap.size/\q.2.2<wr.heap.size):=⟨(aL.1 kM).1,(aL.1 tN).1,(aL.1 sW).1⟩;have mH:=(pg.links W A1).size;have ov:W.heap.size<=q.1/\W.heap.size<=q.2.1/\W.heap.size<=q.2.2:=⟨by omega,by omega,by omega⟩;exact OJ.done (hk _ _ _ ⟨q,wr,rfl,rfl,rfl,oD,mh,ov⟩)
   ·obtain⟨b5,rfl,rfl,rfl,rL,sX⟩:=hP;refine YG ?_;rintro Wr q wr pg L1 ⟨hg1,tu,G7,kM,tN,sW⟩;try dsimp only at hg1 tu G7 kM tN sW
    have oD:lz Z s lk q wr:=⟨kM,tN,sW⟩;have mh:(q.1<wr.heap.size/\q.2.1<wr.heap.size/\q.2.2<wr.heap.size):=⟨(aL.1 kM).1,(aL.1 tN).1,(aL.1 sW).1⟩;have mH:=(pg.links W A1).size;have ov:W.heap.size<=q.1/\W.heap.size<=q.2.1/\W.heap.size<=q.2.2:=⟨by omega,by omega,by omega⟩;have HO:(q.1≠b5/\q.2.1≠b5/\q.2.2≠b5):=by have h9:=pg.lt (b5,_) A0;dsimp only at h9;exact⟨by omega,by omega,by omega⟩
    exact zgl
   ·obtain⟨b4,rfl,rfl,rfl,rM,sY⟩:=hP;refine YG ?_;rintro Wr q wr pg L1 ⟨hg1,tu,G7,kM,tN,sW⟩;try dsimp only at hg1 tu G7 kM tN sW
    have oD:lz Z s lk q wr:=⟨kM,tN,sW⟩;have mh:(q.1<wr.heap.size/\q.2.1<wr.heap.size/\q.2.2<wr.heap.size):=⟨(aL.1 kM).1,(aL.1 tN).1,(aL.1 sW).1⟩;have mH:=(pg.links W A1).size;have ov:W.heap.size<=q.1/\W.heap.size<=q.2.1/\W.heap.size<=q.2.2:=⟨by omega,by omega,by omega⟩;have HP:(q.1≠b4/\q.2.1≠b4/\q.2.2≠b4):=by have h9:=pg.lt (b4,_) A0;dsimp only at h9;exact⟨by omega,by omega,by omega⟩
    exact zhl
   ·obtain⟨b4,b5,rfl,rfl,rfl,rfl,rM,sY,rL,sX⟩:=hP;refine YG ?_;rintro Wr q wr pg L1 ⟨hg1,tu,G7,kM,tN,sW⟩;try dsimp only at hg1 tu G7 kM tN sW
    have oD:lz Z s lk q wr:=⟨kM,tN,sW⟩;have mh:(q.1<wr.heap.size/\q.2.1<wr.heap.size/\q.2.2<wr.heap.size):=⟨(aL.1 kM).1,(aL.1 tN).1,(aL.1 sW).1⟩;have mH:=(pg.links W A1).size;have ov:W.heap.size<=q.1/\W.heap.size<=q.2.1/\W.heap.size<=q.2.2:=⟨by omega,by omega,by omega⟩;have HP:(q.1≠b4/\q.2.1≠b4/\q.2.2≠b4):=by have h9:=pg.lt (b4,_) A1;dsimp only at h9;exact⟨by omega,by omega,by omega⟩
    have HO:(q.1≠b5/\q.2.1≠b5/\q.2.2≠b5):=by have h9:=pg.lt (b5,_) A0;dsimp only at h9;exact⟨by omega,by omega,by omega⟩
    exact z4j
   ·exact az
   ·exact az
   ·exact az
   exact az
  refine nc rfl rfl rfl rfl ?_ ?_
  ·intro cv L' H' hl hr hP F Q' hk;obtain⟨x4,x5,x6,rfl⟩:=gp hl;rcases x4 with _|v4<;>rcases x5 with _|v5<;>rcases x6 with _|v6
   ·obtain⟨rfl,rfl⟩:=hP;refine rT ?_;intro b4 ha ho;have rM:W.heap.size<=b4:=ha.mem W z1;have sY:w3.heap.size<=b4:=ha.mem w3 z1;exact OJ.done (hk _ _ _ ⟨b4,rfl,rfl,rfl,rM,sY⟩)
   ·obtain⟨b5,rfl,rfl,rfl,rL,sX⟩:=hP;refine rT ?_;intro b4 ha ho;have rM:W.heap.size<=b4:=ha.mem W z1;have sY:w3.heap.size<=b4:=ha.mem w3 z1;refine zth ?_;exact OJ.done (hk _ _ _ ⟨b4,b5,rfl,rfl,rfl,rfl,rM,sY,rL,sX⟩)
   ·exact az
   ·exact az
   ·obtain⟨q,wr,rfl,rfl,rfl,oD,mh,ov⟩:=hP;refine rT ?_;intro b4 ha ho;have rM:W.heap.size<=b4:=ha.mem W z1;have sY:w3.heap.size<=b4:=ha.mem w3 z1;have HP:(q.1≠b4/\q.2.1≠b4/\q.2.2≠b4):=by have h9:=ha.mem wr z1;exact⟨by omega,by omega,by omega⟩
    exact zhl
   ·obtain⟨q,wr,b5,rfl,rfl,rfl,rfl,oD,mh,ov,rL,sX,HO⟩:=hP;refine rT ?_;intro b4 ha ho;have rM:W.heap.size<=b4:=ha.mem W z1;have sY:w3.heap.size<=b4:=ha.mem w3 z1;have HP:(q.1≠b4/\q.2.1≠b4/\q.2.2≠b4):=by have h9:=ha.mem wr z1;exact⟨by omega,by omega,by omega⟩
    refine zth ?_;exact z4j
   ·exact az
   exact az
  refine nc rfl rfl rfl rfl ?_ ?_
  ·intro cv L' H' hl hr hP F Q' hk;obtain⟨x4,x5,x6,rfl⟩:=gp hl;rcases x4 with _|v4<;>rcases x5 with _|v5<;>rcases x6 with _|v6
   ·obtain⟨rfl,rfl⟩:=hP;refine aY zeroValue118 rfl rfl ?_;intro b5 ha ho;have rL:W.heap.size<=b5:=ha.mem W z1;have sX:w3.heap.size<=b5:=ha.mem w3 z1;exact OJ.done (hk _ _ _ ⟨b5,rfl,rfl,rfl,rL,sX⟩)
   ·exact az
   ·obtain⟨b4,rfl,rfl,rfl,rM,sY⟩:=hP;refine aY zeroValue118 rfl rfl ?_;intro b5 ha ho;have rL:W.heap.size<=b5:=ha.mem W z1;have sX:w3.heap.size<=b5:=ha.mem w3 z1;exact OJ.done (hk _ _ _ ⟨b4,b5,rfl,rfl,rfl,rfl,rM,sY,rL,sX⟩)
   ·exact az
   ·obtain⟨q,wr,rfl,rfl,rfl,oD,mh,ov⟩:=hP;refine aY zeroValue118 rfl rfl ?_;intro b5 ha ho;have rL:W.heap.size<=b5:=ha.mem W z1;have sX:w3.heap.size<=b5:=ha.mem w3 z1;have HO:(q.1≠b5/\q.2.1≠b5/\q.2.2≠b5):=by have h9:=ha.mem wr z1;exact⟨by omega,by omega,by omega⟩
    exact zgl
   ·exact az
   ·obtain⟨q,wr,b4,rfl,rfl,rfl,rfl,oD,mh,ov,rM,sY,HP⟩:=hP;refine aY zeroValue118 rfl rfl ?_;intro b5 ha ho;have rL:W.heap.size<=b5:=ha.mem W z1;have sX:w3.heap.size<=b5:=ha.mem w3 z1;have HO:(q.1≠b5/\q.2.1≠b5/\q.2.2≠b5):=by have h9:=ha.mem wr z1;exact⟨by omega,by omega,by omega⟩
    exact z4j
   exact az
  exact nn
 intro cv L' H' hl hr hP;obtain⟨x4,x5,x6,rfl⟩:=gp hl;rcases x4 with _|v4<;>rcases x5 with _|v5<;>rcases x6 with _|v6
 ·exact az
 ·exact az
 ·exact az
 ·exact az
 ·exact az
 ·exact az
 ·exact az
 obtain⟨q,wr,b4,b5,rfl,rfl,rfl,rfl,rfl,oD,mh,ov,rM,sY,rL,sX,HP,HO⟩:=hP;refine aV (i:=1) rfl sizeOf34 rfl rfl rfl rfl rfl rfl ?_;refine aV (i:=0) rfl sizeOf118 rfl rfl rfl rfl rfl rfl ?_;refine B 3 ?_;refine CJ.reH (H':=[(b5,.cells #[.slice (some ⟨q.1,0,none⟩) 2 2] 118 (0,0)),(b4,.cells (dg (jI Z lk)) 34 (0,0))]) rfl ?_;refine nAo [w3,W] (by intro v hv p hp;simp only[cP,fm,or_false]at hv hp;rcases hv with rfl|rfl<;>rcases hp with rfl|rfl<;>(dsimp only;omega)) z1 (λWb NH=>?_);have ff:=NH.own (b5,_) A0;have cT:=NH.own (b4,_) A1;try dsimp only at cT ff
 have hxq:∀k,W.heap.size<=k->¬(cj hM (λ_=>False) (hI [] _)).X k:=λk hk=>by rintro(h|h);(have:=(hM _ h).1;omega);exact h.elim
 replace oD:lz Z s lk q Wb:=⟨NH.old A0 oD.r (hxq _ ov.1) yo,NH.old A0 oD.p (hxq _ ov.2.1) yo,NH.old A0 oD.l (hxq _ ov.2.2) yo⟩;have hzb:=(NH.links W A2).size;have ahT:=(NH.links w3 A1).size;refine B 1 ?_;refine rr (.agg (eZ s)) (ag isAgg81 sizeOf81 rfl A2 aI aE trivial (aT rfl)) ?_;refine rr (.agg (lkC lk)) (ag isAgg84 sizeOf84 rfl A2 aP aX trivial (aT rfl)) ?_;refine xe (enc:=ai) (m:=1) (t:=3) (xs:=(jC s.pls lk.fo)) (v:=id) (first:=[]) (cap:=[]) rfl call40 rfl rfl rfl nu (λW9 hS=>nyk hZ s ho N W9 (aS hN (hS.links W A2).size) (hs.up (ao _) (λk hk=>hS.ro A2 (λ_ h=>h.elim) z7 (.inl hk) zM)) lk) ?_;intro W7 a7 c7 w7 hS7 hB7 iD pN;replace iD:ah encI 1 w7.heap.size w7 a7 (jC s.pls lk.fo):=iD;have KF:=hB7.size;have ZK:=(hS7.links Wb A0).size;have uS:=n8l s.pls lk.fo;have hpl:=ho.pl;refine B 5 ?_;refine n9l (α:=((Nat×List Mk)×aA)×List (Gv×Fa)) (λp=>SG p.1.1.2) (λp=>[(1,ptr b1 0),(2,ptr b2 0),(3,ptr b3 0),(4,ptr b4 0),(5,ptr b5 0),(17,.slice a7 (jC s.pls lk.fo).length c7),(18,.int .i64 ((jC s.pls lk.fo).length:Int)),(19,.int .i64 (p.1.1.1:Int))]) (λp=>jU p.1.1.2) (λp=>[w7,Wb,w3,W]) (λp=>cj hM p.1.2 (hI p.2 p.1.2)) (λp=>p.1.1.1<=(jC s.pls lk.fo).length/\uN w7.heap.size p.1.1.2/\(∀j,p.1.2 j->w7.heap.size<=j)/\p.2.map mM=xF Z s lk ((jC s.pls lk.fo).take p.1.1.1)/\p.2.length<=p.1.1.1*1000) (λp=>(jC s.pls lk.fo).length-p.1.1.1) (((0,[]),λ_=>False),[]) ⟨dx _,nbm _,λ_ h=>h.elim,rfl,dx _⟩ zR rfl rfl z1 rfl ?_
 rintro⟨⟨⟨i,ms⟩,V0⟩,yd⟩ ⟨hi,rG,pQ,J1,Rn⟩;dsimp only at hi rG pQ J1 Rn ⊢;have Em:∀k,q4 N b1 b2 k\/W.heap.size<=k->k<w7.heap.size->¬(cj hM V0 (hI yd V0)).X k:=by
  rintro k h1 h2 (h|h)
  ·rcases h1 with h1|h1
   ·exact(hM _ h).2.2 h1
   have:=(hM _ h).1;omega
  have:=pQ _ h;omega
 refine B 6 ?_;refine aO ?_ ?_
 ·intro aj;refine B 5 ?_;obtain⟨bo,oo,cs0,to,fA,rfl,fG,hcs,ar⟩:=iD.get zM;obtain⟨df,hx⟩:=nj (jC s.pls lk.fo) i zM;refine B 2 ?_;refine rv rfl rfl rfl (aa (v:=.int .i64 df) isAgg3 rfl A0 hcs (Em bo (.inr (by have:=pN _ rfl;dsimp only at this;omega)) fG) (SH rG fG) (D3 ar hx rfl 0 zQ)) ?_;refine B 5 ?_;refine rr (.agg (eZ s)) (ag isAgg81 sizeOf81 rfl A3 aI (Em b2 (.inl (.inr (.inr rfl))) zM) (SH rG zM) (aT rfl)) ?_;refine B 1 ?_;refine nr (α:=Nat×Nat) (v:=λq:Nat×Nat=>.func (.func 83) #[] #[ptr q.1 0,ptr q.2 0]) (Φ:=λW q w1=>W.heap.size<=q.1/\W.heap.size<=q.2/\w1.heap[q.1]? =some (.cells (eZ s) 81 (0,0))/\w1.heap[q.2]? =some (.cells #[.int .i64 df] 3 (0,0))) call41 rfl rfl rfl (λW hS=>nug s df W) ?_;rintro Wn q0 wn hJ od ⟨gX,gY,eO,eY⟩;try dsimp only at gX gY eO eY
  have qJ:=(aL.1 eO).1;have qK:=(aL.1 eY).1;have Bh:=od.size;have ahU:=(hJ.links W A3).size;have ahV:=(hJ.links w7 A0).size;have hVk:∀j,V0 j->j<Wn.heap.size:=λj hj=>hJ.xlt j (.inr hj);have AO:∀j,Wn.heap.size<=j->j∉(jU ms).map (·.1)/\¬(cj hM V0 (hI yd V0)).X j:=λj hj=>⟨λhm=>by obtain⟨p,hp,e⟩:=bU.1 hm;have:=hJ.lt p hp;omega,λhx=>by rcases hx with hx|hx;(have:=(hM _ hx).1;omega);(have:=hVk _ hx;omega)⟩;have sA:∀j,q4 N q0.1 q0.2 j->j<wn.heap.size/\j∉(jU ms).map (·.1)/\¬(cj hM V0 (hI yd V0)).X j:=by
   intro j hj;rcases hj with hj|rfl|rfl
   ·exact⟨by omega,λhm=>by obtain⟨p,hp,e⟩:=bU.1 hm;have:=Gj rG p hp;omega,Em j (.inl (.inl hj)) zM⟩
   ·exact⟨qJ,AO _ gX⟩
   exact⟨qK,AO _ gY⟩
  refine B 3 ?_;refine CJ.range3 (f:=83) (cap:=[ptr q0.1 0,ptr q0.2 0]) (α:=Gv) (enc:=(λg:Gv=>[.agg (aZ g)])) (Pre:=(λ(p:List Gv) (Y:aA) (A:World)=>(p.map (·.g) <+:p5 Z s df/\p.length<=1000)/\∀e∈p,aM A.heap.size A e/\du Y e)) (Fin:=(λ(p:List Gv) (_:aA) (_:World)=>p.map (·.g)=p5 Z s df/\p.length<=1000)) (RO:=q4 N q0.1 q0.2) (MI:=λ_=>False) rfl call83 (λW' W2 hS hB=>by have l1:=(hS.links wn A0).size;have l2:=(hS.links W A4).size;have sm:∀k,k<N->W2.heap[k]? =W.heap[k]? :=λk hk=>(hB.block k zM).trans (hS.blk A4 zM (sA k (.inl hk)).2.2 (bE.of_mem (sA k (.inl hk)).2.1));exact nSh hZ s ho N df q0.1 q0.2 W2 (aS zM hB.size) hNg (hs.up (ao _) sm) (hg.up (λk hk=>sm k zM)) (by rw[hB.block q0.1 zM];exact hS.old A0 eO (sA _ (.inr (.inl rfl))).2.2 (bE.of_mem (sA _ (.inr (.inl rfl))).2.1)) (by rw[hB.block q0.2 zM];exact hS.old A0 eY (sA _ (.inr (.inr rfl))).2.2 (bE.of_mem (sA _ (.inr (.inr rfl))).2.1))) (λ_ _ _ hk=>hk.elim) (λW' hS j hj=>⟨by have:=(sA j hj).1;have:=(hS.links wn A0).size;omega,(sA j hj).2⟩) (λ_=>rfl) (λpre G' Hc=>∃(V1:aA) (ys:List (Gv×Fa)),(∀j,V0 j->V1 j)/\(∀j,V1 j->V0 j\/w7.heap.size<=j)/\ys.map mM=(pre.map (·.g)).filterMap (ra Z s lk)/\ys.length<=pre.length/\G'=cj hM V1 (hI (yd++ys) V1)/\Hc=jU ms) (λc G' Hc=>c= .ret/\∃V1:aA,(∀j,V1 j->W.heap.size<=j)/\G'=cj hM V1 (hX V1)/\Hc=jU ms) ⟨V0,[],λ_ h=>h,λ_ h=>.inl h,rfl,dx _,by rw[dN],rfl⟩ zQ ?_ ?_ ?_
  ·rintro pre x G' Hc l Dk rec W1 M V Wy iM mz dF ⟨V1,ys,D1,vK,oX,IQ,rfl,rfl⟩ cQ eW yP mQ aW sk;simp only[ab]at cQ mQ;have LM:∀j,V1 j->W.heap.size<=j:=λj hj=>by rcases vK j hj with h|h;(have:=pQ j h;omega);omega
   have NI:∀k,q4 N b1 b2 k\/W.heap.size<=k->k<w7.heap.size->¬((cj hM V1 (hI (yd++ys) V1)).ext λk=>M k\/V k).X k:=λk h1 h2=>aW.z zM (Em k h1 h2) (λhm=>by obtain⟨p,hp,e⟩:=bU.1 hm;have:=Gj rG p hp;omega) (by rintro(h|h);(rcases h1 with h1|h1;(exact(hM _ h).2.2 h1);(have:=(hM _ h).1;omega));(rcases vK _ h with h|h;(have:=pQ _ h;omega);omega));have tM:=dF.2 x (cS.2 (.inr A0));have JX:du ((cj hM V1 (hI (yd++ys) V1)).ext λk=>M k\/V k).X x:=⟨λq e=>(tM.2.1 q e).imp id (λh1 h2=>h1 (h2.elim (aW.loc.x _) id)),λq e=>(tM.2.2 q e).imp id (λh1 h2=>h1 (h2.elim (aW.loc.x _) id))⟩;have hzy:=(sk.links w7 A1).size;refine B 1 ?_;refine qV ?_;refine yW ?_;intro b8 ua uc;refine GR ?_;refine B 1 ?_;refine PJ.reH (H':=book ([(b8,.cells (aZ x) 57 (0,0))]++jU ms) l rec (bQ Dk)) rfl ?_;have pj:∀k,k<w7.heap.size->bE (book ([(b8,.cells (aZ x) 57 (0,0))]++jU ms) l {rec with state:=.busy} (bQ Dk)) k:=λk hk=>by unfold book;rw[ne];exact⟨⟨by dsimp only;omega,SH rG hk⟩,by simp only[bQ,bE,and_true];omega⟩
   have JV:∀p∈book ([(b8,.cells (aZ x) 57 (0,0))]++jU ms) l {rec with state:=.busy} (bQ Dk),mK p.1 x:=by
    intro p hp;simp only[book,bQ,fj,eg,cP,cS,fm,or_false]at hp;rcases hp with rfl|hp|rfl|rfl
    ·exact tM.1.off dE
    ·exact tM.2.off (aW.loc.h p hp)
    ·exact tM.2.off (.inl (aW.m' _ (.inr eW)))
    exact tM.2.off (.inl (aW.m' _ (.inl rfl)))
   refine L7 iM ?_;refine B 5 ?_;refine rr (.slice s.xa s.fas.length s.xc) (aa isAgg28 rfl A5 aI (NI b2 (.inl (.inr (.inr rfl))) zM) (pj b2 zM) rfl) ?_;refine B 1 ?_;refine nr (α:=Int) (v:=λi:Int=>.int .i64 i) (Φ:=λ_ i _=>cZ (λf:Fa=>jZ Z (dh Z s.lks lk) (jI Z lk) x.g f) s.fas i) call42 rfl rfl rfl (λW9 hS=>by
    have l9:=(hS.links W A5).size;have sm:∀k,k<N->W9.heap[k]? =W.heap[k]? :=λk hk=>hS.blk A5 zM (NI k (.inl (.inl hk)) zM) (pj k zM);have sb:∀k o,W.heap.size<=k->Wb.heap[k]? =some o->W9.heap[k]? =some o:=λk o hk h=>by have h8:=(aL.1 h).1;exact(hS.blk A3 h8 (NI k (.inr hk) zM) (pj k zM)).trans h
    have hR:Qc Z s lk x b4 b8 b5 W9:=⟨tM.1.toZ hS A0 (ao _) JX JV,hg.up (λk hk=>sm k zM),sb _ _ rM cT,hS.own (b8,_) A0,q,sb _ _ rL ff,sb _ _ ov.1 oD.r,sb _ _ ov.2.1 oD.p,sb _ _ ov.2.2 oD.l⟩;exact nZl (λf:Fa=>jZ Z (dh Z s.lks lk) (jI Z lk) x.g f) 43 [ptr b4 0,ptr b8 0,ptr b5 0] call43 s.fas (by have:=ho.xl;omega) N s.xa s.xc W9 (aS hN l9) (hs.fx.up (ao _) sm) (λj y hy W2 hB=>(hR.bel hB).call hZ y (ho.xo y (cB hy)))) ?_
   intro Wi i2 wi sC sD DW;refine B 4 ?_;rcases DW with⟨rfl,ib⟩|⟨kf,y,rfl,rQ,hpy,eN⟩
   ·have h1:=NF ib;refine zif ?_;refine nk 19 [.det [] _,.det [0] _,.det [1] _,.det [2] undef,.det [2,3] undef,.det [2] undef,.det [2,5] undef,.det [2,6] undef,.det [2,4,7] undef,.det [2,8] _,.det [9] _,.det [10] undef,.det [10] undef,.det [10] undef,.det [10,13] undef,.det [10,14] undef,.det [10] undef,.det [10,15,16] undef,.det [10,17] undef] zT (xc zO (xc Uu (xc zO (xc zN (xc zN (xc zN (xc zN (xc zN (xc zN (xc z8 (xc zO (xc zN (xc zN (xc zN (xc zN (xc zN (xc zN (xc zN (xc zN (xn)))))))))))))))))))) zT zT zT (λae=>?_);exact z9k
   by_cases hep:x.g.epoch<=lk.exp
   ·have h1:=HL rQ hpy eN hep;obtain⟨bf,of,csf,tf,frf,iV,hbf,aeY,UK⟩:=hs.fx.get (by have:=nF rQ;omega);have lH:=nF rQ;refine zif ?_;refine nk 19 [.det [] _,.det [0] _,.det [1] _,.det [2] _,.det [2,3] _,.det [2] _,.det [2,5] _,.det [2,6] _,.det [2,4,7] _,.det [2,8] _,.det [9] _,.det [10] _,.det [10] _,.det [10] _,.det [10,13] _,.det [10,14] _,.det [10] _,.det [10,15,16] _,.det [10,17] _] zT (xc zO (xc Nq (xc zO (xc AX (xc zXc (xc qA (xc uA (xc zPd (xc zVd (xc z6 (xc zO (xc (by exact λae=>X.val rfl rfl (aa (v:=yv l0) isAgg117 rfl A5 aJ (NI b3 (.inr zM) zM) (pj b3 zM) rfl) (λ_ _=>rfl)) (xc (by exact λae=>X.val rfl rfl (RV.re (v':=.agg (aZ x)) (aK (i:=0) rfl isAgg57 sizeOf57 rfl rfl) (rfl)) (λ_ _=>rfl)) (xc (by exact λae=>X.val rfl rfl (ak underlying81 rfl sizeOf31 rfl) (λ_ _=>rfl)) (xc (by exact λae=>X.val rfl rfl (ak underlying31 rfl sizeOf28 rfl) (λ_ _=>rfl)) (xc (by exact λae=>X.val rfl rfl (RV.re (v':=.slice (some ⟨bf,of,none⟩) s.fas.length s.xc) (aa isAgg28 rfl A6 aI (NI b2 (.inl (.inr (.inr rfl))) zM) (pj b2 zM) rfl) (by rw[<-iV];rfl)) (λ_ _=>rfl)) (xc zO (xc (by exact λae=>X.val rfl rfl (cL underlying28 sizeOf59 rfl rfl zM zM) (λ_ _=>rfl)) (xc (by exact λae=>X.val rfl rfl (RV.re (v':=.agg (gD y)) (ag isAgg59 sizeOf59 rfl A6 aeY (NI bf (.inl (.inl hbf)) zM) (pj bf zM) (nl UK rQ rfl)) (va (nq UK rQ rfl))) (λ_ _=>rfl)) (xn)))))))))))))))))))) zT zT zT (λae=>?_)
    refine LN (λj=>M j\/V j) (λG=>G.ext λj=>M j\/V j) (Jh _) (V:=V1) (λV=>hI ((yd++ys)++[(x,y)]) V) hX LM rfl rfl rfl rfl (λW1 sj kP=>hy (yd++ys) (x,y) V1 W1 ⟨NG J1 oX hx dF.1.1 h1,by have h9:=dF.1.2;have h8:=n8l s.pls lk.fo;have h7:=ho.pl;simp only[cC,ec,lF]at h9 ⊢;omega⟩ sj kP) ?_ ?_
    ·intro V2 vM qL;have ll:=qL Wy A1;have xk:∀j,V2 j->V0 j\/w7.heap.size<=j:=λj hj=>by rcases ll j hj with h|h;exact vK j h;exact .inr (by have:=(sk.links w7 A1).size;omega)
     try dsimp only
     refine B 7 ?_;refine zGh ?_;refine mD ?_;refine Aj (G2:=cj hM V2 (hI ((yd++ys)++[(x,y)]) V2)) (Hc2:=jU ms) aW eW ⟨(λj h=>h.imp id (λh=>vM j (D1 j h))),(λj h=>h.elim (λh=>.inl (.inl h)) (λh=>(ll j h).imp .inr id)),(λj h=>h.elim (λh=>.inl (.inl h)) (λh=>(ll j h).imp .inr id)),(λp hp=>.inl (bU.2 ⟨p,hp,rfl⟩)),(λp hp=>.inl (bU.2 ⟨p,hp,rfl⟩))⟩ (Ak iM mz) ?_;exact⟨V2,ys++[(x,y)],λj h=>vM j (D1 j h),xk,nun oX h1,by simp only[cC,ec,lF];omega,by rw[iH],rfl⟩
    intro V2 vM qL;have ll:=qL Wy A1;have xk:∀j,V2 j->V0 j\/w7.heap.size<=j:=λj hj=>by rcases ll j hj with h|h;exact vK j h;exact .inr (by have:=(sk.links w7 A1).size;omega)
    try dsimp only
    refine B 7 ?_;refine zGh ?_;refine mD ?_;exact zGk
   have h1:=CQ rQ hpy eN hep;refine zif ?_;refine nk 19 [.det [] _,.det [0] _,.det [1] _,.det [2] _,.det [2,3] _,.det [2] _,.det [2,5] _,.det [2,6] _,.det [2,4,7] _,.det [2,8] _,.det [9] _,.det [10] undef,.det [10] undef,.det [10] undef,.det [10,13] undef,.det [10,14] undef,.det [10] undef,.det [10,15,16] undef,.det [10,17] undef] zT (xc zO (xc Nq (xc zO (xc AX (xc zXc (xc qA (xc uA (xc zPd (xc zwd (xc z6 (xc zO (xc zN (xc zN (xc zN (xc zN (xc zN (xc zN (xc zN (xc zN (xn)))))))))))))))))))) zT zT zT (λae=>?_);exact z9k
  ·rintro gV l Dk rec G' Hc Zf Wd ⟨bV,ahW⟩ hZf cQ eW ⟨V1,ys,D1,vK,oX,IQ,rfl,rfl⟩;replace cQ:=yb cQ;refine B 7 ?_;refine PJ.perm (Xi l Dk rec ms []) ?_;refine nkk (((i+1,(l,rec,Dk)::ms),V1),yd++ys) ⟨by dsimp only;omega,Xh cQ.2.1 zM rG,λj hj=>(vK j hj).elim (pQ j) id,HN J1 oX hx bV,by dsimp only;rw[cC];omega⟩ dE zR rfl rfl z1 rfl
  rintro l Dk rec c G' Hc cQ eW ⟨rfl,V1,LM,rfl,rfl⟩;replace cQ:=yb cQ;refine CJ.perm (Xi l Dk rec ms []) ?_;refine B 6 ?_;exact LL (ms:=(l,rec,Dk)::ms) (H0:=[]) (.inl rfl) results38 A4 LM (by intro j hj hx;obtain⟨p,hp,e⟩:=bU.1 hx;have:=Gj (n:=w7.heap.size) (ms:=(l,rec,Dk)::ms) (Xh cQ.2.1 zM rG) p hp;omega) (λA hA=>.inr hA)
 intro aj;refine B 4 ?_;exact LL (ms:=ms) (H0:=[]) (.inr rfl) results38 A3 (λj hj=>by have:=pQ j hj;omega) (by intro j hj hx;obtain⟨p,hp,e⟩:=bU.1 hx;have:=Gj (n:=w7.heap.size) (ms:=ms) rG p hp;omega) (λA hA=>.inl ⟨yd,⟨by rw[J1,show i=(jC s.pls lk.fo).length by omega,I8];rfl,by omega⟩,hA⟩)
structure Cp where
 ca:Int
 cb:Int
 pad:Nat->Int
def kn (c:Cp):Array Value:=#[.int .i64 c.ca,.int .i64 c.cb,.int .u8 (c.pad 0),.int .u8 (c.pad 1),.int .u8 (c.pad 2),.int .u8 (c.pad 3),.int .u8 (c.pad 4),.int .u8 (c.pad 5),.int .u8 (c.pad 6),.int .u8 (c.pad 7),.int .u8 (c.pad 8),.int .u8 (c.pad 9),.int .u8 (c.pad 10),.int .u8 (c.pad 11),.int .u8 (c.pad 12),.int .u8 (c.pad 13),.int .u8 (c.pad 14),.int .u8 (c.pad 15),.int .u8 (c.pad 16),.int .u8 (c.pad 17),.int .u8 (c.pad 18),.int .u8 (c.pad 19),.int .u8 (c.pad 20),.int .u8 (c.pad 21),.int .u8 (c.pad 22),.int .u8 (c.pad 23),.int .u8 (c.pad 24),.int .u8 (c.pad 25),.int .u8 (c.pad 26),.int .u8 (c.pad 27),.int .u8 (c.pad 28),.int .u8 (c.pad 29),.int .u8 (c.pad 30),.int .u8 (c.pad 31)]
def pz:Cp:=⟨0,0,λ_=>0⟩
def kb (n:Int) (c:Cp):Cp×Int:=if cE c.ca/\cE c.cb then({c with ca:=(gExp c.ca n).1},0)else(pz,110)
theorem CR:prog.concrete 201=true:=by kernel_rfl
theorem nYn{P:Program}{t:Nat}{ms:Array (String×TypeId)}(hU:P.underlying T=some (.interface ms))(d:Nat)(W:World):(Op.equalIn (d+1) T (.iface t v) .nilIface).run P W= .ok false W:=by
 exact O9
theorem xG{U t:Nat}{ms:Array (String×TypeId)}(hU:C.P.underlying T=some (.interface ms))(hx:ev E x=some (.iface t v)):RV C G L H E (.binOp .eql T x (.const .nilIface) U) (.bool false):=λd ty pos aB g a W hF _=>by
 have h0:a.eval (.const .nilIface)= .nilIface:=rfl;have h1:(eqGuard .eql T x (.const .nilIface) (.iface t v) .nilIface).run C.P W= .ok () W:=by simp[eqGuard]
 have h2:(binOp .eql T (.iface t v) .nilIface).run C.P W= .ok (.bool false) W:=by
  have e:binOp .eql T (.iface t v) .nilIface=(do pure (.bool (<-Op.equalIn (9999+1) T (.iface t v) .nilIface))):=rfl;rw[e,Sem.run_bind,nYn hU];rfl
 simp only[execOp,hF.ev hx,h0,Sem.run_bind,h1,h2,Result.andThen];rfl
theorem nep(e:Int)(w:World):Calls prog 58 #[.bool false,.int .i64 e] w (NJ w [{v:=.iface 201 (.agg #[.int .i64 e]),recovered:=false}]):=by
 refine enter (vs:=[_,_]) func58 rfl ntmps58 rfl ?_;refine B 9 ?_;refine rv rfl rfl rfl (bL underlying201 zeroValue201 (bA.c sizeOf67 (bA.n)) rfl rfl) ?_;refine rv rfl rfl rfl (NK CR rfl) ?_;refine NL rfl rfl ?_;repeat refine nYi ?_
 exact ae0 A0 trivial (λ_ h=>h)
theorem ndo(e x:Int)(b:Nat)(w:World)(hb:w.heap[b]? =some (.cells #[.int .i64 x] 67 (0,0))):Calls prog 57 #[.iface 201 (.agg #[.int .i64 e]),ptr b 0] w (tW w (.tuple #[]) b (.cells #[.int .i64 e] 67 (0,0))):=by
 have jN:=(aL.1 hb).1;refine nM Gh.no [(b,_)] (vs:=[_,_]) func57 rfl ntmps57 rfl (OU hb) ?_;refine B 8 ?_;refine rv rfl rfl rfl (xG underlying20 rfl) ?_;refine B 5 ?_;refine rv rfl rfl rfl (NM CR rfl) ?_;refine B 7 ?_;refine aY zeroValue201 rfl rfl ?_;refine yW ?_;intro b5 iu iv;refine aV (i:=0) rfl sizeOf201 rfl rfl rfl rfl rfl rfl ?_;refine B 5 ?_;refine rr (.int .i64 e) (aH (i:=0) rfl isAgg67 rfl rfl) ?_;refine B 1 ?_;refine kq (i:=1) rfl sizeOf67 rfl rfl rfl rfl (aT rfl) rfl ?_;refine B 2 ?_;exact bJ (.inr rfl) results57 RS.n (λW hS=>⟨rfl,(hS.links w A0).mono λk hk hx=>by simp[Gh.no]at hx;omega,hS.own (b,_) A1⟩)
theorem ntm(b:Nat)(w:World):CallsDIn (FW none) 0 prog 56 #[ptr b 0] .returning w (λe u' w'=>u'= .returning/\(∃v,e= .returned v)/\Below w.heap.size w w'):=by
 refine(nAj (vs:=[ptr b 0]) (R:=av w (.tuple #[])) .returning .returning .nilIface nEg func56 rfl ntmps56 rfl rfl (rR w) ?_).mono ?_
 ·refine call call57 rfl rfl rfl (λW hS=>nbh b W) ?_;refine B 1 ?_;exact bG (.inr rfl) results56 (RS.n) A0 trivial rfl
 rintro e u' w' ⟨rfl,rfl,hb⟩;exact⟨rfl,⟨_,rfl⟩,hb⟩
theorem nAi(e x:Int)(b:Nat)(w:World)(hb:w.heap[b]? =some (.cells #[.int .i64 x] 67 (0,0))):CallsDIn (FW none) 0 prog 56 #[ptr b 0] (.panicking [{v:=.iface 201 (.agg #[.int .i64 e]),recovered:=false}]) w (λen u' w'=>u'= .panicking [{v:=.iface 201 (.agg #[.int .i64 e]),recovered:=true}]/\(∃v,en= .returned v)/\aG (· =b) w w'/\w'.heap[b]? =some (.cells #[.int .i64 e] 67 (0,0))):=by
 refine(nAj (vs:=[ptr b 0]) (R:=tW w (.tuple #[]) b (.cells #[.int .i64 e] 67 (0,0))) (H:=[(b,.cells #[.int .i64 x] 67 (0,0))]) _ _ _ (nFk _) func56 rfl ntmps56 rfl rfl (OU hb) ?_).mono ?_
 ·refine Kt (i:=0) (v:=.tuple #[]) (first:=[]) (cap:=[]) rfl rfl call57 rfl rfl rfl (λW hS hb=>ndo e x b W hb) ?_;refine B 1 ?_;exact bJ (.inr rfl) results56 RS.n (λW hS=>⟨rfl,(hS.links w A0).mono λk hk hx=>by simpa[Gh.no]using hx,hS.own (b,_) A0⟩)
 rintro e u' w' ⟨rfl,rfl,hk,hb⟩;exact⟨rfl,⟨_,rfl⟩,hk,hb⟩
theorem CS(c:Cp)(w:World)(hA:¬cE c.ca):Calls prog 60 #[.agg (kn c)] w (av w (.int .i64 110)):=by
 refine z0i ?_;refine yV ?_;intro b1 w1 aP aX fW eb ir;refine B 7 ?_;refine zAg ?_;refine OT ?_;refine rq (.bool true) (bM rfl rfl) (vb (by simp[hA])) ?_;refine B 16 ?_;refine ay results60 rfl A1 ?_;rfl
theorem CT(c:Cp)(w:World)(hA:cE c.ca)(hB:¬cE c.cb):Calls prog 60 #[.agg (kn c)] w (av w (.int .i64 110)):=by
 refine z0i ?_;refine yV ?_;intro b1 w1 aP aX fW eb ir;refine B 7 ?_;refine zmh ?_;refine B 2 ?_;refine zii ?_;refine rq (.bool true) (bM rfl rfl) (vb (by simp[hB])) ?_;refine B 11 ?_;refine ay results60 rfl A1 ?_;rfl
theorem n1j(c:Cp)(w:World)(hA:cE c.ca)(hB:cE c.cb):Calls prog 60 #[.agg (kn c)] w (av w (.int .i64 0)):=by
 refine z0i ?_;refine yV ?_;intro b1 w1 aP aX fW eb ir;refine B 7 ?_;refine zmh ?_;refine B 2 ?_;refine zii ?_;refine rq (.bool false) (bM rfl rfl) (vb (by simp[hB])) ?_;refine B 12 ?_;refine ay results60 rfl A1 ?_;rfl
theorem nXm(c:Cp)(w:World):Calls prog 60 #[.agg (kn c)] w (av w (.int .i64 (if cE c.ca/\cE c.cb then 0 else 110))):=by
 by_cases hA:cE c.ca
 ·by_cases hB:cE c.cb
  ·rw[if_pos ⟨hA,hB⟩];exact n1j c w hA hB
  rw[if_neg (λh=>hB h.2)];exact CT c w hA hB
 rw[if_neg (λh=>hA h.1)];exact CS c w hA
theorem npk(n:Int)(hn:iG n)(c:Cp)(w:World)(hA:cE c.ca)(hB:cE c.cb):Calls prog 25 #[.int .i64 n,.agg (kn c)] w (av w (.tuple #[.agg (kn (kb n c).1),.int .i64 (kb n c).2])):=by
 have kV:(gExp c.ca n).2=0:=by unfold gExp;rw[if_pos hA,if_pos (by unfold iG at hn;omega)]
 refine zTi ?_;refine yW ?_;intro b3 bY cR;refine Lc ?_;refine yW ?_;intro b4 dD dH;refine Pa ?_;refine yW ?_;intro b5 iu iv;refine zLi ?_;refine zYg ?_;refine call (v:=.int .i64 0) call60 rfl rfl rfl (λW hS=>n1j c W hA hB) ?_;refine rr (.bool true) (cM rfl rfl) ?_;refine call call58 rfl rfl rfl (λW hS=>npd _ W) ?_;refine B 5 ?_;refine rr (.int .i64 c.ca) (aH (i:=2) rfl isAgg3 rfl rfl) ?_;refine B 1 ?_;refine call call62 rfl rfl rfl (λW hS=>Zp c.ca n W) ?_;refine B 2 ?_;refine call call61 rfl rfl rfl (λW hS=>n4f _ _ kV W) ?_;refine B 1 ?_;refine kq (i:=2) rfl sizeOf3 rfl rfl rfl rfl (aT rfl) rfl ?_;refine B 5 ?_;refine aV (i:=1) rfl sizeOf63 rfl rfl rfl rfl rfl rfl ?_;refine aV (i:=0) rfl sizeOf67 rfl rfl rfl rfl rfl rfl ?_;refine B 3 ?_;refine Rv (.inl rfl) call56 (λW hS=>ntm b5 W) results25 (RS.wA (i:=1) rfl isAgg63 sizeOf63 rfl (aT rfl) (RS.w (i:=0) rfl isAgg67 rfl rfl RS.n)) (λW hS=>⟨?_,hS.base A0 qy⟩);rw[show kb n c=({c with ca:=(gExp c.ca n).1},0)from if_pos ⟨hA,hB⟩];rfl
theorem nbj(n:Int)(hn:iG n)(c:Cp)(w:World)(hB:¬(cE c.ca/\cE c.cb)):Calls prog 25 #[.int .i64 n,.agg (kn c)] w (av w (.tuple #[.agg (kn (kb n c).1),.int .i64 (kb n c).2])):=by
 refine zTi ?_;refine yW ?_;intro b3 bY cR;refine Lc ?_;refine yW ?_;intro b4 dD dH;refine Pa ?_;refine yW ?_;intro b5 iu iv;refine zLi ?_;refine zYg ?_;refine call (v:=.int .i64 110) call60 rfl rfl rfl (λW hS=>by have h9:=nXm c W;rwa[if_neg hB]at h9) ?_;refine rr (.bool false) (cM rfl rfl) ?_;refine UL call58 rfl rfl (λW hS=>nep 110 W) ?_;repeat refine nYi ?_
 refine UM (i:=0) rfl call56 (λW hS hb=>nAi 110 0 b5 W hb) results25 (RS.wA (i:=1) rfl isAgg63 sizeOf63 rfl (aT rfl) (RS.w (i:=0) rfl isAgg67 rfl rfl RS.n)) (λW hS=>⟨?_,hS.base A0 qy⟩);rw[show kb n c=(pz,110)from if_neg hB];rfl
theorem nno(n:Int)(hn:iG n)(c:Cp)(w:World):Calls prog 25 #[.int .i64 n,.agg (kn c)] w (av w (.tuple #[.agg (kn (kb n c).1),.int .i64 (kb n c).2])):=by
 by_cases h:cE c.ca/\cE c.cb
 ·exact npk n hn c w h.1 h.2
 exact nbj n hn c w h
noncomputable def gJ (Z:Fx) (s:Sc) (lk:Lk):List Dk:=if dq Z s 256 lk=true then(py Z s lk).map (λp=>dk p.1.last)else[]
def pA (pre:List (Gv×Fa)):List Dk:=pre.map λe=>dk e.1.g.last
theorem nyl(pre:List (Gv×Fa))(x:Gv×Fa):pA (pre++[x])=pA pre++[dk x.1.g.last]:=by simp[pA]
theorem n4m(pre:List (Gv×Fa)):(pA pre).length=pre.length:=by simp[pA]
theorem n9i{pre:List (Gv×Fa)}(h:pre.map mM=py Z s lk)(ha:dq Z s 256 lk=true):pA pre=gJ Z s lk:=by
 unfold gJ;rw[if_pos ha,<-h,List.map_map];rfl
theorem UN{fn:Func}{Dk t4 T4 b4 Uf:Nat}{v4:Value}(he:e= .ret\/e= .normal)(hr:fn.results=#[.cell t4 T4])(K7:eQ C.P T4 false)(Ug:look E t4=some (ptr b4 0))(hm:(Dk,.deferred (some []))∈H)(cT:(b4,.cells JE Uf TJ)∈H)(n4:b4≠Dk)(Uh:JE[0]? =some v4)(h:∀W H',St G L H' W->H'.map (·.1)=H.map (·.1)->(∀p∈H,p.1≠Dk->p∈H')->R (.returned v4) W):PJ C (bodyPostM (FW none) 0 C.P fn R) e E [eh Dk] G L H:=
 sf he hm λa W H' hF hS bS bF=>by
  obtain⟨i,hi⟩:=iQ.1 (bS _ cT n4);exact⟨_,(RS.w (C:=C) hi K7 Ug Uh RS.n).res hr hF hS,h W H' hS bF bS⟩
theorem njj(hZ:FxOk Z)(s:Sc)(ho:eP s)(N:Nat)(w:World)(hN:N<=w.heap.size)(hs:dS N w s)(lk:Lk)(hlk:cW lk)(hg:Glb w)(gK:dq Z s 256 lk=false):Calls prog 8 #[.agg (rdA s),.slice s.pa s.pls.length s.pc,.agg (lkC lk)] w (cu w (λq:Option Addr×Nat=>.slice q.1 (gJ Z s lk).length q.2) (λq w1=>ah (λx=>(eI x).toArray) 32 w1.heap.size w1 q.1 (gJ Z s lk)/\(∀p,q.1=some p->w.heap.size<=p.block)/\(gJ Z s lk).length<=20000)):=by
 have ew:=hg.lt;have sZ:gJ Z s lk=[]:=by unfold gJ;rw[if_neg (by rw[gK];decide)]
 refine enter (vs:=[_,_,_]) func8 rfl ntmps8 rfl ?_;refine B 2 ?_;refine yX ?_;intro b3 w3 aJ aD dr bY cR;refine yX ?_;intro b5 w5 ff gd rF iu iv;refine aY zeroValue41 rfl rfl ?_;refine yW ?_;intro b6 gm kg;refine B 4 ?_;refine z0h ?_;refine B 1 ?_;refine YH ?_;refine yW ?_;intro b7 fu lG;refine UO ?_;refine B 5 ?_;refine zTg ?_;refine call (v:=.bool false) call19 rfl rfl rfl (λW hS=>by have h9:=YE hZ s ho N 256 (ao _) lk W hlk (aS hN (hS.links w A2).size) (hs.up (ao _) (hS.same A2 hN zU qy)) (hg.old hS A2 zU qy);rwa[gK]at h9) ?_;refine B 6 ?_;refine aV (i:=1) rfl sizeOf41 rfl rfl rfl rfl rfl rfl ?_;refine B 4 ?_;exact bJ (.inl rfl) results8 (RS.w (i:=1) rfl isAgg41 rfl rfl RS.n) λW hS=>⟨((none:Option Addr),0),by rw[sZ];rfl,hS.base A2 qy,by rw[sZ];exact .inl rfl,(λp h=>by cases h),by rw[sZ];exact dx _⟩
theorem nyi(hZ:FxOk Z)(s:Sc)(ho:eP s)(N:Nat)(w:World)(hN:N<=w.heap.size)(hs:dS N w s)(lk:Lk)(hlk:cW lk)(hg:Glb w)(gK:dq Z s 256 lk=true):Calls prog 8 #[.agg (rdA s),.slice s.pa s.pls.length s.pc,.agg (lkC lk)] w (cu w (λq:Option Addr×Nat=>.slice q.1 (gJ Z s lk).length q.2) (λq w1=>ah (λx=>(eI x).toArray) 32 w1.heap.size w1 q.1 (gJ Z s lk)/\(∀p,q.1=some p->w.heap.size<=p.block)/\(gJ Z s lk).length<=20000)):=by
 have ew:=hg.lt;refine wy Gh.no [] (vs:=[_,_,_]) func8 rfl ntmps8 rfl (rR w) ?_;refine B 2 ?_;refine yX ?_;intro b3 w3 aJ aD dr bY cR;refine yX ?_;intro b5 w5 ff gd rF iu iv;refine aY zeroValue41 rfl rfl ?_;refine yW ?_;intro b6 gm kg;refine B 4 ?_;refine z0h ?_;refine B 1 ?_;refine YH ?_;refine yW ?_;intro b7 fu lG;refine UO ?_;refine B 5 ?_;refine zTg ?_;refine call (v:=.bool true) call19 rfl rfl rfl (λW hS=>by have h9:=YE hZ s ho N 256 (ao _) lk W hlk (aS hN (hS.links w A2).size) (hs.up (ao _) (hS.same A2 hN zU qy)) (hg.old hS A2 zU qy);rwa[gK]at h9) ?_;refine B 9 ?_;refine zTg ?_;refine zJf ?_;rintro Wn q wn hJ od ⟨gX,gY,eO,eY⟩;try dsimp only at gX gY eO eY
 have qJ:=(aL.1 eO).1;have qK:=(aL.1 eY).1;have Bh:=od.size;have UI:=(hJ.links w A2).size;refine B 3 ?_;have lb6:=hJ.lt (b6,_) A1;have lb7:=hJ.lt (b7,_) A0;try dsimp only at lb6 lb7
 refine CJ.reH (H':=[(b7,.cells (eZ s) 81 (0,0)),(b6,.cells #[.slice none 0 0] 41 (0,0))]) rfl ?_;refine CJ.range2 (f:=38) (cap:=[ptr q.1 0,ptr q.2 0]) (α:=Gv×Fa) (enc:=(λe:Gv×Fa=>[.agg (aZ e.1),.agg (gD e.2)])) (Pre:=(λp:List (Gv×Fa)=>p.map mM <+:py Z s lk/\p.length<=20000)) (Fin:=(λp:List (Gv×Fa)=>p.map mM=py Z s lk/\p.length<=20000)) (RO:=q4 w.heap.size q.1 q.2) (MI:=λ_=>False) rfl call38 (λW' W2 hS hB=>by have l1:=(hS.links wn A0).size;exact nfh hZ s ho w.heap.size lk hlk q.1 q.2 W2 (aS zM hB.size) ew ((hs.up hN (hS.same A3 hN zU qy)).up (ao _) (λk hk=>hB.block k zM)) ((hg.old hS A3 zU qy).bel hB) PC PD) (λ_ _ _ hk=>hk.elim) (λW' hS k hk=>by have l1:=(hS.links wn A0).size;simp only[eF,iz,cP,fm,or_false];rcases hk with hk|rfl|rfl<;>exact⟨by omega,by omega,λh=>h⟩) (λ_=>rfl) (λpre G' Hc=>G'=Gh.no/\∃r1:Rw,r1.Fr Gh.no [wn,w5,w3,w]/\r1.Fit 32 (pA pre)/\Hc=[(b7,.cells (eZ s) 81 (0,0)),(b6,.cells #[r1.val (pA pre).length] 41 (0,0))]++(r1.hp eI 34 (pA pre)++[])) (λ_ _ _=>False) ⟨rfl,.nil,True.intro,rfl,rfl⟩ zQ ?_ ?_ ?_
 ·rintro pre x G' Hc l Dk rec W1 M V Wy iM mz dF ⟨rfl,r1,jx,ez,rfl⟩ cQ eW yP mQ aW sk;simp only[ab]at cQ mQ;have iy:r1.ge wn.heap.size:=Rw.ge_of jx A0;have hpl:(pre++[x]).length<=20000:=dF.2;simp only[cC,ec,lF]at hpl;have HH:∀p∈r1.hp eI 34 (pA pre),M p.1\/V p.1:=λp hp=>aW.loc.h p Sf;refine B 1 ?_;refine qV ?_;refine yW ?_;intro b8 ua uc;refine GR ?_;refine B 1 ?_;refine PJ.reH (H':=book ([(b8,.cells (aZ x.1) 57 (0,0))]++([(b7,.cells (eZ s) 81 (0,0)),(b6,.cells #[r1.val (pA pre).length] 41 (0,0))]++(r1.hp eI 34 (pA pre)++[]))) l rec (bQ Dk)) rfl ?_;refine L7 iM ?_;refine B 2 ?_;refine rr (r1.val (pA pre).length) (aH (i:=2) rfl isAgg41 rfl rfl) ?_;refine B 1 ?_;refine rr (.agg (dg x.1.g.last)) (cN (i:=0) rfl isAgg34 sizeOf34 rfl (aT rfl)) ?_;refine zlh ?_;refine yW ?_;intro gj i6 ahX;refine o8 (r:=r1) (xs:=(pA pre)) (zs:=[(dk x.1.g.last)]) (enc:=eI) (m:=32) (H0:=[(gj,.cells (dg x.1.g.last) 34 (0,0)),(b8,.cells (aZ x.1) 57 (0,0)),(b7,.cells (eZ s) 81 (0,0)),(b6,.cells #[r1.val (pA pre).length] 41 (0,0))]) (H1:=(l,.loop {rec with state:=.busy})::bQ Dk) wU n6k JD rfl rfl rfl rfl (dy.one (z:=dk x.1.g.last) JD n3h underlying41 (bN.own (i:=0) rfl)) ez (Rw.Fr_ext HH) z1 (by rw[n4m];simp only[ec,lF];omega) ?_
  intro iI eA eV i7 eB;replace i7:=yb i7;refine aV (i:=3) rfl sizeOf41 rfl rfl rfl rfl rfl rfl ?_;refine B 2 ?_;refine Ar ?_;refine Aj (G2:=Gh.no) (Hc2:=[(b7,.cells (eZ s) 81 (0,0)),(b6,.cells #[(Rw.row iI eA eV).val (pA pre++[dk x.1.g.last]).length] 41 (0,0))]++((Rw.row iI eA eV).hp eI 34 (pA pre++[dk x.1.g.last])++[])) aW eW ⟨λ_ h=>h,λ_ h=>.inl h,λ_ h=>.inl h,(WY rfl (i7.imp id (λh=>h.1))),zhe⟩ (Ak iM mz) ?_;exact⟨rfl,.row iI eA eV,i7.elim (λh=>Rw.Fr_at jx h) (λh=>.inr h.2),by rw[nyl];exact eB,by rw[nyl]⟩
 ·rintro gV l Dk rec G' Hc ⟨bV,uS⟩ cQ eW ⟨rfl,r1,jx,ez,rfl⟩;replace cQ:=yb cQ;have iy:r1.ge wn.heap.size:=Rw.ge_of jx A0;refine Pr λWd pH=>?_;have kN:=Lp pH;refine B 4 ?_;refine rr (r1.val (pA gV).length) (aH (i:=1) rfl isAgg41 rfl rfl) ?_;refine aV (i:=1) rfl sizeOf41 rfl rfl rfl (Rw.val_size _ _) rfl (Rw.val_one _ _) ?_;refine B 3 ?_;refine PJ.reH (H':=book ([(b7,.cells (eZ s) 81 (0,0)),(b6,.cells #[r1.val (pA gV).length] 41 (0,0))]++(r1.hp eI 34 (pA gV)++[])) l rec (bQ Dk)) (by simp[book];exact Rw.val_cells _ _) ?_;refine UN (.inl rfl) results8 isAgg41 rfl vk A1 (kN _ A1).1 rfl (λW H' hS bF bS=>?_);have BY:r1.At eI 34 (pA gV) W:=by
   exact zIk
  obtain⟨a1,c1,si,BZ⟩:=Rw.sl JD ez BY (ao W.heap.size);refine⟨(a1,c1),?_,?_,?_,Rw.val_new (Rw.ge_mono iy zM) si,by rw[<-n9i bV gK,n4m];exact uS⟩
  ·rw[<-n9i bV gK];exact congrArg Ending.returned si
  ·exact(hS.links w A3).below (λk hk hx=>by rcases hx with hx|hx;(exact hx);rw[bF]at hx;simp only[book,ga,eF,iz,cS,cP,fm,or_false]at hx;rcases hx with((hx|hx)|hx)|hx|hx<;>first|omega|(have:=Rw.mem_ge iy hx;omega))
  rw[<-n9i bV gK];exact BZ
 exact Sg
theorem n9k(hZ:FxOk Z)(s:Sc)(ho:eP s)(N:Nat)(w:World)(hN:N<=w.heap.size)(hs:dS N w s)(lk:Lk)(hlk:cW lk)(hg:Glb w):Calls prog 8 #[.agg (rdA s),.slice s.pa s.pls.length s.pc,.agg (lkC lk)] w (cu w (λq:Option Addr×Nat=>.slice q.1 (gJ Z s lk).length q.2) (λq w1=>ah (λx=>(eI x).toArray) 32 w1.heap.size w1 q.1 (gJ Z s lk)/\(∀p,q.1=some p->w.heap.size<=p.block)/\(gJ Z s lk).length<=20000)):=by
 cases gK:dq Z s 256 lk with
 |true=>exact nyi hZ s ho N w hN hs lk hlk hg gK
 |false=>exact njj hZ s ho N w hN hs lk hlk hg gK
structure Im where
 fo:Int
 com:Nat->Int
 dev:Int
 cnt:Int
 kind:Int
 size:Int
 cap:Cp
 ba:Option Addr
 bl:Nat
 bc:Nat
 sr:Int
 ss:Int
def imA (x:Im):Array Value:=#[.int .i64 x.fo,.int .u8 (x.com 0),.int .u8 (x.com 1),.int .u8 (x.com 2),.int .u8 (x.com 3),.int .u8 (x.com 4),.int .u8 (x.com 5),.int .u8 (x.com 6),.int .u8 (x.com 7),.int .u8 (x.com 8),.int .u8 (x.com 9),.int .u8 (x.com 10),.int .u8 (x.com 11),.int .u8 (x.com 12),.int .u8 (x.com 13),.int .u8 (x.com 14),.int .u8 (x.com 15),.int .u8 (x.com 16),.int .u8 (x.com 17),.int .u8 (x.com 18),.int .u8 (x.com 19),.int .u8 (x.com 20),.int .u8 (x.com 21),.int .u8 (x.com 22),.int .u8 (x.com 23),.int .u8 (x.com 24),.int .u8 (x.com 25),.int .u8 (x.com 26),.int .u8 (x.com 27),.int .u8 (x.com 28),.int .u8 (x.com 29),.int .u8 (x.com 30),.int .u8 (x.com 31),.int .i64 x.dev,.int .i64 x.cnt,.int .i64 x.kind,.int .i64 x.size,.int .i64 x.cap.ca,.int .i64 x.cap.cb,.int .u8 (x.cap.pad 0),.int .u8 (x.cap.pad 1),.int .u8 (x.cap.pad 2),.int .u8 (x.cap.pad 3),.int .u8 (x.cap.pad 4),.int .u8 (x.cap.pad 5),.int .u8 (x.cap.pad 6),.int .u8 (x.cap.pad 7),.int .u8 (x.cap.pad 8),.int .u8 (x.cap.pad 9),.int .u8 (x.cap.pad 10),.int .u8 (x.cap.pad 11),.int .u8 (x.cap.pad 12),.int .u8 (x.cap.pad 13),.int .u8 (x.cap.pad 14),.int .u8 (x.cap.pad 15),.int .u8 (x.cap.pad 16),.int .u8 (x.cap.pad 17),.int .u8 (x.cap.pad 18),.int .u8 (x.cap.pad 19),.int .u8 (x.cap.pad 20),.int .u8 (x.cap.pad 21),.int .u8 (x.cap.pad 22),.int .u8 (x.cap.pad 23),.int .u8 (x.cap.pad 24),.int .u8 (x.cap.pad 25),.int .u8 (x.cap.pad 26),.int .u8 (x.cap.pad 27),.int .u8 (x.cap.pad 28),.int .u8 (x.cap.pad 29),.int .u8 (x.cap.pad 30),.int .u8 (x.cap.pad 31),.slice x.ba x.bl x.bc,.int .i64 x.sr,.int .i64 x.ss]
noncomputable def dz (Z:Fx) (s:Sc) (lk:Lk) (im:Im):Cp×Int:=if dq Z s 256 lk=true then(match(py Z s lk).find? (λp=>fE p.1.last im.com)with
 |some p=>kb p.2.n im.cap
 |none=>(pz,400))else(pz,400)
theorem HQ{p:Gp×Fa}(h:p∈py Z s lk):∃d∈jC s.pls lk.fo,p.1∈p5 Z s d/\p.2∈s.fas/\jZ Z (dh Z s.lks lk) (jI Z lk) p.1 p.2=true/\p.1.epoch<=lk.exp:=by
 unfold py xF at h;obtain⟨d,hd,h⟩:=Pe.1 h;obtain⟨g,hg,h⟩:=List.mem_filterMap.1 h;unfold ra at h;cases hf:s.fas.find? (λf:Fa=>jZ Z (dh Z s.lks lk) (jI Z lk) g f)with
 |none=>rw[hf]at h;cases h
 |some f=>
  rw[hf]at h;have h1:=Yw hf;have h2:=List.find?_some hf;dsimp only at h;split at h
  ·rename_i he;cases h
   exact⟨d,hd,hg,h1,h2,he⟩
  cases h
theorem NN{o:Option Lk}{i:Nat->Int}{f:Fa}(h:jZ Z o i g f=true):iG f.n:=by
 unfold jZ at h;simp only[fX,decide_eq_true_eq]at h;unfold iG;omega
theorem CU{α:Type}{p:α->Bool}{l1 l:List α}{a:α}(h:l1++[a] <+:l)(hn:∀b∈l1,p b=false)(ha:p a=true):l.find? p=some a:=by
 obtain⟨t,rfl⟩:=h;have h1:l1.find? p=none:=List.find?_eq_none.2 λx hx=>by rw[hn x hx];decide
 rw[iH,List.find?_append,h1];simp[ha]
theorem J2{fn:Func}{Dk:Nat}(he:e= .ret\/e= .normal)(hr:fn.results=rs.toArray)(hm:(Dk,.deferred (some []))∈H)(iM:∀H':ad,(∀p∈H,p.1≠Dk->p∈H')->RS C G L H' E rs vs)(h:∀W H',St G L H' W->H'.map (·.1)=H.map (·.1)->R (.returned (Et vs)) W):PJ C (bodyPostM (FW none) 0 C.P fn R) e E [eh Dk] G L H:=
 sf he hm λa W H' hF hS bS bF=>⟨_,(iM H' bS).res hr hF hS,h W H' hS bF⟩
theorem nLk(hZ:FxOk Z)(s:Sc)(ho:eP s)(N:Nat)(w:World)(hN:N<=w.heap.size)(hs:dS N w s)(lk:Lk)(hlk:cW lk)(hg:Glb w)(im:Im)(gK:dq Z s 256 lk=false):Calls prog 14 #[.agg (rdA s),.slice s.pa s.pls.length s.pc,.agg (lkC lk),.agg (imA im)] w (av w (.tuple #[.agg (kn (dz Z s lk im).1),.int .i64 (dz Z s lk im).2])):=by
 have ew:=hg.lt;have eX:dz Z s lk im=(pz,400):=by unfold dz;rw[if_neg (by rw[gK];decide)]
 refine enter (vs:=[_,_,_,_]) func14 rfl ntmps14 rfl ?_;refine B 2 ?_;refine yX ?_;intro b4 w4 cT dI k4 dD dH;refine yX ?_;intro b6 w6 wz wB OV gm kg;refine yX ?_;intro b7 w7 vt xY KF fu lG;refine Lc ?_;refine yW ?_;intro b8 ua uc;refine Pa ?_;refine yW ?_;intro b9 qt EN;refine B 4 ?_;refine zZh ?_;refine B 1 ?_;refine YH ?_;refine yW ?_;intro ix o3 o4;refine UO ?_;refine B 5 ?_;refine zOe ?_;refine call (v:=.bool false) call19 rfl rfl rfl (λW hS=>by have h9:=YE hZ s ho N 256 (ao _) lk W hlk (aS hN (hS.links w A3).size) (hs.up (ao _) (hS.same A3 hN zU qy)) (hg.old hS A3 zU qy);rwa[gK]at h9) ?_;refine B 6 ?_;refine zCh ?_;refine B 4 ?_;exact bJ (.inl rfl) results14 (RS.wA (i:=2) rfl isAgg63 sizeOf63 rfl (aT rfl) (RS.w (i:=1) rfl isAgg67 rfl rfl RS.n)) λW hS=>⟨by rw[eX];rfl,hS.base A3 qy⟩
theorem nwj(hZ:FxOk Z)(s:Sc)(ho:eP s)(N:Nat)(w:World)(hN:N<=w.heap.size)(hs:dS N w s)(lk:Lk)(hlk:cW lk)(hg:Glb w)(im:Im)(gK:dq Z s 256 lk=true):Calls prog 14 #[.agg (rdA s),.slice s.pa s.pls.length s.pc,.agg (lkC lk),.agg (imA im)] w (av w (.tuple #[.agg (kn (dz Z s lk im).1),.int .i64 (dz Z s lk im).2])):=by
 have ew:=hg.lt;refine wy Gh.no [] (vs:=[_,_,_,_]) func14 rfl ntmps14 rfl (rR w) ?_;refine B 2 ?_;refine yX ?_;intro b4 w4 cT dI k4 dD dH;refine yX ?_;intro b6 w6 wz wB OV gm kg;refine yX ?_;intro b7 w7 vt xY KF fu lG;refine Lc ?_;refine yW ?_;intro b8 ua uc;refine Pa ?_;refine yW ?_;intro b9 qt EN;refine B 4 ?_;refine zZh ?_;refine B 1 ?_;refine YH ?_;refine yW ?_;intro ix o3 o4;refine UO ?_;refine B 5 ?_;refine zOe ?_;refine call (v:=.bool true) call19 rfl rfl rfl (λW hS=>by have h9:=YE hZ s ho N 256 (ao _) lk W hlk (aS hN (hS.links w A3).size) (hs.up (ao _) (hS.same A3 hN zU qy)) (hg.old hS A3 zU qy);rwa[gK]at h9) ?_;refine B 9 ?_;refine zOe ?_;refine zJf ?_;rintro Wn q wn hJ od ⟨gX,gY,eO,eY⟩;try dsimp only at gX gY eO eY
 have qJ:=(aL.1 eO).1;have qK:=(aL.1 eY).1;have Bh:=od.size;have UI:=(hJ.links w A3).size;refine B 3 ?_;have lb8:=hJ.lt (b8,_) A2;have lb9:=hJ.lt (b9,_) A1;have ae5:=hJ.lt (ix,_) A0;try dsimp only at lb8 lb9 ae5
 refine CJ.reH (H':=[(ix,.cells (eZ s) 81 (0,0)),(b9,.cells #[.int .i64 0] 67 (0,0)),(b8,.cells (kn pz) 63 (0,0))]) rfl ?_;refine CJ.range2 (f:=38) (cap:=[ptr q.1 0,ptr q.2 0]) (α:=Gv×Fa) (enc:=(λe:Gv×Fa=>[.agg (aZ e.1),.agg (gD e.2)])) (Pre:=(λp:List (Gv×Fa)=>p.map mM <+:py Z s lk/\p.length<=20000)) (Fin:=(λp:List (Gv×Fa)=>p.map mM=py Z s lk/\p.length<=20000)) (RO:=q4 w.heap.size q.1 q.2) (MI:=λ_=>False) rfl call38 (λW' W2 hS hB=>by have l1:=(hS.links wn A0).size;exact nfh hZ s ho w.heap.size lk hlk q.1 q.2 W2 (aS zM hB.size) ew ((hs.up hN (hS.same A4 hN zU qy)).up (ao _) (λk hk=>hB.block k zM)) ((hg.old hS A4 zU qy).bel hB) PC PD) (λ_ _ _ hk=>hk.elim) (λW' hS k hk=>by have l1:=(hS.links wn A0).size;simp only[eF,iz,cP,fm,or_false];rcases hk with hk|rfl|rfl<;>exact⟨by omega,by omega,λh=>h⟩) (λ_=>rfl) (λpre G' Hc=>G'=Gh.no/\(∀e∈pre,fE e.1.g.last im.com=false)/\Hc=[(ix,.cells (eZ s) 81 (0,0)),(b9,.cells #[.int .i64 0] 67 (0,0)),(b8,.cells (kn pz) 63 (0,0))]) (λc G' Hc=>c= .ret/\G'=Gh.no/\Hc=[(ix,.cells (eZ s) 81 (0,0)),(b9,.cells #[.int .i64 (dz Z s lk im).2] 67 (0,0)),(b8,.cells (kn (dz Z s lk im).1) 63 (0,0))]) ⟨rfl,(λe he=>by cases he),rfl⟩ zQ ?_ ?_ ?_
 ·rintro pre x G' Hc l Dk rec W1 M V Wy iM mz dF ⟨rfl,eN,rfl⟩ cQ eW yP mQ aW sk;simp only[ab]at cQ mQ;refine B 2 ?_;refine qV ?_;refine yW ?_;intro rA EV EW;refine GR ?_;refine B 3 ?_;refine aY zeroValue59 rfl rfl ?_;refine yW ?_;intro jH Ft Fu;refine RY ?_;refine B 1 ?_;refine PJ.reH (H':=book ([(jH,.cells (gD x.2) 59 (0,0)),(rA,.cells (aZ x.1) 57 (0,0))]++[(ix,.cells (eZ s) 81 (0,0)),(b9,.cells #[.int .i64 0] 67 (0,0)),(b8,.cells (kn pz) 63 (0,0))]) l rec (bQ Dk)) rfl ?_;refine L7 iM ?_;refine B 2 ?_;cases heq:fE x.1.g.last im.com with
  |true=>
   have V9:mM x∈py Z s lk:=dF.1.subset z1;obtain⟨dd,hdd,hgd,hfd,sZ,Wv⟩:=HQ V9;have eX:dz Z s lk im=kb x.2.n im.cap:=by
    unfold dz;rw[if_pos gK,CU (a:=mM x) (l1:=pre.map mM) (by have h9:=dF.1;rw[ga]at h9;exact h9) (λb hb=>by obtain⟨e,he,rfl⟩:=bU.1 hb;exact eN e he) heq];rfl
   refine B 2 ?_;refine zKh ?_;refine B 1 ?_;refine zsh ?_;refine rq (.bool true) (fF uB zQ nX rfl rfl rfl) (vb heq) ?_;refine B 6 ?_;refine rr (.int .i64 x.2.n) (aH (i:=0) rfl isAgg3 rfl rfl) ?_;refine B 1 ?_;refine rr (.agg (kn im.cap)) (ag isAgg63 sizeOf63 rfl A2 vt (aW.z zM zZ P3 zZ) YC (aT rfl)) ?_;refine call (v:=.tuple #[.agg (kn (dz Z s lk im).1),.int .i64 (dz Z s lk im).2]) call25 rfl rfl rfl (λW hS=>by rw[eX];exact nno x.2.n (NN sZ) im.cap W) ?_;refine B 2 ?_;refine aV (i:=4) rfl sizeOf63 rfl rfl rfl rfl rfl rfl ?_;refine aV (i:=3) rfl sizeOf67 rfl rfl rfl rfl rfl rfl ?_;refine B 4 ?_;refine Ar ?_;refine Yn (G2:=Gh.no) (Hc2:=[(ix,.cells (eZ s) 81 (0,0)),(b9,.cells #[.int .i64 (dz Z s lk im).2] 67 (0,0)),(b8,.cells (kn (dz Z s lk im).1) 63 (0,0))]) (c:=.ret) aW eW ⟨λ_ h=>h,λ_ h=>.inl h,λ_ h=>.inl h,YI,YI⟩ (.inl ⟨rfl,rfl⟩) rfl ?_;exact⟨rfl,rfl,rfl⟩
  |false=>
   refine B 2 ?_;refine zKh ?_;refine B 1 ?_;refine zsh ?_;refine rq (.bool false) (fF uB zQ nX rfl rfl rfl) (vb heq) ?_;refine B 5 ?_;refine Ar ?_;refine Aj (G2:=Gh.no) (Hc2:=[(ix,.cells (eZ s) 81 (0,0)),(b9,.cells #[.int .i64 0] 67 (0,0)),(b8,.cells (kn pz) 63 (0,0))]) aW eW ⟨λ_ h=>h,λ_ h=>.inl h,λ_ h=>.inl h,YI,YI⟩ (Ak iM mz) ?_;exact⟨rfl,λe he=>by
    rcases cS.1 he with he|he
    ·exact eN e he
    rw[ql.1 he];exact heq,rfl⟩
 ·rintro gV l Dk rec G' Hc ⟨bV,_⟩ cQ eW ⟨rfl,eN,rfl⟩;replace cQ:=yb cQ;refine B 4 ?_;refine zCh ?_;refine B 3 ?_;refine PJ.reH (H':=book [(ix,.cells (eZ s) 81 (0,0)),(b9,.cells #[.int .i64 400] 67 (0,0)),(b8,.cells (kn pz) 63 (0,0))] l rec (bQ Dk)) rfl ?_;refine J2 (.inl rfl) results14 vk (λH' bS=>by
   obtain⟨i,hi⟩:=iQ.1 (bS (b8,_) A2 dE);obtain⟨j,hj⟩:=iQ.1 (bS (b9,_) A1 dE);exact RS.wAw hi isAgg63 sizeOf63 rfl rfl (RS.w hj isAgg67 rfl rfl RS.n)) (λW H' hS bF=>⟨?_,(hS.links w A4).below (λk hk hx=>by rw[bF]at hx;simp[Gh.no,book]at hx;omega)⟩)
  rw[show dz Z s lk im=(pz,400) by unfold dz;rw[if_pos gK,<-bV,List.find?_eq_none.2 (λb hb=>by obtain⟨e,he,rfl⟩:=bU.1 hb;rw[show fE (mM e).1.last im.com=false from eN e he];decide)]];rfl
 rintro l Dk rec c G' Hc cQ eW ⟨rfl,rfl,rfl⟩;replace cQ:=yb cQ;refine B 3 ?_;refine PJ.reH (H':=book [(ix,.cells (eZ s) 81 (0,0)),(b9,.cells #[.int .i64 (dz Z s lk im).2] 67 (0,0)),(b8,.cells (kn (dz Z s lk im).1) 63 (0,0))] l rec (bQ Dk)) rfl ?_;refine J2 (.inl rfl) results14 vk (λH' bS=>by
  obtain⟨i,hi⟩:=iQ.1 (bS (b8,_) A2 dE);obtain⟨j,hj⟩:=iQ.1 (bS (b9,_) A1 dE);exact RS.wAw hi isAgg63 sizeOf63 rfl rfl (RS.w hj isAgg67 rfl rfl RS.n)) (λW H' hS bF=>⟨?_,(hS.links w A4).below (λk hk hx=>by rw[bF]at hx;simp[Gh.no,book]at hx;omega)⟩)
 rfl
theorem nxm(hZ:FxOk Z)(s:Sc)(ho:eP s)(N:Nat)(w:World)(hN:N<=w.heap.size)(hs:dS N w s)(lk:Lk)(hlk:cW lk)(hg:Glb w)(im:Im):Calls prog 14 #[.agg (rdA s),.slice s.pa s.pls.length s.pc,.agg (lkC lk),.agg (imA im)] w (av w (.tuple #[.agg (kn (dz Z s lk im).1),.int .i64 (dz Z s lk im).2])):=by
 cases gK:dq Z s 256 lk with
 |true=>exact nwj hZ s ho N w hN hs lk hlk hg im gK
 |false=>exact nLk hZ s ho N w hN hs lk hlk hg im gK
def pB (c:Cm):Bool:=c.bxs.all (λx=>decide (x.w.body.length<=200))&&c.wes.all (λx=>decide (x.w.body.length<=200))&&decide (c.chs.length<=10)&&decide (c.path.length<=12)&&decide (c.bxs.length<=40)&&decide (c.wes.length<=10)
theorem n9h{α:Type}{f:α->Bool}{xs:List α}{x:α}(h:(xs.take j).all f=true)(hx:xs[j]? =some x)(hf:f x=true):(xs.take (j+1)).all f=true:=by rw[nC hx,List.all_append,h];simp[hf]
theorem ncj{α:Type}{f:α->Bool}{xs:List α}(h:(xs.take j).all f=true)(hj:¬j<xs.length):xs.all f=true:=by rw[jo zM]at h;exact h
theorem n0b{α:Type}{f:α->Bool}{xs:List α}{x:α}(hx:xs[j]? =some x)(hf:f x=false):xs.all f=false:=by
 rw[Bool.eq_false_iff];intro h;have:=pV.1 h x (cB hx);rw[hf]at this;cases this
theorem nNj(l:List Ch)(a:Option Addr)(c:Nat)(w:World):Calls prog 72 #[.slice a l.length c] w (av w (.bool (decide (l.length<=10)))):=by
 refine enter (vs:=[_]) func72 rfl ntmps72 rfl ?_;refine B 14 ?_;refine ay results72 rfl A0 ?_;exact vb (by rw[xU];simp;omega)
theorem HR(c:Cm)(N:Nat)(w:World)(hN:N<=w.heap.size)(hC:dQ N w c)(jN:c.bxs.length<=9223372036854775807)(hwl:c.wes.length<=9223372036854775807):Calls prog 34 #[.agg (dZ c)] w (av w (.bool (pB c))):=by
 refine enter (vs:=[_]) func34 rfl ntmps34 rfl ?_;refine B 2 ?_;refine yX ?_;intro b1 w1 aP aX fW eb ir;refine B 10 ?_;refine CJ.loop (α:=Nat) (λj=>[(1,ptr b1 0),(3,.int .i64 (j:Int))]) (λj=>[]) (λj=>[w1,w]) (λj=>Gh.no) (λj=>j<=c.bxs.length/\(c.bxs.take j).all (λx:Bx=>decide (x.w.body.length<=200))=true) (λj=>c.bxs.length-j) 0 ⟨dx _,rfl⟩ ⟨rfl,rfl,trivial⟩ rfl rfl z1 ?_;rintro j ⟨hj,Ya⟩;refine B 10 ?_;refine aO ?_ ?_
 ·intro aj;refine B 5 ?_;obtain⟨b0,o0,cs0,t0,fA,iV,mA,hcs,ar⟩:=hC.bxs.get zM;obtain⟨y,hy⟩:=nj c.bxs j zM;refine B 2 ?_;refine rq (.slice (some ⟨b0,o0,none⟩) c.bxs.length c.bc) (aa isAgg96 rfl A0 aP aX trivial rfl) (congrArg (λq=>Value.slice q c.bxs.length c.bc) iV) ?_;refine B 4 ?_;refine rv rfl rfl rfl (aa (v:=.slice y.w.ba y.w.body.length y.w.bc) isAgg64 rfl A1 hcs zZ trivial (by have:=D3 ar hy rfl 3 zQ;simpa[tC]using this)) ?_;refine B 4 ?_;refine aO ?_ ?_
  ·intro aQ;refine B 11 ?_;exact Qe
  intro aQ;refine B 8 ?_;refine PJ.again (j+1) ⟨by omega,n9h Ya hy (decide_eq_true zM)⟩ zM ⟨rfl,rfl,trivial⟩ rfl rfl z1
 intro aj;refine B 7 ?_;have sP:=ncj Ya zM;refine B 5 ?_;refine CJ.loop (α:=Nat) (λj=>[(1,ptr b1 0),(4,.int .i64 (j:Int))]) (λj=>[]) (λj=>[w1,w]) (λj=>Gh.no) (λj=>j<=c.wes.length/\(c.wes.take j).all (λx:We=>decide (x.w.body.length<=200))=true) (λj=>c.wes.length-j) 0 ⟨dx _,rfl⟩ ⟨rfl,rfl,trivial⟩ rfl rfl z1 ?_;rintro j ⟨hj,hwx⟩;refine B 10 ?_;refine aO ?_ ?_
 ·intro cY;refine B 5 ?_;obtain⟨b0,o0,cs0,t0,fA,iV,mA,hcs,ar⟩:=hC.wes.get zM;obtain⟨y,hy⟩:=nj c.wes j zM;refine B 2 ?_;refine rq (.slice (some ⟨b0,o0,none⟩) c.wes.length c.wc) (aa isAgg97 rfl A0 aP aX trivial rfl) (congrArg (λq=>Value.slice q c.wes.length c.wc) iV) ?_;refine B 4 ?_;refine rv rfl rfl rfl (aa (v:=.slice y.w.ba y.w.body.length y.w.bc) isAgg64 rfl A1 hcs zZ trivial (by have:=D3 ar hy rfl 2 zQ;simpa[sH]using this)) ?_;refine B 4 ?_;refine aO ?_ ?_
  ·intro gb;refine B 11 ?_;exact Qe
  intro gb;refine B 8 ?_;refine PJ.again (j+1) ⟨by omega,n9h hwx hy (decide_eq_true zM)⟩ zM ⟨rfl,rfl,trivial⟩ rfl rfl z1
 intro cY;refine B 6 ?_;have haw:=ncj hwx zM;refine B 3 ?_;refine call call72 rfl rfl rfl (λW hS=>nNj c.chs c.ca c.cc W) ?_;refine B 1 ?_;refine nh (t:=40) rfl (λgL=>?_) (λgL=>?_)
 ·replace gL:=ya gL;refine B 6 ?_;refine nh (t:=46) rfl (λjL=>?_) (λjL=>?_)
  ·replace jL:=ya jL;refine B 6 ?_;refine nh (t:=52) rfl (λjE=>?_) (λjE=>?_)
   ·replace jE:=ya jE;refine B 9 ?_;exact Qe
   replace jE:=ya jE;refine B 9 ?_;exact Qe
  replace jL:=ya jL;refine B 15 ?_;exact Qe
 replace gL:=ya gL;refine B 21 ?_;exact Qe
def xH (cs:List Cm):Bool:=decide (cs.length<=7)&&cs.all pB
structure CV (c:Cm):Prop where
 b:c.bxs.length<=9223372036854775807
 w:c.wes.length<=9223372036854775807
theorem HS(cs:List Cm)(J0:∀c∈cs,CV c)(N:Nat)(la:Option Addr)(lc:Nat)(w:World)(hN:N<=w.heap.size)(aN:ah dZ 73 N w la cs)(hC:∀c∈cs,dQ N w c):Calls prog 18 #[.slice la cs.length lc] w (av w (.bool (xH cs))):=by
 refine enter (vs:=[_]) func18 rfl ntmps18 rfl ?_;refine B 13 ?_;refine aO ?_ ?_
 ·intro aj;refine B 7 ?_;exact zKj
 intro aj;refine B 9 ?_;refine CJ.loop (α:=Nat) (λj=>[(0,.slice la cs.length lc),(3,.int .i64 (j:Int))]) (λj=>[]) (λj=>[w]) (λj=>Gh.no) (λj=>j<=cs.length/\(cs.take j).all pB=true) (λj=>cs.length-j) 0 ⟨dx _,rfl⟩ ⟨rfl,rfl,trivial⟩ rfl rfl z1 ?_;rintro j ⟨hj,Jz⟩;refine B 9 ?_;refine aO ?_ ?_
 ·intro aQ;refine B 5 ?_;obtain⟨bl,ol,csl,tl,frl,rfl,jN,uZ,mv⟩:=aN.get zM;obtain⟨c,hc⟩:=nj cs j zM;have hcm:=cB hc;refine B 4 ?_;refine rq (.agg (dZ c)) (ag isAgg99 sizeOf99 rfl A0 uZ zZ trivial (nl mv hc rfl)) (va (nq mv hc rfl)) ?_;refine call call34 rfl rfl rfl (λW hS=>HR c N W (aS hN (hS.links w A0).size) ((hC c hcm).up (ao _) (hS.same A0 hN zU trivial)) (J0 c hcm).b (J0 c hcm).w) ?_;refine B 3 ?_;refine aO ?_ ?_
  ·intro cY;refine B 11 ?_;exact zKj
  intro cY;refine B 8 ?_;refine PJ.again (j+1) ⟨by omega,n9h Jz hc (by simpa using ‹_›)⟩ zM ⟨rfl,rfl,trivial⟩ rfl rfl z1
 intro aQ;refine B 6 ?_;have bT:=ncj Jz zM;refine B 5 ?_;exact zKj
def s4 (s:Sc):Bool:=decide (s.fos.length<=4)&&xH s.cs&&decide (s.lks.length<=6)&&decide (s.fas.length<=8)&&decide (s.pls.length<=10)
theorem nHn(s:Sc)(J0:∀c∈s.cs,CV c)(N:Nat)(w:World)(hN:N<=w.heap.size)(hs:dS N w s):Calls prog 7 #[.agg (rdA s),.slice s.pa s.pls.length s.pc] w (av w (.bool (s4 s))):=by
 refine enter (vs:=[_,_]) func7 rfl ntmps7 rfl ?_;refine B 2 ?_;refine yX ?_;intro b2 w2 aI aE dY cA db;refine B 6 ?_;refine rr (.slice s.fa s.fos.length s.fc) (aa isAgg22 rfl A0 aI aE trivial rfl) ?_;refine B 3 ?_;refine nh (t:=9) rfl (λaj=>?_) (λaj=>?_)
 ·replace aj:=ya aj;refine B 1 ?_;refine rr (.slice s.la s.cs.length s.lc) (aa isAgg24 rfl A0 aI aE trivial rfl) ?_;refine call call18 rfl rfl rfl (λW hS=>HS s.cs J0 N s.la s.lc W (aS hN (hS.links w A1).size) (hs.cs.up (ao _) (hS.same A1 hN zU trivial)) (λc hc=>(hs.cm c hc).up (ao _) (hS.same A1 hN zU trivial))) ?_;refine B 2 ?_;refine nh (t:=14) rfl (λaQ=>?_) (λaQ=>?_)
  ·replace aQ:=ya aQ;refine B 1 ?_;refine rr (.slice s.ka s.lks.length s.kc) (aa isAgg27 rfl A0 aI aE trivial rfl) ?_;refine B 4 ?_;refine nh (t:=20) rfl (λcY=>?_) (λcY=>?_)
   ·replace cY:=ya cY;refine B 1 ?_;refine rr (.slice s.xa s.fas.length s.xc) (aa isAgg28 rfl A0 aI aE trivial rfl) ?_;refine B 4 ?_;refine nh (t:=26) rfl (λgb=>?_) (λgb=>?_)
    ·replace gb:=ya gb;refine B 8 ?_;exact UP
    replace gb:=ya gb;refine B 8 ?_;exact UP
   replace cY:=ya cY;refine B 14 ?_;exact UP
  replace aQ:=ya aQ;refine B 20 ?_;exact UP
 replace aj:=ya aj;refine B 25 ?_;exact UP
structure ChI (x:Ch):Prop where
 kind:fO x.kind
 dev:fO x.dev
 pub:fO x.pub
 ver:fO x.ver
 cut:fO x.cut
structure BxI (x:Bx):Prop where
 node:fO x.node
 level:fO x.level
 u:fO x.w.u
structure WeI (x:We):Prop where
 dev:fO x.dev
 u:fO x.w.u
structure HT (c:Cm):Prop where
 folder:fO c.folder
 epoch:fO c.epoch
 par:jq c.par
 author:fO c.author
 chs:∀x∈c.chs,ChI x
 path:∀x∈c.path,fO x
 bxs:∀x∈c.bxs,BxI x
 wes:∀x∈c.wes,WeI x
 conf:jq c.conf
 sr:fO c.sr
 ss:fO c.ss
 lim:CV c
theorem YJ(n:Nat)(hn:n<=100):∀ls:List (List V),(∀l∈ls,l.all oZ=true/\l.length<=n/\V.fineL l)->V.fineL (ls.map V.list)/\V.depthL (ls.map V.list)<=1
 | [],_=>by simp[V.fineL,V.depthL]
 |l::ls,h=>by
  obtain⟨h1,h2⟩:=YJ n hn ls (λx hx=>h x (.tail _ hx));obtain⟨g1,g2,g3⟩:=h l A0;obtain⟨_,g4⟩:=WH l g1 g3;simp only[eF,V.fineL,V.fine,V.depthL,V.depth,g4];exact⟨⟨⟨by omega,by omega,g3⟩,h1⟩,by omega⟩
theorem nim:∀l:List Int,(∀x∈l,fO x)->V.fineL (l.map V.int)/\V.depthL (l.map V.int)=0
 | [],_=>by simp[V.fineL,V.depthL]
 |y::l,h=>by
  obtain⟨h1,h2⟩:=nim l (λx hx=>h x (.tail _ hx));simp only[eF,V.fineL,V.fine,V.depthL,V.depth,h2];exact⟨⟨h y A0,h1⟩,by omega⟩
theorem YK{l:List V}(h:V.fineL l)(hl:l.length<=1000000000)(hd:V.depthL l<=1000000000):V.fine (.list l):=by simp only[V.fine];exact⟨hl,hd,h⟩
theorem CW{c:Cm}(h:pB c=true):(∀x∈c.bxs,x.w.body.length<=200)/\(∀x∈c.wes,x.w.body.length<=200)/\c.chs.length<=10/\c.path.length<=12/\c.bxs.length<=40/\c.wes.length<=10:=by
 simpa[pB,and_assoc]using h
theorem HU{c:Cm}(h:HT c)(hf:pB c=true):cI c:=by
 obtain⟨f1,f2,f3,f4,f5,f6⟩:=CW hf;refine⟨⟨h.par,h.conf,f3,f4,f5,f6,f1,f2⟩,?_⟩;have a1:=YJ 100 zQ (c.chs.map yw) (λl hl=>by
  obtain⟨x,hx,rfl⟩:=bU.1 hl;have g:=h.chs x hx;refine⟨by simp[yw,oZ],by simp[yw],?_⟩;simp only[yw,V.fineL,V.fine];exact⟨g.kind,g.dev,g.pub,g.ver,g.cut,trivial⟩)
 have a2:=nim c.path h.path;have a3:=YJ 100 zQ (c.bxs.map qQ) (λl hl=>by
  obtain⟨x,hx,rfl⟩:=bU.1 hl;have g:=h.bxs x hx;have g2:=f1 x hx;refine⟨by simp[qQ,oZ],by simp[qQ],?_⟩;simp only[qQ,V.fineL,V.fine];exact⟨g.node,g.level,g.u,by rw[XD];omega,trivial⟩)
 have a4:=YJ 100 zQ (c.wes.map qR) (λl hl=>by
  obtain⟨x,hx,rfl⟩:=bU.1 hl;have g:=h.wes x hx;have g2:=f2 x hx;refine⟨by simp[qR,oZ],by simp[qR],?_⟩;simp only[qR,V.fineL,V.fine];exact⟨g.dev,g.u,by rw[XD];omega,trivial⟩)
 simp only[ml,V.fineL];refine⟨by simp only[V.fine];exact h.folder,by simp only[V.fine];exact h.epoch,by simp only[V.fine];rw[XD,nO];omega,by simp only[V.fine];exact h.author,YK a1.1 (by simp only[fy];omega) zM,YK a2.1 (by simp only[fy];omega) zM,YK a3.1 (by simp only[fy];omega) zM,YK a4.1 (by simp only[fy];omega) zM,by simp only[V.fine];rw[XD,nO];omega,by simp only[V.fine];exact h.sr,by simp only[V.fine];exact h.ss,trivial⟩
def HV:List TK:=kA 32 [.i]
theorem eqA61:tz prog 2 61 HV:=tz.array underlying61 sizeOf5 rfl ((lR.int underlying5 isAgg5).up zQ:lR prog 1 5 [.i])
theorem UQ:prog.eqGuardType prog.depth 61=false:=by kernel_rfl
def UR:List TK:=[.i]++([.i]++(HV++([])))
theorem eqA63:tz prog 3 63 UR:=tz.struct underlying63 zT (mx.c rfl zQ ((lR.int underlying3 isAgg3).up zQ:lR prog 2 3 [.i]) (mx.c rfl zQ ((lR.int underlying3 isAgg3).up zQ:lR prog 2 3 [.i]) (mx.c rfl zQ ((lR.agg isAgg61 sizeOf61 rfl eqA61).up zQ:lR prog 2 61 HV) (mx.n))))
theorem US:prog.eqGuardType prog.depth 63=false:=by kernel_rfl
structure xI (s:Sc):Prop where
 cm:∀c∈s.cs,HT c
 lk:∀l∈s.lks,cW l
 fa:∀f∈s.fas,kL f
theorem NO(h:s4 s=true):s.fos.length<=4/\s.cs.length<=7/\(∀c∈s.cs,pB c=true)/\s.lks.length<=6/\s.fas.length<=8/\s.pls.length<=10:=by
 simpa[s4,xH,and_assoc,pV]using h
theorem xI.ok(h:xI s)(hf:s4 s=true):eP s:=by
 obtain⟨h1,h2,h3,h4,h5,h6⟩:=NO hf;exact⟨by omega,by omega,λc hc=>HU (h.cm c hc) (h3 c hc),by omega,h.lk,by omega,h.fa,by omega⟩
theorem ah.unmap{α β:Type}{enc:β->Array Value}{f:α->β}{n:Nat}{w:World}{xs:List α}(h:ah enc n N w a (xs.map f)):ah (λx=>enc (f x)) n N w a xs:=by
 rcases h with h|⟨b,off,cs,t,fr,h1,h2,h3,h4⟩
 ·exact .inl (List.map_eq_nil_iff.1 h)
 refine .inr ⟨b,off,cs,t,fr,h1,h2,h3,λi hi=>?_⟩;have h5:=h4 i (by rw[fy];exact hi);rwa[J3]at h5
theorem CY{α:Type}{p:α->Bool}{xs:List α}(h:(xs.take j).any p=true):(xs.take (j+1)).any p=true:=by
 obtain⟨x,hx,hp⟩:=List.any_eq_true.1 h;refine List.any_eq_true.2 ⟨x,?_,hp⟩;rw[List.take_add_one];exact cS.2 (.inl hx)
theorem CZ{α:Type}{p:α->Bool}{xs:List α}{x:α}(hx:xs[j]? =some x)(h:(xs.take j).any p=false):(xs.take (j+1)).any p=p x:=by
 rw[nC hx,List.any_append,h];simp
theorem C0{α:Type}{p:α->Bool}{xs:List α}(h:¬j<xs.length):(xs.take j).any p=xs.any p:=by rw[jo zM]
def gfA (p:Gp×Fa):Array Value:=dg p.1.last
noncomputable def jd (Z:Fx) (s:Sc) (lk:Lk):List (Gp×Fa):=if dq Z s 256 lk=true then py Z s lk else[]
theorem nvn(Z:Fx)(s:Sc)(lk:Lk):gJ Z s lk=(jd Z s lk).map λp=>dk p.1.last:=by
 unfold gJ jd;split<;>rfl
theorem nKl{im:Im}{p:Gp×Fa}(ha:dq Z s 256 lk=true)(hf:(py Z s lk).find? (λp=>fE p.1.last im.com)=some p):dz Z s lk im=kb p.2.n im.cap:=by unfold dz;rw[if_pos ha,hf]
theorem nel{im:Im}(ha:dq Z s 256 lk=true)(hf:(py Z s lk).find? (λp=>fE p.1.last im.com)=none):dz Z s lk im=(pz,400):=by unfold dz;rw[if_pos ha,hf]
theorem HW{im:Im}(h:¬(dz Z s lk im).2=0):(dz Z s lk im).1=pz/\decide ((dz Z s lk im).2=400)= !((jd Z s lk).any λp=>fE p.1.last im.com):=by
 by_cases ha:dq Z s 256 lk=true
 ·have hr:jd Z s lk=py Z s lk:=if_pos ha;cases hf:(py Z s lk).find? (λp=>fE p.1.last im.com)with
  |none=>
   have h1:((py Z s lk).any λp=>fE p.1.last im.com)=false:=by
    rw[List.any_eq_false];intro x hx;exact List.find?_eq_none.1 hf x hx
   rw[nel ha hf,hr,h1];exact⟨rfl,rfl⟩
  |some p=>
   have h1:((py Z s lk).any λp=>fE p.1.last im.com)=true:=List.any_eq_true.2 ⟨p,Yw hf,List.find?_some (p:=λp:Gp×Fa=>fE p.1.last im.com) hf⟩;rw[nKl ha hf]at h ⊢;by_cases hc:cE im.cap.ca/\cE im.cap.cb
   ·exact absurd (by unfold kb;rw[if_pos hc]) h
   rw[show kb p.2.n im.cap=(pz,110)from if_neg hc,hr,h1];exact⟨rfl,rfl⟩
 rw[show dz Z s lk im=(pz,400)from if_neg ha,show jd Z s lk=[]from if_neg ha];exact⟨rfl,rfl⟩
theorem NS{im:Im}(h:(dz Z s lk im).2=0):((jd Z s lk).any λp=>fE p.1.last im.com)=true/\(dz Z s lk im).1.cb=im.cap.cb/\(dz Z s lk im).1.pad=im.cap.pad:=by
 by_cases ha:dq Z s 256 lk=true
 ·have hr:jd Z s lk=py Z s lk:=if_pos ha;cases hf:(py Z s lk).find? (λp=>fE p.1.last im.com)with
  |none=>rw[nel ha hf]at h;exact absurd (show((400:Int))=0 from h) zQ
  |some p=>
   refine⟨by rw[hr];exact List.any_eq_true.2 ⟨p,Yw hf,List.find?_some (p:=λp:Gp×Fa=>fE p.1.last im.com) hf⟩,?_⟩;rw[nKl ha hf]at h ⊢;by_cases hc:cE im.cap.ca/\cE im.cap.cb
   ·rw[show kb p.2.n im.cap=({im.cap with ca:=(gExp im.cap.ca p.2.n).1},0)from if_pos hc];exact⟨rfl,rfl⟩
   rw[show kb p.2.n im.cap=(pz,110)from if_neg hc]at h;exact absurd (show((110:Int))=0 from h) zQ
 rw[show dz Z s lk im=(pz,400)from if_neg ha]at h;exact absurd (show((400:Int))=0 from h) zQ
theorem nFm(hZ:FxOk Z)(s:Sc)(hin:xI s)(N:Nat)(w:World)(hN:N<=w.heap.size)(hs:dS N w s)(lk:Lk)(hlk:cW lk)(hg:Glb w)(im:Im)(hf:s4 s=false):Calls prog 5 #[.agg (rdA s),.slice s.pa s.pls.length s.pc,.agg (lkC lk),.agg (imA im)] w (av w (.bool true)):=by
 have ew:=hg.lt;refine enter (vs:=[_,_,_,_]) func5 rfl ntmps5 rfl ?_;refine B 2 ?_;refine yX ?_;intro b4 w4 cT dI k4 dD dH;refine yX ?_;intro b6 w6 wz wB OV gm kg;refine yX ?_;intro b7 w7 vt xY KF fu lG;refine B 6 ?_;refine zxi ?_;refine B 1 ?_;refine call (v:=.bool false) call7 rfl rfl rfl (λW hS=>by have h9:=nHn s (λc hc=>(hin.cm c hc).lim) N W (aS hN (hS.links w A3).size) (hs.up (ao _) (hS.same A3 hN zU trivial));rwa[hf]at h9) ?_;refine B 11 ?_;refine ay results5 rfl A3 ?_;rfl
theorem n9n(hZ:FxOk Z)(s:Sc)(hin:xI s)(N:Nat)(w:World)(hN:N<=w.heap.size)(hs:dS N w s)(lk:Lk)(hlk:cW lk)(hg:Glb w)(im:Im)(hf:s4 s=true):Calls prog 5 #[.agg (rdA s),.slice s.pa s.pls.length s.pc,.agg (lkC lk),.agg (imA im)] w (av w (.bool true)):=by
 have ew:=hg.lt;have ho:=hin.ok hf;refine enter (vs:=[_,_,_,_]) func5 rfl ntmps5 rfl ?_;refine B 2 ?_;refine yX ?_;intro b4 w4 cT dI k4 dD dH;refine yX ?_;intro b6 w6 wz wB OV gm kg;refine yX ?_;intro b7 w7 vt xY KF fu lG;refine B 6 ?_;refine zxi ?_;refine B 1 ?_;refine call (v:=.bool true) call7 rfl rfl rfl (λW hS=>by have h9:=nHn s (λc hc=>(hin.cm c hc).lim) N W (aS hN (hS.links w A3).size) (hs.up (ao _) (hS.same A3 hN zU trivial));rwa[hf]at h9) ?_;refine B 13 ?_;refine zog ?_;refine B 1 ?_;refine rr (.agg (lkC lk)) (af isAgg38 sizeOf38 rfl A1 wz wB trivial rfl) ?_;refine nr (α:=Option Addr×Nat) (v:=λq=>.slice q.1 (gJ Z s lk).length q.2) (Φ:=λW q w1=>ah (λx=>(eI x).toArray) 32 w1.heap.size w1 q.1 (gJ Z s lk)/\(∀p,q.1=some p->W.heap.size<=p.block)/\(gJ Z s lk).length<=20000) call8 rfl rfl rfl (λW hS=>n9k hZ s ho N W (aS hN (hS.links w A3).size) (hs.up (ao _) (hS.same A3 hN zU trivial)) lk hlk (hg.old hS A3 zU trivial)) ?_;rintro Wq ⟨a7,c7⟩ wq Xw hBq ⟨kM,tN,Z0⟩;have hzq:=hBq.size;have ahY:=(Xw.links w A3).size;have mh:(gJ Z s lk).length=(jd Z s lk).length:=by rw[nvn,fy]
 have sW:ah gfA 32 wq.heap.size wq a7 (jd Z s lk):=by rw[nvn]at kM;exact kM.unmap
 refine B 10 ?_;refine CJ.loop (α:=Nat) (λj=>[(1,.slice s.pa s.pls.length s.pc),(4,ptr b4 0),(6,ptr b6 0),(7,ptr b7 0),(9,.bool (((jd Z s lk).take j).any (λp:Gp×Fa=>fE p.1.last im.com))),(10,.slice a7 (gJ Z s lk).length c7),(11,.int .i64 (j:Int))]) (λj=>[]) (λj=>[wq,w7,w6,w4,w]) (λj=>Gh.no) (λj=>j<=(jd Z s lk).length) (λj=>(jd Z s lk).length-j) 0 (dx _) zR rfl rfl z1 ?_;rintro j hj;refine B 9 ?_;refine aO ?_ ?_
 ·intro aj;refine B 4 ?_;cases hb:((jd Z s lk).take j).any (λp:Gp×Fa=>fE p.1.last im.com)with
  |true=>
   refine zMh ?_;refine nk 8 [.det [] _,.det [0] _,.det [1] undef,.det [1] undef,.det [1,2,3] undef,.det [1,4] undef,.det [1] undef,.det [1,6] undef] zT (xc zO (xc zO (xc zN (xc zN (xc zN (xc zN (xc zN (xc zN (xn))))))))) zT zT zT (λae=>?_);refine B 11 ?_;refine PJ.again (j+1) zM zM ⟨rfl,rfl,rfl,rfl,congrArg (λb=>some (Value.bool b)) (CY hb).symm,rfl,rfl,trivial⟩ rfl rfl z1
  |false=>
   obtain⟨bo,oo,cs0,to,fA,rfl,fG,hcs,ar⟩:=sW.get zM;obtain⟨p,hp⟩:=nj (jd Z s lk) j zM;refine zMh ?_;refine nk 8 [.det [] _,.det [0] _,.det [1] _,.det [1] _,.det [1,2,3] _,.det [1,4] _,.det [1] _,.det [1,6] _] zT (xc zO (xc zO (xc zO (xc zO (xc zfe (xc (by exact λae=>X.val rfl rfl (RV.re (v':=.agg (dg p.1.last)) (ag isAgg34 sizeOf34 rfl A0 hcs zZ trivial (nl ar hp rfl)) (va (nq ar hp rfl))) (λ_ _=>rfl)) (xc (by exact λae=>X.val rfl rfl (ak underlying66 rfl sizeOf34 rfl) (λ_ _=>rfl)) (xc (by exact λae=>X.val rfl rfl (RV.re (v':=.agg (dg im.com)) (ag isAgg34 sizeOf34 rfl A1 vt xY trivial (aT rfl)) (rfl)) (λ_ _=>rfl)) (xn))))))))) zT zT zT (λae=>?_);refine rr (.bool (fE p.1.last im.com)) (fF uB zQ nX rfl rfl rfl) ?_;refine B 10 ?_;refine PJ.again (j+1) zM zM ⟨rfl,rfl,rfl,rfl,congrArg (λb=>some (Value.bool b)) (CZ hp hb).symm,rfl,rfl,trivial⟩ rfl rfl z1
 intro aj;refine B 7 ?_;refine rr (.agg (rdA s)) (af isAgg31 sizeOf31 rfl A3 cT dI trivial rfl) ?_;refine B 1 ?_;refine rr (.agg (lkC lk)) (af isAgg38 sizeOf38 rfl A2 wz wB trivial rfl) ?_;refine rr (.agg (imA im)) (af isAgg66 sizeOf66 rfl A1 vt xY trivial rfl) ?_;refine call (v:=.tuple #[.agg (kn (dz Z s lk im).1),.int .i64 (dz Z s lk im).2]) call14 rfl rfl rfl (λW hS=>nxm hZ s ho N W (aS hN (hS.links w A4).size) (hs.up (ao _) (hS.same A4 hN zU trivial)) lk hlk (hg.old hS A4 zU trivial) im) ?_;refine B 3 ?_;refine Lc ?_;refine yW ?_;intro jH Ft Fu;refine aV (i:=0) rfl sizeOf63 rfl rfl rfl rfl rfl rfl ?_;refine B 5 ?_;have bT:=C0 (p:=(λp:Gp×Fa=>fE p.1.last im.com)) (show ¬j<(jd Z s lk).length by omega);by_cases he:(dz Z s lk im).2=0
 ·obtain⟨h1,h2,h3⟩:=NS he;refine B 2 ?_;refine z4h ?_;refine B 7 ?_;refine rq (.bool true) (fh rfl) (vb (bT.trans h1)) ?_;refine B 2 ?_;refine rq (.int .i64 im.cap.cb) (aH (i:=0) rfl isAgg3 rfl rfl) ((vi h2)) ?_;refine B 2 ?_;refine rr (.int .i64 im.cap.cb) (aa isAgg3 rfl A1 vt xY zL rfl) ?_;refine rq (.bool true) (cM rfl rfl) (vb z1) ?_;refine B 3 ?_;refine rq (.agg (dg im.cap.pad)) (cN (i:=0) rfl isAgg61 sizeOf61 rfl (aT rfl)) ((congrArg (λf=>Value.agg (dg f)) h3)) ?_;refine B 2 ?_;refine rr (.agg (dg im.cap.pad)) (ag isAgg61 sizeOf61 rfl A1 vt xY zL (aT rfl)) ?_;refine rq (.bool true) (fF eqA61 zQ UQ rfl rfl rfl) (vb (WO (ks:=HV) (ys:=(dg im.cap.pad).toList) rfl)) ?_;refine B 5 ?_;refine bG (.inl rfl) results5 (RS.t rfl (RS.n)) A4 zS ?_;rfl
 obtain⟨h1,h2⟩:=HW he;refine B 2 ?_;refine rq (.bool true) (bM rfl rfl) (vb (by simp[he])) ?_;refine B 6 ?_;refine rq (.bool (!((jd Z s lk).any (λp:Gp×Fa=>fE p.1.last im.com)))) (cM rfl rfl) (vb h2) ?_;refine rq (.bool ((jd Z s lk).any (λp:Gp×Fa=>fE p.1.last im.com))) (fh rfl) (vb bT) ?_;refine B 1 ?_;refine rq (.bool true) (AW underlying4 rfl rfl) (vb z1) ?_;refine B 1 ?_;refine rq (.agg (kn pz)) (aK (i:=0) rfl isAgg63 sizeOf63 rfl rfl) ((congrArg (λc=>Value.agg (kn c)) h1)) ?_;refine rr (.agg (kn pz)) (bL underlying63 zeroValue63 (bA.c sizeOf3 (bA.c sizeOf3 (bA.c sizeOf61 (bA.n)))) rfl rfl) ?_;refine rq (.bool true) (fF eqA63 zQ US rfl rfl rfl) (vb (WO (ks:=UR) (ys:=(kn pz).toList) rfl)) ?_;refine B 6 ?_;refine bG (.inl rfl) results5 (RS.t rfl (RS.n)) A4 zS ?_;rfl
theorem law40_LinksTurns(hZ:FxOk Z)(s:Sc)(hin:xI s)(N:Nat)(w:World)(hN:N<=w.heap.size)(hs:dS N w s)(lk:Lk)(hlk:cW lk)(hg:Glb w)(im:Im):Calls prog 5 #[.agg (rdA s),.slice s.pa s.pls.length s.pc,.agg (lkC lk),.agg (imA im)] w (av w (.bool true)):=by
 cases hf:s4 s with
 |false=>exact nFm hZ s hin N w hN hs lk hlk hg im hf
 |true=>exact n9n hZ s hin N w hN hs lk hlk hg im hf
end Px
