/- Contracts of functions of the program. No condition beyond those stated. -/
import Derived.Test.YtpgobjebhigaoaaGreatDoorKh
import Derived.Test.YtpgobjebhigaoaaGreatDoorProg
set_option linter.unusedSimpArgs false
set_option linter.unusedVariables false
set_option linter.unusedSectionVars false
set_option linter.unnecessarySimpa false
set_option maxRecDepth 20000
set_option maxHeartbeats 8000000
namespace Px
open Go Go.RowKit Go.Proofs Go.Proofs.Tryz
theorem Bi{Z:Fx}{s:Sc}:∀(n:Nat) (l:Lk),dp Z s n l=true->dp Z s (n+1) l=true
 |0,l,h=>by
  by_cases hb:l.by_= -1
  ·rw[nel hb]at h;cases h
  cases hv:nu l with
  |false=>rw[WI hv]at h;cases h
  |true=>rw[nPl hv hb]at h ⊢;exact h
 |n+1,l,h=>by
  cases hv:nu l with
  |false=>rw[WI hv]at h;cases h
  |true=>
   by_cases hb:l.by_= -1
   ·cases hp:eM Z s.lks l with
    |none=>rw[nBh hb hp]at h;cases h
    |some p=>
     rw[WJ hv hb hp,fm]at h ⊢;exact⟨h.1,Bi n p h.2⟩
   rw[nPl hv hb]at h ⊢;exact h
variable {kv:jw} {Z:Fx} {lks:List Lk} {pls:List Pl} {j:Nat} {p:Pl} {s:Sc}
theorem FY{l:Lk}{n:Nat}(h:dp Z s (n+1) l=true)(hb:l.by_= -1):∃p,eM Z s.lks l=some p/\fC Z s.pls l p=true/\dp Z s (n+1) p=true:=by
 cases hv:nu l with
 |false=>rw[WI hv]at h;cases h
 |true=>
  cases hp:eM Z s.lks l with
  |none=>rw[nBh hb hp]at h;cases h
  |some p=>
   rw[WJ hv hb hp,fm]at h;exact⟨p,rfl,h.1,Bi n p h.2⟩
theorem LS{l p:Lk}(h:fC Z pls l p=true):p.resh=true/\l.exp<=p.exp/\(p.fo=l.fo\/p.fo∈cG (nq pls) l.fo):=by
 unfold fC SO at h;simp only[fm,Bool.or_eq_true,decide_eq_true_eq,List.any_eq_true]at h;obtain⟨⟨⟨⟨_,h1⟩,h2⟩,h3⟩,_⟩:=h;refine⟨h1,h2,h3.imp id λ⟨x,hx,e⟩=>?_⟩;rw[e];exact hx
def FZ (kv:jw):Prop:=∀k q,av kv k=some q->0<=q.par->(av kv q.par).isSome=true
theorem FZ.nil:FZ []:=λk q h=>by simp[av,dF]at h
theorem FZ.put(h:FZ kv)(hp:0<=p.par->(av kv p.par).isSome=true):FZ (bQ kv p.fol p):=by
 have key:∀x,(av kv x).isSome=true->(av (bQ kv p.fol p) x).isSome=true:=λx hx=>by
  rw[WB];split
  ·rfl
  exact hx
 intro k q hk h0;rw[WB]at hk;by_cases e:k=p.fol
 ·rw[if_pos e]at hk;cases hk;exact key _ (hp h0)
 rw[if_neg e]at hk;exact key _ (h k q hk h0)
theorem Ip(ys:List Pl):∀j,j<=ys.length->FZ (gN ys j)
 |0,_=>FZ.nil
 |j+1,h=>by
  obtain⟨p,hp⟩:=nj ys j zJ;have h1:=Ip ys j zJ;rw[wH hp];by_cases hb:LI (gN ys j) p
  ·rw[Ie hb];exact h1
  rw[N5 hb];refine h1.put λh0=>?_;cases hk:(av (gN ys j) p.par).isSome with
  |true=>rfl
  |false=>exact absurd (.inl ⟨h0,.inl hk⟩) hb
theorem Bj(l:List Pl):FZ (nq l):=Ip _ _ (ao _)
theorem nOh(h:jx kv){f a:Int}(ha:a∈cG kv f):∃p,av kv f=some p/\0<=p.par/\cG kv f=p.par::cG kv p.par:=by
 cases hk:av kv f with
 |none=>rw[nMh h hk]at ha;cases ha
 |some p=>
  by_cases h0:0<=p.par
  ·exact⟨p,rfl,h0,LA h hk h0⟩
  rw[nxj h hk h0]at ha;cases ha
theorem Bk{kv:jw}(h:jx kv)(hc:FZ kv){a:Int}:∀(n:Nat) (f:Int),(cG kv f).length<=n->a∈cG kv f->(av kv a).isSome=true
 |0,f,hn,ha=>by have:=List.length_pos_of_mem ha;omega
 |n+1,f,hn,ha=>by
  obtain⟨p,hk,h0,e⟩:=nOh h ha;rw[e]at ha hn;rcases cI.1 ha with rfl|ha
  ·exact hc _ _ hk h0
  exact Bk h hc n p.par (by simp only[dQ]at hn;omega) ha
theorem nTk{kv:jw}(h:jx kv){a b:Int}(pb:a∈cG kv b):∀(n:Nat) (c:Int),(cG kv c).length<=n->b∈cG kv c->a∈cG kv c
 |0,c,hn,hb=>by have:=List.length_pos_of_mem hb;omega
 |n+1,c,hn,hb=>by
  obtain⟨p,hk,h0,e⟩:=nOh h hb;rw[e]at hb hn ⊢;rcases cI.1 hb with rfl|hb
  ·exact .tail _ pb
  exact .tail _ (nTk h pb n p.par (by simp only[dQ]at hn;omega) hb)
theorem nQi{f o:Int}:fX kv f o=true↔o∈cG kv f\/f=o:=by
 unfold fX;simp
theorem Bl{k:Int}(h:av kv k=some p):k∈kv.map (·.1):=bW.2 ⟨(k,p),nIj h,rfl⟩
theorem nsj{f x:Int}:x∈fh pls f↔(av (nq pls) f).isSome=true/\x∈(nq pls).map (·.1)/\fX (nq pls) x f=true:=by
 unfold fh;split
 ·rename_i h;rw[show(x∈de (((nq pls).map (·.1)).filter λk=>fX (nq pls) k f))↔x∈(((nq pls).map (·.1)).filter λk=>fX (nq pls) k f)from List.mem_mergeSort,sP];simp[h]
 rename_i h;simp[h]
theorem F0{f g:Int}(h:g=f\/g∈cG (nq pls) f){x:Int}(hx:x∈eN pls f):x∈eN pls g:=by
 rcases h with rfl|h
 ·exact hx
 have hF:=(Ig pls).1;have hC:=Bj pls
 obtain⟨p,hk,h0,e⟩:=nOh hF h;have hg:(av (nq pls) g).isSome=true:=Bk hF hC _ _ (ao _) h;rw[FU]at hx ⊢;rcases hx with rfl|hx
 ·exact .inr (nsj.2 ⟨hg,Bl hk,nQi.2 (.inl h)⟩)
 obtain⟨_,h2,h3⟩:=nsj.1 hx;refine .inr (nsj.2 ⟨hg,h2,nQi.2 (.inl ?_)⟩);rcases nQi.1 h3 with h4|rfl
 ·exact nTk hF h _ _ (ao _) h4
 exact h
theorem nNo{l p x:Lk}(h:eM Z lks l=some p)(hb:l.by_= -1)(dm:eI (λx=>jS (lV Z x) l.par) lks j)(hx:lks[j]? =some x)(he:jS (lV Z x) l.par=true):x=p:=by
 unfold eM at h;rw[if_pos hb,dm.find hx he]at h;exact Option.some.inj h
theorem nMm{l p:Lk}(h:eM Z lks l=some p)(hb:l.by_= -1)(dm:eI (λx=>jS (lV Z x) l.par) lks j)(hj:¬j<lks.length):False:=by
 unfold eM at h;rw[if_pos hb,List.find?_eq_none.2 (λx hx=>by have:=List.any_eq_false.1 (Nv dm hj) x hx;simpa using this)]at h;cases h
theorem nzo(hZ:FxOk Z)(s:Sc)(hin:rz s)(N:Nat)(w:World)(hN:N<=w.heap.size)(hs:eu N w s)(lk:Lk)(hlk:cY lk)(hg:Glb w)(hf:oF s=false):Calls prog 4 #[.agg (rdA s),.slice s.pa s.pls.length s.pc,.agg (lkC lk)] w (ay w (.bool true)):=by
 have eE:=hg.lt;refine WQ ?_;refine B 2 ?_;refine yX ?_;intro b3 w3 aM aD da cd cP;refine yX ?_;intro b5 w5 eo eH oQ iH iI;refine B 6 ?_;refine zDf ?_;refine B 9 ?_;refine WL ?_;refine B 1 ?_;refine call (v:=.bool false) call7 rfl rfl rfl (λW hS=>by have h9:=n2g s (λc hc=>(hin.cm c hc).lim) N W (aR hN (hS.links w A2).size) (hs.up (ao _) (hS.same A2 hN zS trivial));rwa[hf]at h9) ?_;refine B 23 ?_;refine ax results4 rfl A2 ?_;rfl
theorem F4(hZ:FxOk Z)(s:Sc)(hin:rz s)(N:Nat)(w:World)(hN:N<=w.heap.size)(hs:eu N w s)(lk:Lk)(hlk:cY lk)(hg:Glb w)(hf:oF s=true)(ha:dp Z s 256 lk=false):Calls prog 4 #[.agg (rdA s),.slice s.pa s.pls.length s.pc,.agg (lkC lk)] w (ay w (.bool true)):=by
 have eE:=hg.lt;have ho:=hin.ok hf;refine WQ ?_;refine B 2 ?_;refine yX ?_;intro b3 w3 aM aD da cd cP;refine yX ?_;intro b5 w5 eo eH oQ iH iI;refine zJh ?_;refine rr (.agg (lkC lk)) (ae isAgg38 sizeOf38 rfl A0 eo eH trivial rfl) ?_;refine call (v:=.bool false) call9 rfl rfl rfl (λW hS=>by have h9:=nzc hZ s ho N W (aR hN (hS.links w A2).size) (hs.up (ao _) (hS.same A2 hN zS trivial)) lk hlk (hg.old hS A2 zS trivial);rwa[ha]at h9) ?_;refine B 17 ?_;refine ax results4 rfl A2 ?_;rfl
theorem F5(hZ:FxOk Z)(s:Sc)(hin:rz s)(N:Nat)(w:World)(hN:N<=w.heap.size)(hs:eu N w s)(lk:Lk)(hlk:cY lk)(hg:Glb w)(hf:oF s=true)(ha:dp Z s 256 lk=true)(hb:¬lk.by_= -1):Calls prog 4 #[.agg (rdA s),.slice s.pa s.pls.length s.pc,.agg (lkC lk)] w (ay w (.bool true)):=by
 have eE:=hg.lt;have ho:=hin.ok hf;refine WQ ?_;refine B 2 ?_;refine yX ?_;intro b3 w3 aM aD da cd cP;refine yX ?_;intro b5 w5 eo eH oQ iH iI;refine zJh ?_;refine zlf ?_;refine B 4 ?_;refine zoh ?_;refine zph ?_;refine B 11 ?_;refine ax results4 rfl A2 ?_;rfl
theorem Bm(hZ:FxOk Z)(s:Sc)(hin:rz s)(N:Nat)(w:World)(hN:N<=w.heap.size)(hs:eu N w s)(lk:Lk)(hlk:cY lk)(hg:Glb w)(hf:oF s=true)(ha:dp Z s 256 lk=true)(hb:lk.by_= -1)(p:Lk)(hp:eM Z s.lks lk=some p)(hap:dp Z s 256 p=true)(hc:fC Z s.pls lk p=true):Calls prog 4 #[.agg (rdA s),.slice s.pa s.pls.length s.pc,.agg (lkC lk)] w (ay w (.bool true)):=by
 have eE:=hg.lt;have ho:=hin.ok hf;have kK:=ho.kl;have afK:=ho.pl;have hwl:=nXl s.pls lk.fo;have qu:=nkn hp;obtain⟨NN,hex,hfo⟩:=LS hc;refine WQ ?_;refine B 2 ?_;refine yX ?_;intro b3 w3 aM aD da cd cP;refine yX ?_;intro b5 w5 eo eH oQ iH iI;refine zJh ?_;refine zlf ?_;refine B 4 ?_;refine zoh ?_;refine rq (.bool false) (cq rfl rfl) (vb (by simp[hb])) ?_;refine B 13 ?_;refine CJ.loop (α:=Nat) (λj=>[(1,.slice s.pa s.pls.length s.pc),(3,ptr b3 0),(5,ptr b5 0),(7,.int .i64 (j:Int))]) (λj=>[]) (λj=>[w5,w3,w]) (λj=>Gh.no) (λj=>j<=s.lks.length/\eI (λx=>jS (lV Z x) lk.par) s.lks j) (λj=>s.lks.length-j) 0 ⟨db _,λi x hi=>absurd hi zJ⟩ zR rfl rfl zX ?_;rintro j ⟨hj,dm⟩;refine B 5 ?_;refine rr (.slice s.ka s.lks.length s.kc) (aa isAgg27 rfl A1 aM aD trivial rfl) ?_;refine B 4 ?_;refine aG ?_ ?_
 ·intro ah;refine B 5 ?_;obtain⟨bo,oo,cs0,to,fk,im,fE,hcs,ar⟩:=hs.lk.get zJ;obtain⟨x,hx⟩:=nj s.lks j zJ;refine B 2 ?_;refine rq (.slice (some ⟨bo,oo,none⟩) s.lks.length s.kc) (aa isAgg27 rfl A1 aM aD trivial rfl) ((by rw[<-im];rfl)) ?_;refine B 2 ?_;refine rq (.agg (lkC x)) (ai isAgg38 sizeOf38 rfl A2 hcs zU trivial (nk ar hx rfl)) (va (nr ar hx rfl)) ?_;refine Nb ?_;refine yW ?_;intro b8 vU vV;refine Qq ?_;refine B 4 ?_;refine CJ.reH (H':=[(b8,.cells (lkC x) 38 (0,0))]) rfl ?_;refine nTn [w5,w3,w] (by intro v hv q hq;simp only[cI,fu,or_false]at hv hq;subst hq;rcases hv with rfl|rfl|rfl<;>(dsimp only;omega)) zX (λw8 hS8=>?_);have Db:w8.heap[b8]? =some (.cells (lkC x) 38 (0,0)):=hS8.own (b8,_) A0;have Dc:¬Gh.no.X b8:=λh=>h;have Ui:=(hS8.links w5 A0).size;refine ng (E':=[(1,_),(3,_),(5,_),(7,_),(8,_),(30,_),(31,_),(32,_),(33,_),(34,_),(37,_),(38,_),(39,_),(40,_),(41,_)]) zR ?_;refine nl 4 [.det [] _,.det [0] (.agg (dg (lV Z x))),.det [] _,.det [2] _] zQ (xc (by exact λaf=>X.val rfl rfl (RV.re (v':=.agg (lkC x)) (ae isAgg38 sizeOf38 rfl A0 Db Dc trivial rfl) (rfl)) (λ_ _=>rfl)) (xc (by exact λaf=>nf call13 rfl rfl (λW hS _=>UL hZ x (hin.lk x (cb hx)) W (hg.old hS A3 zS trivial)) (λ_=>rfl)) (xc UI (xc (by exact λaf=>X.val rfl rfl (RV.re (v':=.agg (dg lk.par)) (ai isAgg34 sizeOf34 rfl A1 eo eH trivial (bj rfl)) (rfl)) (λ_ _=>rfl)) (xn))))) zQ zQ zQ (λaf=>?_)
  refine rr (.bool (!(jS (lV Z x) lk.par))) (ie xX zO xY rfl rfl rfl) ?_;refine B 2 ?_;refine aG ?_ ?_
  ·intro aJ;refine B 9 ?_;exact WM
  intro aJ;refine B 4 ?_;obtain rfl:p=x:=(nNo hp hb dm hx mH).symm;refine B 1 ?_;refine rr (.agg (rdA s)) (ae isAgg31 sizeOf31 rfl A2 aM aD trivial rfl) ?_;refine B 1 ?_;refine rr (.agg (lkC p)) (ae isAgg38 sizeOf38 rfl A0 Db Dc trivial rfl) ?_;refine call (v:=.bool true) call9 rfl rfl rfl (λW hS=>by have h9:=nzc hZ s ho N W (aR hN (hS.links w A3).size) (hs.up (ao _) (hS.same A3 hN zS trivial)) p (hin.lk p qu) (hg.old hS A3 zS trivial);rwa[hap]at h9) ?_;refine B 3 ?_;refine rq (.bool true) (aa isAgg4 rfl A0 Db Dc trivial rfl) (vb NN) ?_;refine B 4 ?_;refine rr (.int .i64 p.exp) (aa isAgg3 rfl A0 Db Dc trivial rfl) ?_;refine B 1 ?_;refine rr (.int .i64 lk.exp) (aa isAgg3 rfl A1 eo eH trivial rfl) ?_;refine tR ?_;refine B 7 ?_;refine ng (E':=[(1,_),(3,_),(5,_),(7,_),(8,_),(30,_),(31,_),(32,_),(33,_),(34,_),(37,_),(38,_),(39,_),(40,_),(41,_),(42,_),(43,_),(44,_),(45,_),(46,_),(47,_),(48,_),(49,_),(50,_),(51,_),(52,_),(53,_),(54,_),(55,_),(56,_),(57,_),(58,_),(59,_),(60,_),(61,_),(62,_),(63,_)]) zR ?_;refine P2 5 [2] [([],some _),([],some (.agg (lkC p))),([0,1],none),([],some _),([],some (.agg (lkC lk)))] [[]] (λcv L' H'=>match cv with| [none]=>L'=[w8,w5,w3,w]/\H'=[]| [some v2]=>∃(a9:Option Addr) (c9:Nat) (w9:World),v2= .slice a9 (eN s.pls p.fo).length c9/\L'=[w9,w8,w5,w3,w]/\H'=[]/\ag encI 1 w9.heap.size w9 a9 (eN s.pls p.fo)|_=>False) zQ ⟨rfl,rfl⟩ zQ zQ zQ zQ zQ zQ rfl (qc R4 (qc zcH (qk (qc R4 (qc zcH (qn)))))) ?_ ?_
  ·refine nc rfl rfl rfl rfl ?_ ?_
   ·intro cv L' H' hl hr hP F Q' hk;obtain⟨x2,rfl⟩:=cM hl;rcases x2 with _|v2
    ·obtain⟨rfl,rfl⟩:=hP;refine nB (α:=Option Addr×Nat) (v:=λq=>.slice q.1 (eN s.pls p.fo).length q.2) (Φ:=λ_ q w1=>ag encI 1 w1.heap.size w1 q.1 (eN s.pls p.fo)) call10 rfl rfl rfl (λW hS=>(nsi s.pls (by have:=ho.pl;omega) s.pa s.pc p N W (aR hN (hS.links w A3).size) (hs.pl.up (ao _) (hS.same A3 hN zS trivial))).mono λe W2 ⟨q,h1,h2,h3,_⟩=>⟨q,h1,h2,h3⟩) ?_;rintro Wc9 ⟨a9,c9⟩ w9 afL afM CK;try dsimp only at CK
     exact OJ.done (hk _ _ _ ⟨a9,c9,w9,rfl,rfl,rfl,CK⟩)
    exact aE
   exact nn
  intro cv L' H' hl hr hP;obtain⟨x2,rfl⟩:=cM hl;rcases x2 with _|v2
  ·exact aE
  obtain⟨a9,c9,w9,rfl,rfl,rfl,CK⟩:=hP;refine nB (α:=Option Addr×Nat) (v:=λq=>.slice q.1 (eN s.pls lk.fo).length q.2) (Φ:=λ_ q w1=>ag encI 1 w1.heap.size w1 q.1 (eN s.pls lk.fo)) call10 rfl rfl rfl (λW hS=>(nsi s.pls (by have:=ho.pl;omega) s.pa s.pc lk N W (aR hN (hS.links w A4).size) (hs.pl.up (ao _) (hS.same A4 hN zS trivial))).mono λe W2 ⟨q,h1,h2,h3,_⟩=>⟨q,h1,h2,h3⟩) ?_;rintro afN ⟨a10,sC⟩ eb aeG aeH S4;try dsimp only at S4
  refine B 11 ?_;refine CJ.loop (α:=Nat) (λi=>[(9,.slice a9 (eN s.pls p.fo).length c9),(10,.slice a10 (eN s.pls lk.fo).length sC),(11,.int .i64 (i:Int))]) (λi=>[]) (λi=>[eb,w9,w8,w5,w3,w]) (λi=>Gh.no) (λi=>i<=(eN s.pls lk.fo).length) (λi=>(eN s.pls lk.fo).length-i) 0 (db _) zR rfl rfl zX ?_;rintro i hi;refine B 9 ?_;refine aG ?_ ?_
  ·intro cO;refine B 5 ?_;obtain⟨bi,oi,csi,ti,fri,rfl,hbi,acW,acX⟩:=S4.get zJ;obtain⟨y,hy⟩:=nj (eN s.pls lk.fo) i zJ;have acY:((eN s.pls p.fo).any λx=>decide (x=y))=true:=List.any_eq_true.2 ⟨y,F0 hfo (cb hy),by simp⟩;refine B 5 ?_;refine rv rfl rfl rfl (aa (v:=.int .i64 y) isAgg3 rfl A0 acW zU trivial (wz acX hy rfl 0 zO)) ?_;refine call (v:=.bool true) call12 rfl rfl rfl (λW hS=>by have h9:=LP (eN s.pls p.fo) (by have:=nXl s.pls p.fo;have:=ho.pl;omega) y w9.heap.size a9 c9 W (hS.links w9 A1).size (CK.up (ao _) (hS.same A1 (ao _) zS trivial));rwa[acY]at h9) ?_;refine B 12 ?_;refine PJ.again (i+1) zJ zJ zR rfl rfl zX
  intro cO;refine B 16 ?_;refine ax results4 rfl A5 ?_;first|rfl|exact(nMm hp hb dm zJ).elim
 intro ah;refine B 11 ?_;refine ax results4 rfl A2 ?_;first|rfl|exact(nMm hp hb dm zJ).elim
theorem law40_LinksParents(hZ:FxOk Z)(s:Sc)(hin:rz s)(N:Nat)(w:World)(hN:N<=w.heap.size)(hs:eu N w s)(lk:Lk)(hlk:cY lk)(hg:Glb w):Calls prog 4 #[.agg (rdA s),.slice s.pa s.pls.length s.pc,.agg (lkC lk)] w (ay w (.bool true)):=by
 cases hf:oF s with
 |false=>exact nzo hZ s hin N w hN hs lk hlk hg hf
 |true=>
  cases ha:dp Z s 256 lk with
  |false=>exact F4 hZ s hin N w hN hs lk hlk hg hf ha
  |true=>
   by_cases hb:lk.by_= -1
   ·obtain⟨p,hp,hc,hap⟩:=FY ha hb;exact Bm hZ s hin N w hN hs lk hlk hg hf ha hb p hp hap hc
   exact F5 hZ s hin N w hN hs lk hlk hg hf ha hb
end Px
